/- Expressions from tokens, over plain data: what is read, and that reading ends. -/
import Derived.Test.YtgpbobelbcbcaaaGreatDoorTkE
import Derived.Test.YtgpbobelbcbcaaaGreatDoorExA
set_option linter.unusedVariables false
set_option linter.unusedSimpArgs false
set_option linter.unnecessarySimpa false
namespace Go.Tk
open Go Go.Eng
set_option linter.unusedSimpArgs false
set_option linter.unusedVariables false
def qgB (s:Bs):Int:=bif qeK s then 5 else 4
def isW (s:Bs):List Tok -> Bool
 | []=>false
 | t :: _=>t.text == s && t.kind == qgB s
def qk4 (s:Bs):Option Int:=bif qgG s && !qkO s then some (qa1 0 s:Int) else none
def qdP:List Tok -> Option Int
 | []=>none
 | t :: _=>bif t.kind == 2 then qk4 t.text else none
inductive Rs where
 | bad (r:List Tok)
 | ok (e:Ex) (r:List Tok)
inductive Md where
 | ex | cmp | neg | prim
 | bin (k:Nat)
 | lp (k:Nat) (e:Ex)
def lvS:Nat -> List (Bs × Int)
 | 0=>[([111,114],15)]
 | 1=>[([97,110,100],14)]
 | 2=>[([61,61],10),([33,61],11),([60],12),([60,61],13)]
 | 3=>[([43],5),([45],6)]
 | 4=>[([42],7),([47],8)]
 | _=>[]
def opAt (k:Nat) (l:List Tok):Int:=match (lvS k).find? (fun x=>isW x.1 l) with
 | some x=>x.2
 | none=>0
def qcO (o:Option Rs) (f:Ex -> List Tok -> Option Rs):Option Rs:=match o with
 | none=>none
 | some (.bad r)=>some (.bad r)
 | some (.ok e r)=>f e r
def qbV (s:Bs) (r:List Tok) (k:List Tok -> Option Rs):Option Rs:=bif isW s r then k r.tail else some (.bad r)
def exN (o:Int) (l:List Ex):Ex:=.mk o 0 [] l
def qew (op:Int) (p:List Tok -> Option Rs) (r:List Tok):Option Rs:=
 qbV [40] r fun r=>qcO (p r) fun a r=>qbV [44] r fun r=>qcO (p r) fun b r=>qbV [41] r fun r=>some (.ok (exN op [a,b]) r)
def qgj (l:List Tok):Rs:=match l with
 | []=>.bad []
 | t :: r=>bif t.kind == 1 then .ok (.mk 4 0 t.text []) r
  else bif t.kind == 3 then (bif (qbN t.text).2 == 0 then .ok (.mk 3 (qbN t.text).1 [] []) r else .bad l)
  else match qdP l with
   | some n=>.ok (.mk 1 n [] []) r
   | none=>.bad l
def prs:Nat -> Md -> List Tok -> Option Rs
 | 0,_,_=>none
 | n + 1,.ex,l=>bif isW [105,102] l then
   qcO (prs n .ex l.tail) fun a r=>qbV [116,104,101,110] r fun r=>qcO (prs n .ex r) fun b r=>qbV [101,108,115,101] r fun r=>qcO (prs n .ex r) fun c r=>some (.ok (exN 19 [a,b,c]) r)
  else prs n (.bin 0) l
 | n + 1,.bin k,l=>bif k == 5 then prs n .neg l else bif k == 2 then
   (bif isW [110,111,116] l then qcO (prs n (.bin 2) l.tail) fun a r=>some (.ok (exN 16 [a]) r) else prs n .cmp l)
  else qcO (prs n (.bin (k + 1)) l) fun e r=>prs n (.lp k e) r
 | n + 1,.cmp,l=>qcO (prs n (.bin 3) l) fun e r=>prs n (.lp 2 e) r
 | n + 1,.lp k e,l=>bif opAt k l == 0 then some (.ok e l) else
   qcO (prs n (.bin (k + 1)) l.tail) fun b r=>bif k == 2 then some (.ok (exN (opAt k l) [e,b]) r) else prs n (.lp k (exN (opAt k l) [e,b])) r
 | n + 1,.neg,l=>bif isW [45] l then qcO (prs n .neg l.tail) fun a r=>some (.ok (exN 9 [a]) r) else prs n .prim l
 | n + 1,.prim,l=>bif isW [36] l then (match qdP l.tail with
    | some v=>some (.ok (.mk 2 v [] []) l.tail.tail)
    | none=>some (.bad l.tail))
  else bif isW [109,105,110] l then qew 17 (prs n .ex) l.tail
  else bif isW [109,97,120] l then qew 18 (prs n .ex) l.tail
  else bif isW [40] l then qcO (prs n .ex l.tail) fun e r=>qbV [41] r fun r=>some (.ok e r)
  else some (qgj l)
theorem qzo (n:Nat) (l:List Tok):prs (n + 1) .ex l = (bif isW [105,102] l then
   qcO (prs n .ex l.tail) fun a r=>qbV [116,104,101,110] r fun r=>qcO (prs n .ex r) fun b r=>qbV [101,108,115,101] r fun r=>qcO (prs n .ex r) fun c r=>some (.ok (exN 19 [a,b,c]) r)
  else prs n (.bin 0) l):=rfl
theorem qrA (n:Nat) (k:Nat) (l:List Tok):prs (n + 1) (.bin k) l = (bif k == 5 then prs n .neg l else bif k == 2 then
   (bif isW [110,111,116] l then qcO (prs n (.bin 2) l.tail) fun a r=>some (.ok (exN 16 [a]) r) else prs n .cmp l)
  else qcO (prs n (.bin (k + 1)) l) fun e r=>prs n (.lp k e) r):=rfl
theorem qxe (n:Nat) (l:List Tok):prs (n + 1) .cmp l = (qcO (prs n (.bin 3) l) fun e r=>prs n (.lp 2 e) r):=rfl
theorem qzq (n:Nat) (k:Nat) (e:Ex) (l:List Tok):prs (n + 1) (.lp k e) l = (bif opAt k l == 0 then some (.ok e l) else
   qcO (prs n (.bin (k + 1)) l.tail) fun b r=>bif k == 2 then some (.ok (exN (opAt k l) [e,b]) r) else prs n (.lp k (exN (opAt k l) [e,b])) r):=rfl
theorem qrC (n:Nat) (l:List Tok):prs (n + 1) .neg l = (bif isW [45] l then qcO (prs n .neg l.tail) fun a r=>some (.ok (exN 9 [a]) r) else prs n .prim l):=rfl
theorem qld (n:Nat) (l:List Tok):prs (n + 1) .prim l = (bif isW [36] l then (match qdP l.tail with
    | some v=>some (.ok (.mk 2 v [] []) l.tail.tail)
    | none=>some (.bad l.tail))
  else bif isW [109,105,110] l then qew 17 (prs n .ex) l.tail
  else bif isW [109,97,120] l then qew 18 (prs n .ex) l.tail
  else bif isW [40] l then qcO (prs n .ex l.tail) fun e r=>qbV [41] r fun r=>some (.ok e r)
  else some (qgj l)):=rfl
theorem qb6 {o o':Option Rs} {f f':Ex -> List Tok -> Option Rs} (ho:∀ r,o = some r -> o' = some r) (hf:∀ e r x,f e r = some x -> f' e r = some x) {x:Rs} (h:qcO o f = some x):qcO o' f' = some x:=by
 unfold qcO at h ⊢
 cases o with
 | none=>cases h
 | some q=>
  rw [ho q rfl]
  cases q with
  | bad r=>exact h
  | ok e r=>exact hf _ _ _ h
theorem qdI {s:Bs} {r:List Tok} {f f':List Tok -> Option Rs} (hf:∀ r x,f r = some x -> f' r = some x) {x:Rs} (h:qbV s r f = some x):qbV s r f' = some x:=by
 unfold qbV at h ⊢
 revert h
 cases isW s r
 ·exact fun h=>h
 ·exact fun h=>hf _ _ h
theorem quN {op:Int} {p p':List Tok -> Option Rs} (hp:∀ r x,p r = some x -> p' r = some x) {r:List Tok} {x:Rs} (h:qew op p r = some x):qew op p' r = some x:=by
 unfold qew at h ⊢
 exact qdI (fun r x h=>qb6 (hp r) (fun a r x h=>qdI (fun r x h=>qb6 (hp r) (fun b r x h=>h) h) h) h) h
theorem qgn:∀ (n:Nat) (m:Md) (l:List Tok) (x:Rs),prs n m l = some x -> prs (n + 1) m l = some x:=by
 intro n
 induction n with
 | zero=>intro m l x h; cases h
 | succ n ih=>
  intro m l x h
  cases m with
  | ex=>
   rw [qzo] at h ⊢
   cases hi:isW [105,102] l
   ·rw [hi] at h; exact ih _ _ _ h
   ·rw [hi] at h
    simp only [cond_true] at h ⊢
    exact qb6 (ih _ _) (fun a r x h=>qdI (fun r x h=>qb6 (ih _ _) (fun b r x h=>qdI (fun r x h=>qb6 (ih _ _) (fun c r x h=>h) h) h) h) h) h
  | bin k=>
   rw [qrA] at h ⊢
   cases h5:(k == 5)
   ·rw [h5] at h
    cases h2:(k == 2)
    ·rw [h2] at h
     exact qb6 (ih _ _) (fun e r x h=>ih _ _ _ h) h
    ·rw [h2] at h
     simp only [cond_true,cond_false] at h ⊢
     cases hi:isW [110,111,116] l
     ·rw [hi] at h; exact ih _ _ _ h
     ·rw [hi] at h; exact qb6 (ih _ _) (fun e r x h=>h) h
   ·rw [h5] at h; exact ih _ _ _ h
  | cmp=>rw [qxe] at h ⊢; exact qb6 (ih _ _) (fun e r x h=>ih _ _ _ h) h
  | lp k e=>
   rw [qzq] at h ⊢
   cases h0:(opAt k l == 0)
   ·rw [h0] at h
    simp only [cond_false] at h ⊢
    refine qb6 (ih _ _) (fun b r x h=>?_) h
    cases h2:(k == 2)
    ·rw [h2] at h; exact ih _ _ _ h
    ·rw [h2] at h; exact h
   ·rw [h0] at h; exact h
  | neg=>
   rw [qrC] at h ⊢
   cases hi:isW [45] l
   ·rw [hi] at h; exact ih _ _ _ h
   ·rw [hi] at h; exact qb6 (ih _ _) (fun e r x h=>h) h
  | prim=>
   rw [qld] at h ⊢
   cases h1:isW [36] l
   ·rw [h1] at h
    simp only [cond_false] at h ⊢
    cases h2:isW [109,105,110] l
    ·rw [h2] at h
     simp only [cond_false] at h ⊢
     cases h3:isW [109,97,120] l
     ·rw [h3] at h
      simp only [cond_false] at h ⊢
      cases h4:isW [40] l
      ·rw [h4] at h; exact h
      ·rw [h4] at h; exact qb6 (ih _ _) (fun e r x h=>h) h
     ·rw [h3] at h; exact quN (fun r x h=>ih _ _ _ h) h
    ·rw [h2] at h; exact quN (fun r x h=>ih _ _ _ h) h
   ·rw [h1] at h; exact h
theorem qrB {n k:Nat} (hk:n <= k) {m:Md} {l:List Tok} {x:Rs} (h:prs n m l = some x):prs k m l = some x:=by
 induction hk with
 | refl=>exact h
 | step _ ih=>exact qgn _ _ _ _ ih
def Ev (m:Md) (l:List Tok) (x:Rs):Prop:=∃ n,prs n m l = some x
theorem Ev.fn {m:Md} {l:List Tok} {x y:Rs} (h:Ev m l x) (h':Ev m l y):x = y:=by
 obtain ⟨n,hn⟩:=h
 obtain ⟨k,hk⟩:=h'
 have h1:=qrB (Nat.le_max_left n k) hn
 have h2:=qrB (Nat.le_max_right n k) hk
 rw [h1] at h2; cases h2; rfl
def Thn (x:Rs) (f:Ex -> List Tok -> Rs -> Prop) (y:Rs):Prop:=match x with
 | .bad r=>y = .bad r
 | .ok e r=>f e r y
def Wnt (s:Bs) (r:List Tok) (f:List Tok -> Rs -> Prop) (y:Rs):Prop:=(isW s r = true /\ f r.tail y) \/ (isW s r = false /\ y = .bad r)
theorem Thn.mono {x:Rs} {f g:Ex -> List Tok -> Rs -> Prop} {y:Rs} (h:Thn x f y) (hf:∀ e r y,f e r y -> g e r y):Thn x g y:=by
 cases x with
 | bad r=>exact h
 | ok e r=>exact hf _ _ _ h
theorem Wnt.mono {s:Bs} {r:List Tok} {f g:List Tok -> Rs -> Prop} {y:Rs} (h:Wnt s r f y) (hf:∀ r y,f r y -> g r y):Wnt s r g y:=by
 rcases h with ⟨h1,h2⟩ | h
 ·exact .inl ⟨h1,hf _ _ h2⟩
 ·exact .inr h
theorem qml {s:Bs} {r:List Tok} {F:Nat -> List Tok -> Option Rs} {y:Rs} (h:Wnt s r (fun r y=>∃ n,F n r = some y) y):∃ n,qbV s r (F n) = some y:=by
 rcases h with ⟨h1,n,hn⟩ | ⟨h1,h2⟩
 ·exact ⟨n,by unfold qbV; rw [h1]; exact hn⟩
 ·exact ⟨0,by unfold qbV; rw [h1,h2]; rfl⟩
theorem qgF {m:Md} {l:List Tok} {x y:Rs} {F:Nat -> Ex -> List Tok -> Option Rs} (hx:Ev m l x) (hF:∀ n e r z,F n e r = some z -> F (n + 1) e r = some z) (hy:Thn x (fun e r y=>∃ n,F n e r = some y) y):∃ n,qcO (prs n m l) (F n) = some y:=by
 obtain ⟨n,hn⟩:=hx
 have hF':∀ {n k},n <= k -> ∀ e r z,F n e r = some z -> F k e r = some z:=by
  intro n k hk
  induction hk with
  | refl=>intro e r z h; exact h
  | step _ ih=>intro e r z h; exact hF _ _ _ _ (ih _ _ _ h)
 cases x with
 | bad r=>
  cases hy
  exact ⟨n,by rw [hn]; rfl⟩
 | ok e r=>
  obtain ⟨k,hk⟩:=hy
  refine ⟨max n k,?_⟩
  rw [qrB (Nat.le_max_left n k) hn]
  exact hF' (Nat.le_max_right n k) _ _ _ hk
theorem qc1 {m:Md} {l:List Tok} {y:Rs} {F:Nat -> Option Rs} (he:∀ n,prs (n + 1) m l = F n) (h:∃ n,F n = some y):Ev m l y:=by
 obtain ⟨n,hn⟩:=h
 exact ⟨n + 1,by rw [he,hn]⟩
theorem qto {l:List Tok} {y:Rs} (h0:isW [105,102] l = false) (h:Ev (.bin 0) l y):Ev .ex l y:=qc1 (fun n=>by simp only [prs,h0,cond_false]) h
theorem qqW {l:List Tok} {y:Rs} (h:Ev .neg l y):Ev (.bin 5) l y:=qc1 (fun n=>by simp only [prs]; rfl) h
theorem qwk {l:List Tok} {y:Rs} (h0:isW [110,111,116] l = false) (h:Ev .cmp l y):Ev (.bin 2) l y:=qc1 (fun n=>by simp only [prs,h0,cond_false]; rfl) h
theorem qDZ {l:List Tok} {x y:Rs} (h0:isW [110,111,116] l = true) (h:Ev (.bin 2) l.tail x) (hy:Thn x (fun a r y=>y = .ok (exN 16 [a]) r) y):Ev (.bin 2) l y:=by
 refine qc1 (F:=fun n=>qcO (prs n (.bin 2) l.tail) fun a r=>some (.ok (exN 16 [a]) r)) (fun n=>by simp only [prs,h0,cond_true]; rfl) (qgF h (fun n e r z h=>h) ?_)
 cases x with
 | bad r=>exact hy
 | ok e r=>exact ⟨0,by rw [show y = _ from hy]⟩
theorem qgS {k:Nat} (hk:(k == 5) = false) (hk2:(k == 2) = false) {l:List Tok} {x y:Rs} (h:Ev (.bin (k + 1)) l x) (hy:Thn x (fun e r y=>Ev (.lp k e) r y) y):Ev (.bin k) l y:=
 qc1 (F:=fun n=>qcO (prs n (.bin (k + 1)) l) fun e r=>prs n (.lp k e) r) (fun n=>by simp only [prs,hk,hk2,cond_false]) (qgF h (fun n e r z h=>qgn _ _ _ _ h) hy)
theorem qtn {l:List Tok} {x y:Rs} (h:Ev (.bin 3) l x) (hy:Thn x (fun e r y=>Ev (.lp 2 e) r y) y):Ev .cmp l y:=
 qc1 (F:=fun n=>qcO (prs n (.bin 3) l) fun e r=>prs n (.lp 2 e) r) (fun n=>by simp only [prs]) (qgF h (fun n e r z h=>qgn _ _ _ _ h) hy)
theorem qkL {k:Nat} {e:Ex} {l:List Tok} (h:opAt k l = 0):Ev (.lp k e) l (.ok e l):=⟨1,by simp only [prs,h]; rfl⟩
theorem qR2 {k:Nat} (hk:(k == 2) = false) {e:Ex} {l:List Tok} {x y:Rs} (h0:opAt k l ≠ 0) (h:Ev (.bin (k + 1)) l.tail x) (hy:Thn x (fun b r y=>Ev (.lp k (exN (opAt k l) [e,b])) r y) y):Ev (.lp k e) l y:=
 qc1 (F:=fun n=>qcO (prs n (.bin (k + 1)) l.tail) fun b r=>prs n (.lp k (exN (opAt k l) [e,b])) r) (fun n=>by
  have:(opAt k l == 0) = false:=by simpa using h0
  simp only [prs,this,hk,cond_false]) (qgF h (fun n e r z h=>qgn _ _ _ _ h) hy)
theorem qDX {e:Ex} {l:List Tok} {x y:Rs} (h0:opAt 2 l ≠ 0) (h:Ev (.bin 3) l.tail x) (hy:Thn x (fun b r y=>y = .ok (exN (opAt 2 l) [e,b]) r) y):Ev (.lp 2 e) l y:=by
 refine qc1 (F:=fun n=>qcO (prs n (.bin 3) l.tail) fun b r=>some (.ok (exN (opAt 2 l) [e,b]) r)) (fun n=>by
  have:(opAt 2 l == 0) = false:=by simpa using h0
  simp only [prs,this,cond_false]; rfl) (qgF h (fun n e r z h=>h) ?_)
 cases x with
 | bad r=>exact hy
 | ok e r=>exact ⟨0,by rw [show y = _ from hy]⟩
theorem qDY {l:List Tok} {x y:Rs} (h0:isW [45] l = true) (h:Ev .neg l.tail x) (hy:Thn x (fun a r y=>y = .ok (exN 9 [a]) r) y):Ev .neg l y:=by
 refine qc1 (F:=fun n=>qcO (prs n .neg l.tail) fun a r=>some (.ok (exN 9 [a]) r)) (fun n=>by simp only [prs,h0,cond_true]) (qgF h (fun n e r z h=>h) ?_)
 cases x with
 | bad r=>exact hy
 | ok e r=>exact ⟨0,by rw [show y = _ from hy]⟩
theorem qwn {l:List Tok} {y:Rs} (h0:isW [45] l = false) (h:Ev .prim l y):Ev .neg l y:=qc1 (fun n=>by simp only [prs,h0,cond_false]) h
theorem qwl {l:List Tok} {xa:Rs} {y:Rs} (h0:isW [105,102] l = true) (ha:Ev .ex l.tail xa)
  (hy:Thn xa (fun a r y=>Wnt [116,104,101,110] r (fun r y=>∃ xb,Ev .ex r xb /\ Thn xb (fun b r y=>Wnt [101,108,115,101] r (fun r y=>∃ xc,Ev .ex r xc /\ Thn xc (fun c r y=>y = .ok (exN 19 [a,b,c]) r) y) y) y) y) y):Ev .ex l y:=by
 have hc:∀ (a b:Ex) (n:Nat) (r:List Tok) (z:Rs),qcO (prs n .ex r) (fun c r=>some (.ok (exN 19 [a,b,c]) r)) = some z -> qcO (prs (n + 1) .ex r) (fun c r=>some (.ok (exN 19 [a,b,c]) r)) = some z:=
  fun a b n r z h=>qb6 (fun r h=>qgn _ _ _ _ h) (fun _ _ _ h=>h) h
 have hb:∀ (a:Ex) (n:Nat) (r:List Tok) (z:Rs),qcO (prs n .ex r) (fun b r=>qbV [101,108,115,101] r fun r=>qcO (prs n .ex r) fun c r=>some (.ok (exN 19 [a,b,c]) r)) = some z ->
   qcO (prs (n + 1) .ex r) (fun b r=>qbV [101,108,115,101] r fun r=>qcO (prs (n + 1) .ex r) fun c r=>some (.ok (exN 19 [a,b,c]) r)) = some z:=
  fun a n r z h=>qb6 (fun r h=>qgn _ _ _ _ h) (fun b r x h=>qdI (fun r x h=>hc a b n r x h) h) h
 refine qc1 (F:=fun n=>qcO (prs n .ex l.tail) fun a r=>qbV [116,104,101,110] r fun r=>qcO (prs n .ex r) fun b r=>qbV [101,108,115,101] r fun r=>qcO (prs n .ex r) fun c r=>some (.ok (exN 19 [a,b,c]) r))
  (fun n=>by simp only [prs,h0,cond_true]) (qgF ha (fun n a r z h=>qdI (fun r x h=>hb a n r x h) h) ?_)
 exact hy.mono fun a r y h=>qml (F:=fun n r=>qcO (prs n .ex r) fun b r=>qbV [101,108,115,101] r fun r=>qcO (prs n .ex r) fun c r=>some (.ok (exN 19 [a,b,c]) r)) (h.mono fun r y ⟨xb,hxb,h⟩=>
  qgF (F:=fun n b r=>qbV [101,108,115,101] r fun r=>qcO (prs n .ex r) fun c r=>some (.ok (exN 19 [a,b,c]) r)) hxb (fun n b r z h=>qdI (fun r x h=>hc a b n r x h) h) (h.mono fun b r y h=>
   qml (F:=fun n r=>qcO (prs n .ex r) fun c r=>some (.ok (exN 19 [a,b,c]) r)) (h.mono fun r y ⟨xc,hxc,h⟩=>
    qgF (F:=fun n c r=>some (.ok (exN 19 [a,b,c]) r)) hxc (fun n c r z h=>h) (h.mono fun c r y h=>⟨0,by rw [h]⟩))))
def qzL (op:Int) (r:List Tok) (y:Rs):Prop:=
 Wnt [40] r (fun r y=>∃ xa,Ev .ex r xa /\ Thn xa (fun a r y=>Wnt [44] r (fun r y=>∃ xb,Ev .ex r xb /\ Thn xb (fun b r y=>Wnt [41] r (fun r y=>y = .ok (exN op [a,b]) r) y) y) y) y) y
theorem qxU {op:Int} {r:List Tok} {y:Rs} (h:qzL op r y):∃ n,qew op (prs n .ex) r = some y:=by
 have hb:∀ (a:Ex) (n:Nat) (r:List Tok) (z:Rs),qcO (prs n .ex r) (fun b r=>qbV [41] r fun r=>some (.ok (exN op [a,b]) r)) = some z -> qcO (prs (n + 1) .ex r) (fun b r=>qbV [41] r fun r=>some (.ok (exN op [a,b]) r)) = some z:=
  fun a n r z h=>qb6 (fun r h=>qgn _ _ _ _ h) (fun _ _ _ h=>h) h
 unfold qew
 exact qml (F:=fun n r=>qcO (prs n .ex r) fun a r=>qbV [44] r fun r=>qcO (prs n .ex r) fun b r=>qbV [41] r fun r=>some (.ok (exN op [a,b]) r)) (h.mono fun r y ⟨xa,hxa,h⟩=>
  qgF (F:=fun n a r=>qbV [44] r fun r=>qcO (prs n .ex r) fun b r=>qbV [41] r fun r=>some (.ok (exN op [a,b]) r)) hxa (fun n a r z h=>qdI (fun r x h=>hb a n r x h) h) (h.mono fun a r y h=>
   qml (F:=fun n r=>qcO (prs n .ex r) fun b r=>qbV [41] r fun r=>some (.ok (exN op [a,b]) r)) (h.mono fun r y ⟨xb,hxb,h⟩=>
    qgF (F:=fun n b r=>qbV [41] r fun r=>some (.ok (exN op [a,b]) r)) hxb (fun n b r z h=>h) (h.mono fun b r y h=>
     qml (F:=fun _ r=>some (.ok (exN op [a,b]) r)) (h.mono fun r y h=>⟨0,by rw [h]⟩)))))
theorem qDW {l:List Tok} (h0:isW [36] l = true):Ev .prim l (match qdP l.tail with | some v=>.ok (.mk 2 v [] []) l.tail.tail | none=>.bad l.tail):=
 ⟨1,by simp only [prs,h0,cond_true]; cases qdP l.tail <;> rfl⟩
theorem qOu {l:List Tok} {y:Rs} (h1:isW [36] l = false) (h2:isW [109,105,110] l = true) (h:qzL 17 l.tail y):Ev .prim l y:=
 qc1 (F:=fun n=>qew 17 (prs n .ex) l.tail) (fun n=>by simp only [prs,h1,h2,cond_true,cond_false]) (qxU h)
theorem qOt {l:List Tok} {y:Rs} (h1:isW [36] l = false) (h2:isW [109,105,110] l = false) (h3:isW [109,97,120] l = true) (h:qzL 18 l.tail y):Ev .prim l y:=
 qc1 (F:=fun n=>qew 18 (prs n .ex) l.tail) (fun n=>by simp only [prs,h1,h2,h3,cond_true,cond_false]) (qxU h)
theorem qxV {l:List Tok} {x y:Rs} (h1:isW [36] l = false) (h2:isW [109,105,110] l = false) (h3:isW [109,97,120] l = false) (h4:isW [40] l = true) (h:Ev .ex l.tail x) (hy:Thn x (fun e r y=>Wnt [41] r (fun r y=>y = .ok e r) y) y):Ev .prim l y:=by
 refine qc1 (F:=fun n=>qcO (prs n .ex l.tail) fun e r=>qbV [41] r fun r=>some (.ok e r)) (fun n=>by simp only [prs,h1,h2,h3,h4,cond_true,cond_false]) (qgF h (fun n e r z h=>h) ?_)
 cases x with
 | bad r=>exact hy
 | ok e r=>
  rcases hy with ⟨h1,hy⟩ | ⟨h1,hy⟩
  ·exact ⟨0,by simp only [qbV,h1,cond_true]; rw [hy]⟩
  ·exact ⟨0,by simp only [qbV,h1,cond_false]; rw [hy]⟩
theorem qwm {l:List Tok} (h1:isW [36] l = false) (h2:isW [109,105,110] l = false) (h3:isW [109,97,120] l = false) (h4:isW [40] l = false):Ev .prim l (qgj l):=
 ⟨1,by simp only [prs,h1,h2,h3,h4,cond_false]⟩
theorem qbr {s:Bs} {l:List Tok} (h:isW s l = true):∃ t r,l = t :: r:=by
 cases l with
 | nil=>cases h
 | cons t r=>exact ⟨t,r,rfl⟩
theorem qnw {k:Nat} {l:List Tok} (h:opAt k l ≠ 0):∃ t r,l = t :: r:=by
 unfold opAt at h
 cases hf:(lvS k).find? (fun x=>isW x.1 l) with
 | none=>rw [hf] at h; exact absurd rfl h
 | some x=>
  have h2:=List.find?_some (p:=fun x:Bs × Int=>isW x.1 l) hf
  exact qbr (s:=x.1) h2
def qTT (m:Md) (l r:List Tok):Prop:=match m with
 | .lp _ _=>r.length <= l.length
 | _=>r.length < l.length
theorem qBl {l:List Tok} {e:Ex} {r:List Tok} (h:qgj l = .ok e r):r.length < l.length:=by
 unfold qgj at h
 cases l with
 | nil=>cases h
 | cons t l=>
  simp only at h
  cases h1:(t.kind == 1)
  ·rw [h1] at h
   cases h3:(t.kind == 3)
   ·rw [h3] at h
    simp only [cond_false] at h
    split at h
    ·cases h; simp
    ·cases h
   ·rw [h3] at h
    simp only [cond_true,cond_false] at h
    cases h4:((qbN t.text).2 == 0)
    ·rw [h4] at h; cases h
    ·rw [h4] at h; cases h; simp
  ·rw [h1] at h; cases h; simp
theorem qcG {o:Option Rs} {f:Ex -> List Tok -> Option Rs} {e:Ex} {r:List Tok} (h:qcO o f = some (.ok e r)):∃ e' r',o = some (.ok e' r') /\ f e' r' = some (.ok e r):=by
 unfold qcO at h
 split at h
 ·cases h
 ·cases h
 ·exact ⟨_,_,rfl,h⟩
theorem qgA {s:Bs} {l:List Tok} {f:List Tok -> Option Rs} {e:Ex} {r:List Tok} (h:qbV s l f = some (.ok e r)):∃ t l',l = t :: l' /\ isW s l = true /\ f l' = some (.ok e r):=by
 unfold qbV at h
 cases hq:isW s l
 ·rw [hq] at h; cases h
 ·rw [hq] at h
  obtain ⟨t,l',rfl⟩:=qbr hq
  exact ⟨t,l',rfl,rfl,h⟩
theorem qHw {op:Int} {p:List Tok -> Option Rs} {l:List Tok} {e:Ex} {r:List Tok} (h:qew op p l = some (.ok e r)) :
  ∃ t1 l1 a t2 l2 b t3,l = t1 :: l1 /\ p l1 = some (.ok a (t2 :: l2)) /\ p l2 = some (.ok b (t3 :: r)) /\ e = exN op [a,b]:=by
 unfold qew at h
 obtain ⟨t1,l1,rfl,_,h⟩:=qgA h
 obtain ⟨a,r1,h1,h⟩:=qcG h
 obtain ⟨t2,l2,rfl,_,h⟩:=qgA h
 obtain ⟨b,r2,h2,h⟩:=qcG h
 obtain ⟨t3,l3,rfl,_,h⟩:=qgA h
 cases h
 exact ⟨t1,l1,a,t2,l2,b,t3,rfl,h1,h2,rfl⟩
theorem qHF:∀ (n:Nat) (m:Md) (l:List Tok) (e:Ex) (r:List Tok),prs n m l = some (.ok e r) -> qTT m l r:=by
 intro n
 induction n with
 | zero=>intro m l e r h; cases h
 | succ n ih=>
  intro m l e r h
  cases m with
  | ex=>
   simp only [prs] at h
   show r.length < l.length
   cases hi:isW [105,102] l
   ·rw [hi] at h; exact ih _ _ _ _ h
   ·rw [hi] at h
    obtain ⟨t,l',rfl⟩:=qbr hi
    simp only [cond_true,List.tail_cons] at h
    obtain ⟨a,r1,h1,h⟩:=qcG h
    obtain ⟨t1,l1,rfl,_,h⟩:=qgA h
    obtain ⟨b,r2,h2,h⟩:=qcG h
    obtain ⟨t2,l2,rfl,_,h⟩:=qgA h
    obtain ⟨c,r3,h3,h⟩:=qcG h
    cases h
    have q1:_ < _:=ih _ _ _ _ h1
    have q2:_ < _:=ih _ _ _ _ h2
    have q3:_ < _:=ih _ _ _ _ h3
    simp only [List.length_cons] at q1 q2 q3 ⊢
    omega
  | bin k=>
   simp only [prs] at h
   show r.length < l.length
   cases h5:(k == 5)
   ·rw [h5] at h
    cases h2:(k == 2)
    ·rw [h2] at h
     simp only [cond_false] at h
     obtain ⟨a,r1,h1,h⟩:=qcG h
     have q1:_ < _:=ih _ _ _ _ h1
     have q2:_ <= _:=ih _ _ _ _ h
     omega
    ·rw [h2] at h
     simp only [cond_true,cond_false] at h
     cases hi:isW [110,111,116] l
     ·rw [hi] at h; exact ih _ _ _ _ h
     ·rw [hi] at h
      obtain ⟨t,l',rfl⟩:=qbr hi
      obtain ⟨a,r1,h1,h⟩:=qcG h
      cases h
      have q1:_ < _:=ih _ _ _ _ h1
      simp only [List.tail_cons,List.length_cons] at q1 ⊢
      omega
   ·rw [h5] at h; exact ih _ _ _ _ h
  | cmp=>
   simp only [prs] at h
   show r.length < l.length
   obtain ⟨a,r1,h1,h⟩:=qcG h
   have q1:_ < _:=ih _ _ _ _ h1
   have q2:_ <= _:=ih _ _ _ _ h
   omega
  | lp k e0=>
   simp only [prs] at h
   show r.length <= l.length
   cases h0:(opAt k l == 0)
   ·rw [h0] at h
    obtain ⟨t,l',rfl⟩:=qnw (by simpa using h0)
    simp only [cond_false,List.tail_cons] at h
    obtain ⟨b,r1,h1,h⟩:=qcG h
    have q1:_ < _:=ih _ _ _ _ h1
    cases h2:(k == 2)
    ·rw [h2] at h
     have q2:_ <= _:=ih _ _ _ _ h
     simp only [List.length_cons]; omega
    ·rw [h2] at h; cases h
     simp only [List.length_cons]; omega
   ·rw [h0] at h; cases h; exact Nat.le_refl _
  | neg=>
   simp only [prs] at h
   show r.length < l.length
   cases hi:isW [45] l
   ·rw [hi] at h; exact ih _ _ _ _ h
   ·rw [hi] at h
    obtain ⟨t,l',rfl⟩:=qbr hi
    obtain ⟨a,r1,h1,h⟩:=qcG h
    cases h
    have q1:_ < _:=ih _ _ _ _ h1
    simp only [List.tail_cons,List.length_cons] at q1 ⊢
    omega
  | prim=>
   simp only [prs] at h
   show r.length < l.length
   have hpair:∀ {op:Int} {t:Tok} {l':List Tok},qew op (prs n .ex) l' = some (.ok e r) -> r.length < (t :: l').length:=by
    intro op t l' h
    obtain ⟨t1,l1,a,t2,l2,b,t3,rfl,h1,h2,_⟩:=qHw h
    have q1:_ < _:=ih _ _ _ _ h1
    have q2:_ < _:=ih _ _ _ _ h2
    simp only [List.length_cons] at q1 q2 ⊢
    omega
   cases h1:isW [36] l
   ·rw [h1] at h
    simp only [cond_false] at h
    cases h2:isW [109,105,110] l
    ·rw [h2] at h
     simp only [cond_false] at h
     cases h3:isW [109,97,120] l
     ·rw [h3] at h
      simp only [cond_false] at h
      cases h4:isW [40] l
      ·rw [h4] at h
       simp only [cond_false,Option.some.injEq] at h
       exact qBl h
      ·rw [h4] at h
       obtain ⟨t,l',rfl⟩:=qbr h4
       simp only [cond_true,List.tail_cons] at h
       obtain ⟨a,r1,h1,h⟩:=qcG h
       obtain ⟨t1,l1,rfl,_,h⟩:=qgA h
       cases h
       have q1:_ < _:=ih _ _ _ _ h1
       simp only [List.length_cons] at q1 ⊢
       omega
     ·rw [h3] at h
      obtain ⟨t,l',rfl⟩:=qbr h3
      exact hpair h
    ·rw [h2] at h
     obtain ⟨t,l',rfl⟩:=qbr h2
     exact hpair h
   ·rw [h1] at h
    obtain ⟨t,l',rfl⟩:=qbr h1
    simp only [cond_true,List.tail_cons] at h
    split at h
    ·rename_i v hv
     cases h
     cases l' with
     | nil=>cases hv
     | cons t' l'=>simp only [List.tail_cons,List.length_cons]; omega
    ·cases h
theorem Ev.short {m:Md} {l:List Tok} {e:Ex} {r:List Tok} (h:Ev m l (.ok e r)):qTT m l r:=h.elim fun n hn=>qHF n _ _ _ _ hn
def wgt:Md -> Nat
 | .prim=>0
 | .neg=>1
 | .bin k=>if k >= 5 then 2 else if k = 4 then 3 else if k = 3 then 4 else if k = 2 then 6 else if k = 1 then 7 else 8
 | .cmp=>5
 | .ex=>9
 | .lp _ _=>10
def qX0:Md -> Bool
 | .bin k=>decide (k <= 5)
 | .lp k _=>decide (k <= 4)
 | _=>true
theorem qVr:∀ (n w:Nat) (m:Md) (l:List Tok),l.length = n -> wgt m = w -> qX0 m = true -> ∃ x,Ev m l x:=by
 intro n
 induction n using Nat.strongRecOn with
 | _ n ihn=>
  have hex:∀ {l':List Tok},l'.length < n -> ∀ m,qX0 m = true -> ∃ x,Ev m l' x:=fun h m hm=>ihn _ h _ m _ rfl rfl hm
  intro w
  induction w using Nat.strongRecOn with
  | _ w ihw=>
   intro m l hl hw hm
   have hlow:∀ m',wgt m' < w -> qX0 m' = true -> ∃ x,Ev m' l x:=fun m' h hm'=>ihw _ h m' l hl rfl hm'
   have hpair:∀ (op:Int) (t:Tok) (l':List Tok),l = t :: l' -> ∃ y,qzL op l' y:=by
    intro op t l' he
    unfold qzL
    by_cases h1:isW [40] l' = true
    ·obtain ⟨t1,l1,rfl⟩:=qbr h1
     obtain ⟨xa,hxa⟩:=hex (l':=l1) (by rw [<- hl,he]; simp; omega) .ex rfl
     cases xa with
     | bad r=>exact ⟨_,.inl ⟨h1,_,hxa,rfl⟩⟩
     | ok a r=>
      have q1:_ < _:=hxa.short
      by_cases h2:isW [44] r = true
      ·obtain ⟨t2,l2,rfl⟩:=qbr h2
       obtain ⟨xb,hxb⟩:=hex (l':=l2) (by rw [<- hl,he]; simp only [List.length_cons] at q1 ⊢; omega) .ex rfl
       cases xb with
       | bad r=>exact ⟨_,.inl ⟨h1,_,hxa,.inl ⟨h2,_,hxb,rfl⟩⟩⟩
       | ok b r=>
        by_cases h3:isW [41] r = true
        ·exact ⟨_,.inl ⟨h1,_,hxa,.inl ⟨h2,_,hxb,.inl ⟨h3,rfl⟩⟩⟩⟩
        ·exact ⟨_,.inl ⟨h1,_,hxa,.inl ⟨h2,_,hxb,.inr ⟨by simpa using h3,rfl⟩⟩⟩⟩
      ·exact ⟨_,.inl ⟨h1,_,hxa,.inr ⟨by simpa using h2,rfl⟩⟩⟩
    ·exact ⟨_,.inr ⟨by simpa using h1,rfl⟩⟩
   cases m with
   | prim=>
    cases h1:isW [36] l
    ·cases h2:isW [109,105,110] l
     ·cases h3:isW [109,97,120] l
      ·cases h4:isW [40] l
       ·exact ⟨_,qwm h1 h2 h3 h4⟩
       ·obtain ⟨t,l',rfl⟩:=qbr h4
        obtain ⟨x,hx⟩:=hex (l':=l') (by rw [<- hl]; simp) .ex rfl
        cases x with
        | bad r=>exact ⟨_,qxV h1 h2 h3 h4 hx rfl⟩
        | ok e r=>
         by_cases h5:isW [41] r = true
         ·exact ⟨_,qxV h1 h2 h3 h4 hx (.inl ⟨h5,rfl⟩)⟩
         ·exact ⟨_,qxV h1 h2 h3 h4 hx (.inr ⟨by simpa using h5,rfl⟩)⟩
      ·obtain ⟨t,l',rfl⟩:=qbr h3
       obtain ⟨y,hy⟩:=hpair 18 t l' rfl
       exact ⟨y,qOt h1 h2 h3 hy⟩
     ·obtain ⟨t,l',rfl⟩:=qbr h2
      obtain ⟨y,hy⟩:=hpair 17 t l' rfl
      exact ⟨y,qOu h1 h2 hy⟩
    ·exact ⟨_,qDW h1⟩
   | neg=>
    cases h1:isW [45] l
    ·obtain ⟨x,hx⟩:=hlow .prim (by rw [<- hw]; decide) rfl
     exact ⟨x,qwn h1 hx⟩
    ·obtain ⟨t,l',rfl⟩:=qbr h1
     obtain ⟨x,hx⟩:=hex (l':=l') (by rw [<- hl]; simp) .neg rfl
     cases x with
     | bad r=>exact ⟨_,qDY h1 hx rfl⟩
     | ok e r=>exact ⟨_,qDY h1 hx rfl⟩
   | cmp=>
    obtain ⟨x,hx⟩:=hlow (.bin 3) (by rw [<- hw]; decide) rfl
    cases x with
    | bad r=>exact ⟨_,qtn hx rfl⟩
    | ok e r=>
     have q1:_ < _:=hx.short
     obtain ⟨y,hy⟩:=hex (l':=r) (by omega) (.lp 2 e) rfl
     exact ⟨y,qtn hx hy⟩
   | ex=>
    cases h1:isW [105,102] l
    ·obtain ⟨x,hx⟩:=hlow (.bin 0) (by rw [<- hw]; decide) rfl
     exact ⟨x,qto h1 hx⟩
    ·obtain ⟨t,l',rfl⟩:=qbr h1
     obtain ⟨xa,hxa⟩:=hex (l':=l') (by rw [<- hl]; simp) .ex rfl
     cases xa with
     | bad r=>exact ⟨_,qwl h1 hxa rfl⟩
     | ok a r=>
      have q1:_ < _:=hxa.short
      by_cases h2:isW [116,104,101,110] r = true
      ·obtain ⟨t2,l2,rfl⟩:=qbr h2
       obtain ⟨xb,hxb⟩:=hex (l':=l2) (by rw [<- hl]; simp only [List.length_cons,List.tail_cons] at q1 ⊢; omega) .ex rfl
       cases xb with
       | bad r=>exact ⟨_,qwl h1 hxa (.inl ⟨h2,_,hxb,rfl⟩)⟩
       | ok b r=>
        have q2:_ < _:=hxb.short
        by_cases h3:isW [101,108,115,101] r = true
        ·obtain ⟨t3,l3,rfl⟩:=qbr h3
         obtain ⟨xc,hxc⟩:=hex (l':=l3) (by rw [<- hl]; simp only [List.length_cons,List.tail_cons] at q1 q2 ⊢; omega) .ex rfl
         cases xc with
         | bad r=>exact ⟨_,qwl h1 hxa (.inl ⟨h2,_,hxb,.inl ⟨h3,_,hxc,rfl⟩⟩)⟩
         | ok c r=>exact ⟨_,qwl h1 hxa (.inl ⟨h2,_,hxb,.inl ⟨h3,_,hxc,rfl⟩⟩)⟩
        ·exact ⟨_,qwl h1 hxa (.inl ⟨h2,_,hxb,.inr ⟨by simpa using h3,rfl⟩⟩)⟩
      ·exact ⟨_,qwl h1 hxa (.inr ⟨by simpa using h2,rfl⟩)⟩
   | bin k=>
    have hk:k <= 5:=of_decide_eq_true hm
    have hgen:(k == 5) = false -> (k == 2) = false -> wgt (.bin (k + 1)) < w -> ∃ x,Ev (.bin k) l x:=by
     intro h5 h2 hlt
     have hk5:k ≠ 5:=by simpa using h5
     obtain ⟨x,hx⟩:=hlow (.bin (k + 1)) hlt (decide_eq_true (by omega))
     cases x with
     | bad r=>exact ⟨_,qgS h5 h2 hx rfl⟩
     | ok e r=>
      have q1:_ < _:=hx.short
      obtain ⟨y,hy⟩:=hex (l':=r) (by omega) (.lp k e) (decide_eq_true (by omega))
      exact ⟨y,qgS h5 h2 hx hy⟩
    match k,hk with
    | 0,_=>exact hgen rfl rfl (by rw [<- hw]; decide)
    | 1,_=>exact hgen rfl rfl (by rw [<- hw]; decide)
    | 3,_=>exact hgen rfl rfl (by rw [<- hw]; decide)
    | 4,_=>exact hgen rfl rfl (by rw [<- hw]; decide)
    | 2,_=>
     cases h1:isW [110,111,116] l
     ·obtain ⟨x,hx⟩:=hlow .cmp (by rw [<- hw]; decide) rfl
      exact ⟨x,qwk h1 hx⟩
     ·obtain ⟨t,l',rfl⟩:=qbr h1
      obtain ⟨x,hx⟩:=hex (l':=l') (by rw [<- hl]; simp) (.bin 2) rfl
      cases x with
      | bad r=>exact ⟨_,qDZ h1 hx rfl⟩
      | ok e r=>exact ⟨_,qDZ h1 hx rfl⟩
    | 5,_=>
     obtain ⟨x,hx⟩:=hlow .neg (by rw [<- hw]; decide) rfl
     exact ⟨x,qqW hx⟩
   | lp k e=>
    have hk:k <= 4:=of_decide_eq_true hm
    by_cases h0:opAt k l = 0
    ·exact ⟨_,qkL h0⟩
    ·obtain ⟨t,l',rfl⟩:=qnw h0
     obtain ⟨x,hx⟩:=hex (l':=l') (by rw [<- hl]; simp) (.bin (k + 1)) (decide_eq_true (by omega))
     by_cases h2:k = 2
     ·subst h2
      cases x with
      | bad r=>exact ⟨_,qDX h0 hx rfl⟩
      | ok b r=>exact ⟨_,qDX h0 hx rfl⟩
     ·cases x with
      | bad r=>exact ⟨_,qR2 (by simpa using h2) h0 hx rfl⟩
      | ok b r=>
       have q1:_ < _:=hx.short
       obtain ⟨y,hy⟩:=hex (l':=r) (by rw [<- hl]; simp only [List.tail_cons,List.length_cons] at q1 ⊢; omega) (.lp k (exN (opAt k (t :: l')) [e,b])) (decide_eq_true hk)
       exact ⟨y,qR2 (by simpa using h2) h0 hx hy⟩
theorem qxW {m:Md} (hm:qX0 m = true) (l:List Tok):∃ x,Ev m l x:=qVr _ _ m l rfl rfl hm
end Go.Tk

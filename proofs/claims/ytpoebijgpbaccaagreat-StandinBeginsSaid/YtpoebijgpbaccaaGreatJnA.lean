/- token.Join over plain data, if it is known which tokens are valid. -/
import Derived.Test.YtpoebijgpbaccaaGreatTkA
import Derived.Test.YtpoebijgpbaccaaGreatE3
import Derived.Lib.TrimByte
import Derived.Lib.ParseIntBTie
set_option linter.unusedVariables false
set_option linter.unusedSimpArgs false
set_option linter.unnecessarySimpa false
namespace Go.Tk
open Go Go.Eng
set_option maxRecDepth 20000
open Classical in
noncomputable def jS (IP:Prog) (f:Nat) (es:List AV):Bs:=if h:∃ s n,qbU IP f [.view 3 es] [] = some (.ret (.tup [.str s,.int .i64 n]),[]) then h.choose else []
open Classical in
noncomputable def jN (IP:Prog) (f:Nat) (es:List AV):Int:=if h:∃ s n,qbU IP f [.view 3 es] [] = some (.ret (.tup [.str s,.int .i64 n]),[]) then h.choose_spec.choose else 0
end Go.Tk
namespace Go.Tk
open Go Go.Eng
set_option linter.unusedSimpArgs false
set_option linter.unusedVariables false
def shT (d:Int) (q:List Tok × Int × Int):List Tok × Int × Int:=(q.1.map fun t=>⟨t.kind,t.line + d,t.text⟩,(bif q.2.2 != 0 then q.2.1 + d else q.2.1),q.2.2)
end Go.Tk
namespace Go.Tk
open Go Go.Eng
set_option linter.unusedSimpArgs false
set_option linter.unusedVariables false
def four (m:Nat):Bs:=[UInt8.ofNat (48 + m / 1000 % 10),UInt8.ofNat (48 + m / 100 % 10),UInt8.ofNat (48 + m / 10 % 10),UInt8.ofNat (48 + m % 10)]
def qod (p:Bs):Bs:=bif p != [] then 46 :: p else []
def qJT (n:Nat):Bs:=Lib.decDigits (n / 10000) ++ (qod (Lib.trimRightB (four (n % 10000)) 48) ++ [37])
end Go.Tk
namespace Go.Tk
open Go Go.Eng
set_option linter.unusedSimpArgs false
set_option linter.unusedVariables false
def qVi:Bs:=[57,50,50,51,51,55,50,48,51,54,56,53,52,55,55,53,56,48,55]
def qyv (s:Bs):Bool:=decide (s.length > 19) || (s.length == 19 && qba qVi s)
end Go.Tk
namespace Go.Tk
open Go Go.Eng
set_option linter.unusedSimpArgs false
set_option linter.unusedVariables false
def qsc (s:Bs):Int:=bif qn6 s then 5 else 4
def isW (s:Bs):List Tok -> Bool
 | []=>false
 | t :: _=>t.text == s && t.kind == qsc s
def qZe (s:Bs):Option Int:=bif qoP s && !qyv s then some (qbD 0 s:Int) else none
def qqG:List Tok -> Option Int
 | []=>none
 | t :: _=>bif t.kind == 2 then qZe t.text else none
inductive Rs where
 | bad (r:List Tok)
 | ok (e:Ex) (r:List Tok)
inductive Md where
 | ex | cmp | neg | prim
 | bin (k:Nat)
 | lp (k:Nat) (e:Ex)
def lvS:Nat -> List (Bs × Int)
 | 0=>[([111,114],15)]
 | 1=>[([97,110,100],14)]
 | 2=>[([61,61],10),([33,61],11),([60],12),([60,61],13)]
 | 3=>[([43],5),([45],6)]
 | 4=>[([42],7),([47],8)]
 | _=>[]
def opAt (k:Nat) (l:List Tok):Int:=match (lvS k).find? (fun x=>isW x.1 l) with
 | some x=>x.2
 | none=>0
def qc5 (o:Option Rs) (f:Ex -> List Tok -> Option Rs):Option Rs:=match o with
 | none=>none
 | some (.bad r)=>some (.bad r)
 | some (.ok e r)=>f e r
def qbZ (s:Bs) (r:List Tok) (k:List Tok -> Option Rs):Option Rs:=bif isW s r then k r.tail else some (.bad r)
def exN (o:Int) (l:List Ex):Ex:=.mk o 0 [] l
def qhs (op:Int) (p:List Tok -> Option Rs) (r:List Tok):Option Rs:=
 qbZ [40] r fun r=>qc5 (p r) fun a r=>qbZ [44] r fun r=>qc5 (p r) fun b r=>qbZ [41] r fun r=>some (.ok (exN op [a,b]) r)
def qhY (l:List Tok):Rs:=match l with
 | []=>.bad []
 | t :: r=>bif t.kind == 1 then .ok (.mk 4 0 t.text []) r
  else bif t.kind == 3 then (bif (qea t.text).2 == 0 then .ok (.mk 3 (qea t.text).1 [] []) r else .bad l)
  else match qqG l with
   | some n=>.ok (.mk 1 n [] []) r
   | none=>.bad l
def prs:Nat -> Md -> List Tok -> Option Rs
 | 0,_,_=>none
 | n + 1,.ex,l=>bif isW [105,102] l then
   qc5 (prs n .ex l.tail) fun a r=>qbZ [116,104,101,110] r fun r=>qc5 (prs n .ex r) fun b r=>qbZ [101,108,115,101] r fun r=>qc5 (prs n .ex r) fun c r=>some (.ok (exN 19 [a,b,c]) r)
  else prs n (.bin 0) l
 | n + 1,.bin k,l=>bif k == 5 then prs n .neg l else bif k == 2 then
   (bif isW [110,111,116] l then qc5 (prs n (.bin 2) l.tail) fun a r=>some (.ok (exN 16 [a]) r) else prs n .cmp l)
  else qc5 (prs n (.bin (k + 1)) l) fun e r=>prs n (.lp k e) r
 | n + 1,.cmp,l=>qc5 (prs n (.bin 3) l) fun e r=>prs n (.lp 2 e) r
 | n + 1,.lp k e,l=>bif opAt k l == 0 then some (.ok e l) else
   qc5 (prs n (.bin (k + 1)) l.tail) fun b r=>bif k == 2 then some (.ok (exN (opAt k l) [e,b]) r) else prs n (.lp k (exN (opAt k l) [e,b])) r
 | n + 1,.neg,l=>bif isW [45] l then qc5 (prs n .neg l.tail) fun a r=>some (.ok (exN 9 [a]) r) else prs n .prim l
 | n + 1,.prim,l=>bif isW [36] l then (match qqG l.tail with
    | some v=>some (.ok (.mk 2 v [] []) l.tail.tail)
    | none=>some (.bad l.tail))
  else bif isW [109,105,110] l then qhs 17 (prs n .ex) l.tail
  else bif isW [109,97,120] l then qhs 18 (prs n .ex) l.tail
  else bif isW [40] l then qc5 (prs n .ex l.tail) fun e r=>qbZ [41] r fun r=>some (.ok e r)
  else some (qhY l)
theorem qZD (n:Nat) (l:List Tok):prs (n + 1) .ex l = (bif isW [105,102] l then
   qc5 (prs n .ex l.tail) fun a r=>qbZ [116,104,101,110] r fun r=>qc5 (prs n .ex r) fun b r=>qbZ [101,108,115,101] r fun r=>qc5 (prs n .ex r) fun c r=>some (.ok (exN 19 [a,b,c]) r)
  else prs n (.bin 0) l):=rfl
theorem qVC (n:Nat) (k:Nat) (l:List Tok):prs (n + 1) (.bin k) l = (bif k == 5 then prs n .neg l else bif k == 2 then
   (bif isW [110,111,116] l then qc5 (prs n (.bin 2) l.tail) fun a r=>some (.ok (exN 16 [a]) r) else prs n .cmp l)
  else qc5 (prs n (.bin (k + 1)) l) fun e r=>prs n (.lp k e) r):=rfl
theorem qVD (n:Nat) (l:List Tok):prs (n + 1) .cmp l = (qc5 (prs n (.bin 3) l) fun e r=>prs n (.lp 2 e) r):=rfl
theorem qZE (n:Nat) (k:Nat) (e:Ex) (l:List Tok):prs (n + 1) (.lp k e) l = (bif opAt k l == 0 then some (.ok e l) else
   qc5 (prs n (.bin (k + 1)) l.tail) fun b r=>bif k == 2 then some (.ok (exN (opAt k l) [e,b]) r) else prs n (.lp k (exN (opAt k l) [e,b])) r):=rfl
theorem qVE (n:Nat) (l:List Tok):prs (n + 1) .neg l = (bif isW [45] l then qc5 (prs n .neg l.tail) fun a r=>some (.ok (exN 9 [a]) r) else prs n .prim l):=rfl
theorem qN6 (n:Nat) (l:List Tok):prs (n + 1) .prim l = (bif isW [36] l then (match qqG l.tail with
    | some v=>some (.ok (.mk 2 v [] []) l.tail.tail)
    | none=>some (.bad l.tail))
  else bif isW [109,105,110] l then qhs 17 (prs n .ex) l.tail
  else bif isW [109,97,120] l then qhs 18 (prs n .ex) l.tail
  else bif isW [40] l then qc5 (prs n .ex l.tail) fun e r=>qbZ [41] r fun r=>some (.ok e r)
  else some (qhY l)):=rfl
theorem qbF {o o':Option Rs} {f f':Ex -> List Tok -> Option Rs} (ho:∀ r,o = some r -> o' = some r) (hf:∀ e r x,f e r = some x -> f' e r = some x) {x:Rs} (h:qc5 o f = some x):qc5 o' f' = some x:=by
 unfold qc5 at h ⊢
 cases o with
 | none=>cases h
 | some q=>
  rw [ho q rfl]
  cases q with
  | bad r=>exact h
  | ok e r=>exact hf _ _ _ h
theorem qc4 {s:Bs} {r:List Tok} {f f':List Tok -> Option Rs} (hf:∀ r x,f r = some x -> f' r = some x) {x:Rs} (h:qbZ s r f = some x):qbZ s r f' = some x:=by
 unfold qbZ at h ⊢
 revert h
 cases isW s r
 ·exact fun h=>h
 ·exact fun h=>hf _ _ h
theorem quV {op:Int} {p p':List Tok -> Option Rs} (hp:∀ r x,p r = some x -> p' r = some x) {r:List Tok} {x:Rs} (h:qhs op p r = some x):qhs op p' r = some x:=by
 unfold qhs at h ⊢
 exact qc4 (fun r x h=>qbF (hp r) (fun a r x h=>qc4 (fun r x h=>qbF (hp r) (fun b r x h=>h) h) h) h) h
theorem qfv:∀ (n:Nat) (m:Md) (l:List Tok) (x:Rs),prs n m l = some x -> prs (n + 1) m l = some x:=by
 intro n
 induction n with
 | zero=>intro m l x h; cases h
 | succ n ih=>
  intro m l x h
  cases m with
  | ex=>
   rw [qZD] at h ⊢
   cases hi:isW [105,102] l
   ·rw [hi] at h; exact ih _ _ _ h
   ·rw [hi] at h
    simp only [cond_true] at h ⊢
    exact qbF (ih _ _) (fun a r x h=>qc4 (fun r x h=>qbF (ih _ _) (fun b r x h=>qc4 (fun r x h=>qbF (ih _ _) (fun c r x h=>h) h) h) h) h) h
  | bin k=>
   rw [qVC] at h ⊢
   cases h5:(k == 5)
   ·rw [h5] at h
    cases h2:(k == 2)
    ·rw [h2] at h
     exact qbF (ih _ _) (fun e r x h=>ih _ _ _ h) h
    ·rw [h2] at h
     simp only [cond_true,cond_false] at h ⊢
     cases hi:isW [110,111,116] l
     ·rw [hi] at h; exact ih _ _ _ h
     ·rw [hi] at h; exact qbF (ih _ _) (fun e r x h=>h) h
   ·rw [h5] at h; exact ih _ _ _ h
  | cmp=>rw [qVD] at h ⊢; exact qbF (ih _ _) (fun e r x h=>ih _ _ _ h) h
  | lp k e=>
   rw [qZE] at h ⊢
   cases h0:(opAt k l == 0)
   ·rw [h0] at h
    simp only [cond_false] at h ⊢
    refine qbF (ih _ _) (fun b r x h=>?_) h
    cases h2:(k == 2)
    ·rw [h2] at h; exact ih _ _ _ h
    ·rw [h2] at h; exact h
   ·rw [h0] at h; exact h
  | neg=>
   rw [qVE] at h ⊢
   cases hi:isW [45] l
   ·rw [hi] at h; exact ih _ _ _ h
   ·rw [hi] at h; exact qbF (ih _ _) (fun e r x h=>h) h
  | prim=>
   rw [qN6] at h ⊢
   cases h1:isW [36] l
   ·rw [h1] at h
    simp only [cond_false] at h ⊢
    cases h2:isW [109,105,110] l
    ·rw [h2] at h
     simp only [cond_false] at h ⊢
     cases h3:isW [109,97,120] l
     ·rw [h3] at h
      simp only [cond_false] at h ⊢
      cases h4:isW [40] l
      ·rw [h4] at h; exact h
      ·rw [h4] at h; exact qbF (ih _ _) (fun e r x h=>h) h
     ·rw [h3] at h; exact quV (fun r x h=>ih _ _ _ h) h
    ·rw [h2] at h; exact quV (fun r x h=>ih _ _ _ h) h
   ·rw [h1] at h; exact h
theorem qqM {n k:Nat} (hk:n <= k) {m:Md} {l:List Tok} {x:Rs} (h:prs n m l = some x):prs k m l = some x:=by
 induction hk with
 | refl=>exact h
 | step _ ih=>exact qfv _ _ _ _ ih
def Ev (m:Md) (l:List Tok) (x:Rs):Prop:=∃ n,prs n m l = some x
theorem Ev.fn {m:Md} {l:List Tok} {x y:Rs} (h:Ev m l x) (h':Ev m l y):x = y:=by
 obtain ⟨n,hn⟩:=h
 obtain ⟨k,hk⟩:=h'
 have h1:=qqM (Nat.le_max_left n k) hn
 have h2:=qqM (Nat.le_max_right n k) hk
 rw [h1] at h2; cases h2; rfl
def Thn (x:Rs) (f:Ex -> List Tok -> Rs -> Prop) (y:Rs):Prop:=match x with
 | .bad r=>y = .bad r
 | .ok e r=>f e r y
def Wnt (s:Bs) (r:List Tok) (f:List Tok -> Rs -> Prop) (y:Rs):Prop:=(isW s r = true /\ f r.tail y) \/ (isW s r = false /\ y = .bad r)
theorem Thn.mono {x:Rs} {f g:Ex -> List Tok -> Rs -> Prop} {y:Rs} (h:Thn x f y) (hf:∀ e r y,f e r y -> g e r y):Thn x g y:=by
 cases x with
 | bad r=>exact h
 | ok e r=>exact hf _ _ _ h
theorem Wnt.mono {s:Bs} {r:List Tok} {f g:List Tok -> Rs -> Prop} {y:Rs} (h:Wnt s r f y) (hf:∀ r y,f r y -> g r y):Wnt s r g y:=by
 rcases h with ⟨h1,h2⟩ | h
 ·exact .inl ⟨h1,hf _ _ h2⟩
 ·exact .inr h
theorem qbr {s:Bs} {l:List Tok} (h:isW s l = true):∃ t r,l = t :: r:=by
 cases l with
 | nil=>cases h
 | cons t r=>exact ⟨t,r,rfl⟩
theorem qxm {k:Nat} {l:List Tok} (h:opAt k l ≠ 0):∃ t r,l = t :: r:=by
 unfold opAt at h
 cases hf:(lvS k).find? (fun x=>isW x.1 l) with
 | none=>rw [hf] at h; exact absurd rfl h
 | some x=>
  have h2:=List.find?_some (p:=fun x:Bs × Int=>isW x.1 l) hf
  exact qbr (s:=x.1) h2
def qXK (m:Md) (l r:List Tok):Prop:=match m with
 | .lp _ _=>r.length <= l.length
 | _=>r.length < l.length
theorem qB3 {l:List Tok} {e:Ex} {r:List Tok} (h:qhY l = .ok e r):r.length < l.length:=by
 unfold qhY at h
 cases l with
 | nil=>cases h
 | cons t l=>
  simp only at h
  cases h1:(t.kind == 1)
  ·rw [h1] at h
   cases h3:(t.kind == 3)
   ·rw [h3] at h
    simp only [cond_false] at h
    split at h
    ·cases h; simp
    ·cases h
   ·rw [h3] at h
    simp only [cond_true,cond_false] at h
    cases h4:((qea t.text).2 == 0)
    ·rw [h4] at h; cases h
    ·rw [h4] at h; cases h; simp
  ·rw [h1] at h; cases h; simp
theorem qch {o:Option Rs} {f:Ex -> List Tok -> Option Rs} {e:Ex} {r:List Tok} (h:qc5 o f = some (.ok e r)):∃ e' r',o = some (.ok e' r') /\ f e' r' = some (.ok e r):=by
 unfold qc5 at h
 split at h
 ·cases h
 ·cases h
 ·exact ⟨_,_,rfl,h⟩
theorem qfD {s:Bs} {l:List Tok} {f:List Tok -> Option Rs} {e:Ex} {r:List Tok} (h:qbZ s l f = some (.ok e r)):∃ t l',l = t :: l' /\ isW s l = true /\ f l' = some (.ok e r):=by
 unfold qbZ at h
 cases hq:isW s l
 ·rw [hq] at h; cases h
 ·rw [hq] at h
  obtain ⟨t,l',rfl⟩:=qbr hq
  exact ⟨t,l',rfl,rfl,h⟩
theorem qJQ {op:Int} {p:List Tok -> Option Rs} {l:List Tok} {e:Ex} {r:List Tok} (h:qhs op p l = some (.ok e r)) :
  ∃ t1 l1 a t2 l2 b t3,l = t1 :: l1 /\ p l1 = some (.ok a (t2 :: l2)) /\ p l2 = some (.ok b (t3 :: r)) /\ e = exN op [a,b]:=by
 unfold qhs at h
 obtain ⟨t1,l1,rfl,_,h⟩:=qfD h
 obtain ⟨a,r1,h1,h⟩:=qch h
 obtain ⟨t2,l2,rfl,_,h⟩:=qfD h
 obtain ⟨b,r2,h2,h⟩:=qch h
 obtain ⟨t3,l3,rfl,_,h⟩:=qfD h
 cases h
 exact ⟨t1,l1,a,t2,l2,b,t3,rfl,h1,h2,rfl⟩
theorem qJX:∀ (n:Nat) (m:Md) (l:List Tok) (e:Ex) (r:List Tok),prs n m l = some (.ok e r) -> qXK m l r:=by
 intro n
 induction n with
 | zero=>intro m l e r h; cases h
 | succ n ih=>
  intro m l e r h
  cases m with
  | ex=>
   simp only [prs] at h
   show r.length < l.length
   cases hi:isW [105,102] l
   ·rw [hi] at h; exact ih _ _ _ _ h
   ·rw [hi] at h
    obtain ⟨t,l',rfl⟩:=qbr hi
    simp only [cond_true,List.tail_cons] at h
    obtain ⟨a,r1,h1,h⟩:=qch h
    obtain ⟨t1,l1,rfl,_,h⟩:=qfD h
    obtain ⟨b,r2,h2,h⟩:=qch h
    obtain ⟨t2,l2,rfl,_,h⟩:=qfD h
    obtain ⟨c,r3,h3,h⟩:=qch h
    cases h
    have q1:_ < _:=ih _ _ _ _ h1
    have q2:_ < _:=ih _ _ _ _ h2
    have q3:_ < _:=ih _ _ _ _ h3
    simp only [List.length_cons] at q1 q2 q3 ⊢
    omega
  | bin k=>
   simp only [prs] at h
   show r.length < l.length
   cases h5:(k == 5)
   ·rw [h5] at h
    cases h2:(k == 2)
    ·rw [h2] at h
     simp only [cond_false] at h
     obtain ⟨a,r1,h1,h⟩:=qch h
     have q1:_ < _:=ih _ _ _ _ h1
     have q2:_ <= _:=ih _ _ _ _ h
     omega
    ·rw [h2] at h
     simp only [cond_true,cond_false] at h
     cases hi:isW [110,111,116] l
     ·rw [hi] at h; exact ih _ _ _ _ h
     ·rw [hi] at h
      obtain ⟨t,l',rfl⟩:=qbr hi
      obtain ⟨a,r1,h1,h⟩:=qch h
      cases h
      have q1:_ < _:=ih _ _ _ _ h1
      simp only [List.tail_cons,List.length_cons] at q1 ⊢
      omega
   ·rw [h5] at h; exact ih _ _ _ _ h
  | cmp=>
   simp only [prs] at h
   show r.length < l.length
   obtain ⟨a,r1,h1,h⟩:=qch h
   have q1:_ < _:=ih _ _ _ _ h1
   have q2:_ <= _:=ih _ _ _ _ h
   omega
  | lp k e0=>
   simp only [prs] at h
   show r.length <= l.length
   cases h0:(opAt k l == 0)
   ·rw [h0] at h
    obtain ⟨t,l',rfl⟩:=qxm (by simpa using h0)
    simp only [cond_false,List.tail_cons] at h
    obtain ⟨b,r1,h1,h⟩:=qch h
    have q1:_ < _:=ih _ _ _ _ h1
    cases h2:(k == 2)
    ·rw [h2] at h
     have q2:_ <= _:=ih _ _ _ _ h
     simp only [List.length_cons]; omega
    ·rw [h2] at h; cases h
     simp only [List.length_cons]; omega
   ·rw [h0] at h; cases h; exact Nat.le_refl _
  | neg=>
   simp only [prs] at h
   show r.length < l.length
   cases hi:isW [45] l
   ·rw [hi] at h; exact ih _ _ _ _ h
   ·rw [hi] at h
    obtain ⟨t,l',rfl⟩:=qbr hi
    obtain ⟨a,r1,h1,h⟩:=qch h
    cases h
    have q1:_ < _:=ih _ _ _ _ h1
    simp only [List.tail_cons,List.length_cons] at q1 ⊢
    omega
  | prim=>
   simp only [prs] at h
   show r.length < l.length
   have hpair:∀ {op:Int} {t:Tok} {l':List Tok},qhs op (prs n .ex) l' = some (.ok e r) -> r.length < (t :: l').length:=by
    intro op t l' h
    obtain ⟨t1,l1,a,t2,l2,b,t3,rfl,h1,h2,_⟩:=qJQ h
    have q1:_ < _:=ih _ _ _ _ h1
    have q2:_ < _:=ih _ _ _ _ h2
    simp only [List.length_cons] at q1 q2 ⊢
    omega
   cases h1:isW [36] l
   ·rw [h1] at h
    simp only [cond_false] at h
    cases h2:isW [109,105,110] l
    ·rw [h2] at h
     simp only [cond_false] at h
     cases h3:isW [109,97,120] l
     ·rw [h3] at h
      simp only [cond_false] at h
      cases h4:isW [40] l
      ·rw [h4] at h
       simp only [cond_false,Option.some.injEq] at h
       exact qB3 h
      ·rw [h4] at h
       obtain ⟨t,l',rfl⟩:=qbr h4
       simp only [cond_true,List.tail_cons] at h
       obtain ⟨a,r1,h1,h⟩:=qch h
       obtain ⟨t1,l1,rfl,_,h⟩:=qfD h
       cases h
       have q1:_ < _:=ih _ _ _ _ h1
       simp only [List.length_cons] at q1 ⊢
       omega
     ·rw [h3] at h
      obtain ⟨t,l',rfl⟩:=qbr h3
      exact hpair h
    ·rw [h2] at h
     obtain ⟨t,l',rfl⟩:=qbr h2
     exact hpair h
   ·rw [h1] at h
    obtain ⟨t,l',rfl⟩:=qbr h1
    simp only [cond_true,List.tail_cons] at h
    split at h
    ·rename_i v hv
     cases h
     cases l' with
     | nil=>cases hv
     | cons t' l'=>simp only [List.tail_cons,List.length_cons]; omega
    ·cases h
theorem Ev.short {m:Md} {l:List Tok} {e:Ex} {r:List Tok} (h:Ev m l (.ok e r)):qXK m l r:=h.elim fun n hn=>qJX n _ _ _ _ hn
end Go.Tk
namespace Go.Tk
open Go Go.Eng
set_option linter.unusedSimpArgs false
set_option linter.unusedVariables false
def qbd (op:Int):Nat:=if op = 19 then 0 else if op = 15 then 1 else if op = 14 then 2 else if op = 16 then 3 else if op = 10 \/ op = 11 \/ op = 12 \/ op = 13 then 4 else if op = 5 \/ op = 6 then 5 else if op = 7 \/ op = 8 then 6 else if op = 9 then 7 else 8
def mkT (k:Int) (s:Bs):Tok:=⟨k,1,s⟩
def wT (s:Bs):Tok:=mkT (qsc s) s
def qjP (op:Int):Bs:=if op = 5 then [43] else if op = 6 then [45] else if op = 7 then [42] else if op = 8 then [47] else if op = 10 then [61,61] else if op = 11 then [33,61] else if op = 12 then [60] else if op = 13 then [60,61] else if op = 14 then [97,110,100] else [111,114]
def qNS (op n:Int) (s:Bs):List Tok:=if op = 1 then [mkT 2 (Lib.itoa n)] else if op = 2 then [wT [36],mkT 2 (Lib.itoa n)] else if op = 3 then [mkT 3 (qJT n.toNat)] else [mkT 1 s]
def qJR (r:Nat) (op:Int) (l:List Tok):List Tok:=if qbd op < r then wT [40] :: (l ++ [wT [41]]) else l
def qiW (op:Int):Nat:=if qbd op = 4 then 5 else qbd op
def wrB:Ex -> List Tok
 | .mk o n s []=>qNS o n s
 | .mk o n s [a]=>wT (if o = 16 then [110,111,116] else [45]) :: qJR (qbd o) a.op (wrB a)
 | .mk o n s [a,b]=>if o = 17 \/ o = 18 then wT (if o = 17 then [109,105,110] else [109,97,120]) :: wT [40] :: (wrB a ++ wT [44] :: (wrB b ++ [wT [41]]))
   else qJR (qiW o) a.op (wrB a) ++ wT (qjP o) :: qJR (qbd o + 1) b.op (wrB b)
 | .mk o n s (a :: b :: c :: _)=>wT [105,102] :: (wrB a ++ wT [116,104,101,110] :: (wrB b ++ wT [101,108,115,101] :: wrB c))
def par (r:Nat) (e:Ex):List Tok:=qJR r e.op (wrB e)
end Go.Tk
namespace Go.Tk
open Go Go.Eng
set_option linter.unusedSimpArgs false
set_option linter.unusedVariables false
def sgn (t:Tok):Int:=if t.text = [40] then 1 else if t.text = [41] then -1 else 0
def qoh:List Tok -> Int
 | []=>0
 | t :: l=>sgn t + qoh l
theorem qgP:∀ (a b:List Tok),qoh (a ++ b) = qoh a + qoh b
 | [],b=>by simp [qoh]
 | t :: a,b=>by simp only [List.cons_append,qoh,qgP a b]; omega
def Bal (l:List Tok):Prop:=qoh l = 0 /\ ∀ n,0 <= qoh (l.take n)
theorem Bal.nil:Bal []:=⟨rfl,fun n=>by simp [qoh]⟩
theorem Bal.app {a b:List Tok} (ha:Bal a) (hb:Bal b):Bal (a ++ b):=by
 refine ⟨by rw [qgP,ha.1,hb.1]; rfl,fun n=>?_⟩
 rw [List.take_append,qgP]
 have h1:=ha.2 n
 have h2:=hb.2 (n - a.length)
 omega
theorem Bal.one {t:Tok} (h:sgn t = 0):Bal [t]:=by
 refine ⟨by simp [qoh,h],fun n=>?_⟩
 cases n with
 | zero=>simp [qoh]
 | succ n=>simp [qoh,h]
theorem Bal.cons {t:Tok} {l:List Tok} (h:sgn t = 0) (hl:Bal l):Bal (t :: l):=Bal.app (Bal.one h) hl
theorem Bal.wrap {a b:Tok} {l:List Tok} (h1:sgn a = 1) (h2:sgn b = -1) (hl:Bal l):Bal (a :: (l ++ [b])):=by
 refine ⟨?_,fun n=>?_⟩
 ·simp only [qoh,qgP,hl.1,h1,h2]; omega
 ·cases n with
  | zero=>simp [qoh]
  | succ n=>
   rw [List.take_succ_cons,List.take_append]
   simp only [qoh,qgP,h1]
   have:=hl.2 n
   rcases Nat.eq_zero_or_pos (n - l.length) with hz | hz
   ·rw [hz]; simp only [List.take_zero,qoh]; omega
   ·have h3:List.take (n - l.length) [b] = [b]:=List.take_of_length_le (by simp; omega)
    have h4:l.take n = l:=List.take_of_length_le (by omega)
    rw [h3,h4,hl.1]
    simp only [qoh,h2]; omega
theorem Bal.par {r:Nat} {e:Ex} (h:Bal (wrB e)):Bal (par r e):=by
 unfold Tk.par qJR
 split
 ·exact h.wrap (by decide) (by decide)
 ·exact h
end Go.Tk
namespace Go.Eng
theorem brF {α:Type} {b:Bool} {x y:DT α} (h:b = false):(DT.br b x y).ev = y.ev:=by rw [h]; rfl
theorem brT {α:Type} {b:Bool} {x y:DT α} (h:b = true):(DT.br b x y).ev = x.ev:=by rw [h]; rfl
theorem biS {α β:Type} [Inhabited β] {o:Option β} {v:β} {k:β -> DT α} {e:DT α} (h:o = some v):(DT.bi o k e).ev = (k v).ev:=by rw [h]; rfl
theorem biN {α β:Type} [Inhabited β] {o:Option β} {k:β -> DT α} {e:DT α} (h:o = none):(DT.bi o k e).ev = e.ev:=by rw [h]; rfl
end Go.Eng
namespace Go.Tk
open Go Go.Eng
end Go.Tk

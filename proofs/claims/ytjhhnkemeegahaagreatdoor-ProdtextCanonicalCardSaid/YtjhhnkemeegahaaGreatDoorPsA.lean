/- Expressions from tokens, over plain data: what is read, and that reading ends. -/
import Derived.Test.YtjhhnkemeegahaaGreatDoorX16Tok
import Derived.Test.YtjhhnkemeegahaaGreatDoorTkA
import Derived.Test.YtjhhnkemeegahaaGreatDoorE3
set_option linter.all false
namespace Go.Tk
open Go Go.Eng
set_option linter.unusedSimpArgs false
set_option linter.unusedVariables false
def qcC(s:Bs):Int:=bif qbT s then 5 else 4
def isW(s:Bs):List Tok->Bool
 | []=>false
 |t::_=>t.text==s&&t.kind==qcC s
def qj9(s:Bs):Option Int:=bif qgR s&& !qg5 s then some (qa7 0 s:Int)else none
def numAt:List Tok->Option Int
 | []=>none
 |t::_=>bif t.kind==2 then qj9 t.text else none
inductive Rs where
 |bad (r:List Tok)
 |ok (e:Ex) (r:List Tok)
inductive Md where
 |ex|cmp|neg|prim
 |bin (k:Nat)
 |lp (k:Nat) (e:Ex)
def lvS:Nat->List (Bs×Int)
 |0=>[([111,114],15)]
 |1=>[([97,110,100],14)]
 |2=>[([61,61],10),([33,61],11),([60],12),([60,61],13)]
 |3=>[([43],5),([45],6)]
 |4=>[([42],7),([47],8)]
 |_=>[]
def opAt(k:Nat)(l:List Tok):Int:=match (lvS k).find? (fun x=>isW x.1 l)with
 |some x=>x.2
 |none=>0
def qdf(o:Option Rs)(f:Ex->List Tok->Option Rs):Option Rs:=match o with
 |none=>none
 |some (.bad r)=>some (.bad r)
 |some (.ok e r)=>f e r
def qbZ(s:Bs)(r:List Tok)(k:List Tok->Option Rs):Option Rs:=bif isW s r then k r.tail else some (.bad r)
def exN(o:Int)(l:List Ex):Ex:=.mk o 0 [] l
def qeD(op:Int)(p:List Tok->Option Rs)(r:List Tok):Option Rs:=
 qbZ [40] r fun r=>qdf (p r) fun a r=>qbZ [44] r fun r=>qdf (p r) fun b r=>qbZ [41] r fun r=>some (.ok (exN op [a,b]) r)
def qgT(l:List Tok):Rs:=match l with
 | []=>.bad []
 |t::r=>bif t.kind==1 then .ok (.mk 4 0 t.text []) r
  else bif t.kind==3 then(bif (qbm t.text).2==0 then .ok (.mk 3 (qbm t.text).1 [] []) r else .bad l)
  else match numAt l with
   |some n=>.ok (.mk 1 n [] []) r
   |none=>.bad l
def prs:Nat->Md->List Tok->Option Rs
 |0,_,_=>none
 |n+1,.ex,l=>bif isW [105,102] l then
   qdf (prs n .ex l.tail) fun a r=>qbZ [116,104,101,110] r fun r=>qdf (prs n .ex r) fun b r=>qbZ [101,108,115,101] r fun r=>qdf (prs n .ex r) fun c r=>some (.ok (exN 19 [a,b,c]) r)
  else prs n (.bin 0) l
 |n+1,.bin k,l=>bif k==5 then prs n .neg l else bif k==2 then
   (bif isW [110,111,116] l then qdf (prs n (.bin 2) l.tail) fun a r=>some (.ok (exN 16 [a]) r)else prs n .cmp l)
  else qdf (prs n (.bin (k+1)) l) fun e r=>prs n (.lp k e) r
 |n+1,.cmp,l=>qdf (prs n (.bin 3) l) fun e r=>prs n (.lp 2 e) r
 |n+1,.lp k e,l=>bif opAt k l==0 then some (.ok e l)else
   qdf (prs n (.bin (k+1)) l.tail) fun b r=>bif k==2 then some (.ok (exN (opAt k l) [e,b]) r)else prs n (.lp k (exN (opAt k l) [e,b])) r
 |n+1,.neg,l=>bif isW [45] l then qdf (prs n .neg l.tail) fun a r=>some (.ok (exN 9 [a]) r)else prs n .prim l
 |n+1,.prim,l=>bif isW [36] l then(match numAt l.tail with
    |some v=>some (.ok (.mk 2 v [] []) l.tail.tail)
    |none=>some (.bad l.tail))
  else bif isW [109,105,110] l then qeD 17 (prs n .ex) l.tail
  else bif isW [109,97,120] l then qeD 18 (prs n .ex) l.tail
  else bif isW [40] l then qdf (prs n .ex l.tail) fun e r=>qbZ [41] r fun r=>some (.ok e r)
  else some (qgT l)
theorem qyf(n:Nat)(l:List Tok):prs (n+1) .ex l=(bif isW [105,102] l then
   qdf (prs n .ex l.tail) fun a r=>qbZ [116,104,101,110] r fun r=>qdf (prs n .ex r) fun b r=>qbZ [101,108,115,101] r fun r=>qdf (prs n .ex r) fun c r=>some (.ok (exN 19 [a,b,c]) r)
  else prs n (.bin 0) l):=rfl
theorem qoO(n:Nat)(k:Nat)(l:List Tok):prs (n+1) (.bin k) l=(bif k==5 then prs n .neg l else bif k==2 then
   (bif isW [110,111,116] l then qdf (prs n (.bin 2) l.tail) fun a r=>some (.ok (exN 16 [a]) r)else prs n .cmp l)
  else qdf (prs n (.bin (k+1)) l) fun e r=>prs n (.lp k e) r):=rfl
theorem qu7(n:Nat)(l:List Tok):prs (n+1) .cmp l=(qdf (prs n (.bin 3) l) fun e r=>prs n (.lp 2 e) r):=rfl
theorem qyg(n:Nat)(k:Nat)(e:Ex)(l:List Tok):prs (n+1) (.lp k e) l=(bif opAt k l==0 then some (.ok e l)else
   qdf (prs n (.bin (k+1)) l.tail) fun b r=>bif k==2 then some (.ok (exN (opAt k l) [e,b]) r)else prs n (.lp k (exN (opAt k l) [e,b])) r):=rfl
theorem qoP(n:Nat)(l:List Tok):prs (n+1) .neg l=(bif isW [45] l then qdf (prs n .neg l.tail) fun a r=>some (.ok (exN 9 [a]) r)else prs n .prim l):=rfl
theorem qk4(n:Nat)(l:List Tok):prs (n+1) .prim l=(bif isW [36] l then(match numAt l.tail with
    |some v=>some (.ok (.mk 2 v [] []) l.tail.tail)
    |none=>some (.bad l.tail))
  else bif isW [109,105,110] l then qeD 17 (prs n .ex) l.tail
  else bif isW [109,97,120] l then qeD 18 (prs n .ex) l.tail
  else bif isW [40] l then qdf (prs n .ex l.tail) fun e r=>qbZ [41] r fun r=>some (.ok e r)
  else some (qgT l)):=rfl
theorem qcw{o o':Option Rs}{f f':Ex->List Tok->Option Rs}(ho:∀r,o=some r->o'=some r)(hf:∀e r x,f e r=some x->f' e r=some x){x:Rs}(h:qdf o f=some x):qdf o' f'=some x:=by
 unfold qdf at h ⊢;cases o with
 |none=>cases h
 |some q=>
  rw[ho q rfl];cases q with
  |bad r=>exact h
  |ok e r=>exact hf _ _ _ h
theorem qeE{s:Bs}{r:List Tok}{f f':List Tok->Option Rs}(hf:∀r x,f r=some x->f' r=some x){x:Rs}(h:qbZ s r f=some x):qbZ s r f'=some x:=by
 unfold qbZ at h ⊢;revert h;cases isW s r
 ·exact fun h=>h
 ·exact fun h=>hf _ _ h
theorem qD6{op:Int}{p p':List Tok->Option Rs}(hp:∀r x,p r=some x->p' r=some x){r:List Tok}{x:Rs}(h:qeD op p r=some x):qeD op p' r=some x:=by
 unfold qeD at h ⊢;exact qeE (fun r x h=>qcw (hp r) (fun a r x h=>qeE (fun r x h=>qcw (hp r) (fun b r x h=>h) h) h) h) h
theorem qi4:∀(n:Nat) (m:Md) (l:List Tok) (x:Rs),prs n m l=some x->prs (n+1) m l=some x:=by
 intro n
 induction n with
 |zero=>intro m l x h;cases h
 |succ n ih=>
  intro m l x h;cases m with
  |ex=>
   rw[qyf]at h ⊢;cases hi:isW [105,102] l
   ·rw[hi]at h;exact ih _ _ _ h
   ·rw[hi]at h;simp only[jAa]at h ⊢;exact qcw (ih _ _) (fun a r x h=>qeE (fun r x h=>qcw (ih _ _) (fun b r x h=>qeE (fun r x h=>qcw (ih _ _) (fun c r x h=>h) h) h) h) h) h
  |bin k=>
   rw[qoO]at h ⊢;cases h5:(k==5)
   ·rw[h5]at h;cases h2:(k==2)
    ·rw[h2]at h;exact qcw (ih _ _) (fun e r x h=>ih _ _ _ h) h
    ·rw[h2]at h;simp only[jAa,jA9]at h ⊢;cases hi:isW [110,111,116] l
     ·rw[hi]at h;exact ih _ _ _ h
     ·rw[hi]at h;exact qcw (ih _ _) (fun e r x h=>h) h
   ·rw[h5]at h;exact ih _ _ _ h
  |cmp=>rw[qu7]at h ⊢;exact qcw (ih _ _) (fun e r x h=>ih _ _ _ h) h
  |lp k e=>
   rw[qyg]at h ⊢;cases h0:(opAt k l==0)
   ·rw[h0]at h;simp only[jA9]at h ⊢;refine qcw (ih _ _) (fun b r x h=>?_) h;cases h2:(k==2)
    ·rw[h2]at h;exact ih _ _ _ h
    ·rw[h2]at h;exact h
   ·rw[h0]at h;exact h
  |neg=>
   rw[qoP]at h ⊢;cases hi:isW [45] l
   ·rw[hi]at h;exact ih _ _ _ h
   ·rw[hi]at h;exact qcw (ih _ _) (fun e r x h=>h) h
  |prim=>
   rw[qk4]at h ⊢;cases h1:isW [36] l
   ·rw[h1]at h;simp only[jA9]at h ⊢;cases h2:isW [109,105,110] l
    ·rw[h2]at h;simp only[jA9]at h ⊢;cases h3:isW [109,97,120] l
     ·rw[h3]at h;simp only[jA9]at h ⊢;cases h4:isW [40] l
      ·rw[h4]at h;exact h
      ·rw[h4]at h;exact qcw (ih _ _) (fun e r x h=>h) h
     ·rw[h3]at h;exact qD6 (fun r x h=>ih _ _ _ h) h
    ·rw[h2]at h;exact qD6 (fun r x h=>ih _ _ _ h) h
   ·rw[h1]at h;exact h
theorem qAq{n k:Nat}(hk:n<=k){m:Md}{l:List Tok}{x:Rs}(h:prs n m l=some x):prs k m l=some x:=by
 induction hk with
 |refl=>exact h
 |step _ ih=>exact qi4 _ _ _ _ ih
def Ev(m:Md)(l:List Tok)(x:Rs):Prop:=∃n,prs n m l=some x
theorem Ev.fn{m:Md}{l:List Tok}{x y:Rs}(h:Ev m l x)(h':Ev m l y):x=y:=by
 obtain⟨n,hn⟩:=h;obtain⟨k,hk⟩:=h';have h1:=qAq (Nat.le_max_left n k) hn;have h2:=qAq (jCq n k) hk;rw[h1]at h2;cases h2;rfl
def Thn(x:Rs)(f:Ex->List Tok->Rs->Prop)(y:Rs):Prop:=match x with
 | .bad r=>y= .bad r
 | .ok e r=>f e r y
def Wnt(s:Bs)(r:List Tok)(f:List Tok->Rs->Prop)(y:Rs):Prop:=(isW s r=true/\f r.tail y)\/(isW s r=false/\y= .bad r)
theorem Thn.mono{x:Rs}{f g:Ex->List Tok->Rs->Prop}{y:Rs}(h:Thn x f y)(hf:∀e r y,f e r y->g e r y):Thn x g y:=by
 cases x with
 |bad r=>exact h
 |ok e r=>exact hf _ _ _ h
theorem Wnt.mono{s:Bs}{r:List Tok}{f g:List Tok->Rs->Prop}{y:Rs}(h:Wnt s r f y)(hf:∀r y,f r y->g r y):Wnt s r g y:=by
 rcases h with⟨h1,h2⟩|h
 ·exact .inl ⟨h1,hf _ _ h2⟩
 ·exact .inr h
theorem qsS{s:Bs}{r:List Tok}{F:Nat->List Tok->Option Rs}{y:Rs}(h:Wnt s r (fun r y=>∃n,F n r=some y) y):∃n,qbZ s r (F n)=some y:=by
 rcases h with⟨h1,n,hn⟩|⟨h1,h2⟩
 ·exact⟨n,by unfold qbZ;rw[h1];exact hn⟩
 ·exact⟨0,by unfold qbZ;rw[h1,h2];rfl⟩
theorem qjs{m:Md}{l:List Tok}{x y:Rs}{F:Nat->Ex->List Tok->Option Rs}(hx:Ev m l x)(hF:∀n e r z,F n e r=some z->F (n+1) e r=some z)(hy:Thn x (fun e r y=>∃n,F n e r=some y) y):∃n,qdf (prs n m l) (F n)=some y:=by
 obtain⟨n,hn⟩:=hx;have hF':∀{n k},n<=k-> ∀e r z,F n e r=some z->F k e r=some z:=by
  intro n k hk
  induction hk with
  |refl=>intro e r z h;exact h
  |step _ ih=>intro e r z h;exact hF _ _ _ _ (ih _ _ _ h)
 cases x with
 |bad r=>
  cases hy;exact⟨n,by rw[hn];rfl⟩
 |ok e r=>
  obtain⟨k,hk⟩:=hy;refine⟨max n k,?_⟩;rw[qAq (Nat.le_max_left n k) hn];exact hF' (jCq n k) _ _ _ hk
theorem qdI{m:Md}{l:List Tok}{y:Rs}{F:Nat->Option Rs}(he:∀n,prs (n+1) m l=F n)(h:∃n,F n=some y):Ev m l y:=by
 obtain⟨n,hn⟩:=h;exact⟨n+1,by rw[he,hn]⟩
theorem qCN{l:List Tok}{y:Rs}(h0:isW [105,102] l=false)(h:Ev (.bin 0) l y):Ev .ex l y:=qdI (fun n=>by simp only[prs,h0,jA9]) h
theorem qzh{l:List Tok}{y:Rs}(h:Ev .neg l y):Ev (.bin 5) l y:=qdI (fun n=>by simp only[prs];rfl) h
theorem qGg{l:List Tok}{y:Rs}(h0:isW [110,111,116] l=false)(h:Ev .cmp l y):Ev (.bin 2) l y:=qdI (fun n=>by simp only[prs,h0,jA9];rfl) h
theorem qT9{l:List Tok}{x y:Rs}(h0:isW [110,111,116] l=true)(h:Ev (.bin 2) l.tail x)(hy:Thn x (fun a r y=>y= .ok (exN 16 [a]) r) y):Ev (.bin 2) l y:=by
 refine qdI (F:=fun n=>qdf (prs n (.bin 2) l.tail) fun a r=>some (.ok (exN 16 [a]) r)) (fun n=>by simp only[prs,h0,jAa];rfl) (qjs h (fun n e r z h=>h) ?_);cases x with
 |bad r=>exact hy
 |ok e r=>exact⟨0,by rw[show y=_ from hy]⟩
theorem qjK{k:Nat}(hk:(k==5)=false)(hk2:(k==2)=false){l:List Tok}{x y:Rs}(h:Ev (.bin (k+1)) l x)(hy:Thn x (fun e r y=>Ev (.lp k e) r y) y):Ev (.bin k) l y:=
 qdI (F:=fun n=>qdf (prs n (.bin (k+1)) l) fun e r=>prs n (.lp k e) r) (fun n=>by simp only[prs,hk,hk2,jA9]) (qjs h (fun n e r z h=>qi4 _ _ _ _ h) hy)
theorem qCM{l:List Tok}{x y:Rs}(h:Ev (.bin 3) l x)(hy:Thn x (fun e r y=>Ev (.lp 2 e) r y) y):Ev .cmp l y:=
 qdI (F:=fun n=>qdf (prs n (.bin 3) l) fun e r=>prs n (.lp 2 e) r) (fun n=>by simp only[prs]) (qjs h (fun n e r z h=>qi4 _ _ _ _ h) hy)
theorem qpO{k:Nat}{e:Ex}{l:List Tok}(h:opAt k l=0):Ev (.lp k e) l (.ok e l):=⟨1,by simp only[prs,h];rfl⟩
theorem zeO{k:Nat}(hk:(k==2)=false){e:Ex}{l:List Tok}{x y:Rs}(h0:opAt k l≠0)(h:Ev (.bin (k+1)) l.tail x)(hy:Thn x (fun b r y=>Ev (.lp k (exN (opAt k l) [e,b])) r y) y):Ev (.lp k e) l y:=
 qdI (F:=fun n=>qdf (prs n (.bin (k+1)) l.tail) fun b r=>prs n (.lp k (exN (opAt k l) [e,b])) r) (fun n=>by
  have:(opAt k l==0)=false:=by simpa using h0
  simp only[prs,this,hk,jA9]) (qjs h (fun n e r z h=>qi4 _ _ _ _ h) hy)
theorem qT7{e:Ex}{l:List Tok}{x y:Rs}(h0:opAt 2 l≠0)(h:Ev (.bin 3) l.tail x)(hy:Thn x (fun b r y=>y= .ok (exN (opAt 2 l) [e,b]) r) y):Ev (.lp 2 e) l y:=by
 refine qdI (F:=fun n=>qdf (prs n (.bin 3) l.tail) fun b r=>some (.ok (exN (opAt 2 l) [e,b]) r)) (fun n=>by
  have:(opAt 2 l==0)=false:=by simpa using h0
  simp only[prs,this,jA9];rfl) (qjs h (fun n e r z h=>h) ?_)
 cases x with
 |bad r=>exact hy
 |ok e r=>exact⟨0,by rw[show y=_ from hy]⟩
theorem qT8{l:List Tok}{x y:Rs}(h0:isW [45] l=true)(h:Ev .neg l.tail x)(hy:Thn x (fun a r y=>y= .ok (exN 9 [a]) r) y):Ev .neg l y:=by
 refine qdI (F:=fun n=>qdf (prs n .neg l.tail) fun a r=>some (.ok (exN 9 [a]) r)) (fun n=>by simp only[prs,h0,jAa]) (qjs h (fun n e r z h=>h) ?_);cases x with
 |bad r=>exact hy
 |ok e r=>exact⟨0,by rw[show y=_ from hy]⟩
theorem qGj{l:List Tok}{y:Rs}(h0:isW [45] l=false)(h:Ev .prim l y):Ev .neg l y:=qdI (fun n=>by simp only[prs,h0,jA9]) h
theorem qGh{l:List Tok}{xa:Rs}{y:Rs}(h0:isW [105,102] l=true)(ha:Ev .ex l.tail xa)
  (hy:Thn xa (fun a r y=>Wnt [116,104,101,110] r (fun r y=>∃xb,Ev .ex r xb/\Thn xb (fun b r y=>Wnt [101,108,115,101] r (fun r y=>∃xc,Ev .ex r xc/\Thn xc (fun c r y=>y= .ok (exN 19 [a,b,c]) r) y) y) y) y) y):Ev .ex l y:=by
 have hc:∀(a b:Ex) (n:Nat) (r:List Tok) (z:Rs),qdf (prs n .ex r) (fun c r=>some (.ok (exN 19 [a,b,c]) r))=some z->qdf (prs (n+1) .ex r) (fun c r=>some (.ok (exN 19 [a,b,c]) r))=some z:=
  fun a b n r z h=>qcw (fun r h=>qi4 _ _ _ _ h) (fun _ _ _ h=>h) h
 have hb:∀(a:Ex) (n:Nat) (r:List Tok) (z:Rs),qdf (prs n .ex r) (fun b r=>qbZ [101,108,115,101] r fun r=>qdf (prs n .ex r) fun c r=>some (.ok (exN 19 [a,b,c]) r))=some z ->
   qdf (prs (n+1) .ex r) (fun b r=>qbZ [101,108,115,101] r fun r=>qdf (prs (n+1) .ex r) fun c r=>some (.ok (exN 19 [a,b,c]) r))=some z:=
  fun a n r z h=>qcw (fun r h=>qi4 _ _ _ _ h) (fun b r x h=>qeE (fun r x h=>hc a b n r x h) h) h
 refine qdI (F:=fun n=>qdf (prs n .ex l.tail) fun a r=>qbZ [116,104,101,110] r fun r=>qdf (prs n .ex r) fun b r=>qbZ [101,108,115,101] r fun r=>qdf (prs n .ex r) fun c r=>some (.ok (exN 19 [a,b,c]) r))
  (fun n=>by simp only[prs,h0,jAa]) (qjs ha (fun n a r z h=>qeE (fun r x h=>hb a n r x h) h) ?_)
 exact hy.mono fun a r y h=>qsS (F:=fun n r=>qdf (prs n .ex r) fun b r=>qbZ [101,108,115,101] r fun r=>qdf (prs n .ex r) fun c r=>some (.ok (exN 19 [a,b,c]) r)) (h.mono fun r y ⟨xb,hxb,h⟩=>
  qjs (F:=fun n b r=>qbZ [101,108,115,101] r fun r=>qdf (prs n .ex r) fun c r=>some (.ok (exN 19 [a,b,c]) r)) hxb (fun n b r z h=>qeE (fun r x h=>hc a b n r x h) h) (h.mono fun b r y h=>
   qsS (F:=fun n r=>qdf (prs n .ex r) fun c r=>some (.ok (exN 19 [a,b,c]) r)) (h.mono fun r y ⟨xc,hxc,h⟩=>
    qjs (F:=fun n c r=>some (.ok (exN 19 [a,b,c]) r)) hxc (fun n c r z h=>h) (h.mono fun c r y h=>⟨0,by rw[h]⟩))))
def qMC(op:Int)(r:List Tok)(y:Rs):Prop:=
 Wnt [40] r (fun r y=>∃xa,Ev .ex r xa/\Thn xa (fun a r y=>Wnt [44] r (fun r y=>∃xb,Ev .ex r xb/\Thn xb (fun b r y=>Wnt [41] r (fun r y=>y= .ok (exN op [a,b]) r) y) y) y) y) y
theorem qI7{op:Int}{r:List Tok}{y:Rs}(h:qMC op r y):∃n,qeD op (prs n .ex) r=some y:=by
 have hb:∀(a:Ex) (n:Nat) (r:List Tok) (z:Rs),qdf (prs n .ex r) (fun b r=>qbZ [41] r fun r=>some (.ok (exN op [a,b]) r))=some z->qdf (prs (n+1) .ex r) (fun b r=>qbZ [41] r fun r=>some (.ok (exN op [a,b]) r))=some z:=
  fun a n r z h=>qcw (fun r h=>qi4 _ _ _ _ h) (fun _ _ _ h=>h) h
 unfold qeD;exact qsS (F:=fun n r=>qdf (prs n .ex r) fun a r=>qbZ [44] r fun r=>qdf (prs n .ex r) fun b r=>qbZ [41] r fun r=>some (.ok (exN op [a,b]) r)) (h.mono fun r y ⟨xa,hxa,h⟩=>
  qjs (F:=fun n a r=>qbZ [44] r fun r=>qdf (prs n .ex r) fun b r=>qbZ [41] r fun r=>some (.ok (exN op [a,b]) r)) hxa (fun n a r z h=>qeE (fun r x h=>hb a n r x h) h) (h.mono fun a r y h=>
   qsS (F:=fun n r=>qdf (prs n .ex r) fun b r=>qbZ [41] r fun r=>some (.ok (exN op [a,b]) r)) (h.mono fun r y ⟨xb,hxb,h⟩=>
    qjs (F:=fun n b r=>qbZ [41] r fun r=>some (.ok (exN op [a,b]) r)) hxb (fun n b r z h=>h) (h.mono fun b r y h=>
     qsS (F:=fun _ r=>some (.ok (exN op [a,b]) r)) (h.mono fun r y h=>⟨0,by rw[h]⟩)))))
theorem qT6{l:List Tok}(h0:isW [36] l=true):Ev .prim l (match numAt l.tail with|some v=>.ok (.mk 2 v [] []) l.tail.tail|none=>.bad l.tail):=
 ⟨1,by simp only[prs,h0,jAa];cases numAt l.tail<;>rfl⟩
theorem q9t{l:List Tok}{y:Rs}(h1:isW [36] l=false)(h2:isW [109,105,110] l=true)(h:qMC 17 l.tail y):Ev .prim l y:=
 qdI (F:=fun n=>qeD 17 (prs n .ex) l.tail) (fun n=>by simp only[prs,h1,h2,jAa,jA9]) (qI7 h)
theorem q9s{l:List Tok}{y:Rs}(h1:isW [36] l=false)(h2:isW [109,105,110] l=false)(h3:isW [109,97,120] l=true)(h:qMC 18 l.tail y):Ev .prim l y:=
 qdI (F:=fun n=>qeD 18 (prs n .ex) l.tail) (fun n=>by simp only[prs,h1,h2,h3,jAa,jA9]) (qI7 h)
theorem qI8{l:List Tok}{x y:Rs}(h1:isW [36] l=false)(h2:isW [109,105,110] l=false)(h3:isW [109,97,120] l=false)(h4:isW [40] l=true)(h:Ev .ex l.tail x)(hy:Thn x (fun e r y=>Wnt [41] r (fun r y=>y= .ok e r) y) y):Ev .prim l y:=by
 refine qdI (F:=fun n=>qdf (prs n .ex l.tail) fun e r=>qbZ [41] r fun r=>some (.ok e r)) (fun n=>by simp only[prs,h1,h2,h3,h4,jAa,jA9]) (qjs h (fun n e r z h=>h) ?_);cases x with
 |bad r=>exact hy
 |ok e r=>
  rcases hy with⟨h1,hy⟩|⟨h1,hy⟩
  ·exact⟨0,by simp only[qbZ,h1,jAa];rw[hy]⟩
  ·exact⟨0,by simp only[qbZ,h1,jA9];rw[hy]⟩
theorem qGi{l:List Tok}(h1:isW [36] l=false)(h2:isW [109,105,110] l=false)(h3:isW [109,97,120] l=false)(h4:isW [40] l=false):Ev .prim l (qgT l):=
 ⟨1,by simp only[prs,h1,h2,h3,h4,jA9]⟩
theorem qbv{s:Bs}{l:List Tok}(h:isW s l=true):∃t r,l=t::r:=by
 cases l with
 |nil=>cases h
 |cons t r=>exact⟨t,r,rfl⟩
theorem quD{k:Nat}{l:List Tok}(h:opAt k l≠0):∃t r,l=t::r:=by
 unfold opAt at h;cases hf:(lvS k).find? (fun x=>isW x.1 l)with
 |none=>rw[hf]at h;exact absurd rfl h
 |some x=>
  have h2:=jC4 (p:=fun x:Bs×Int=>isW x.1 l) hf;exact qbv (s:=x.1) h2
def zjr(m:Md)(l r:List Tok):Prop:=match m with
 | .lp _ _=>r.length<=l.length
 |_=>r.length<l.length
theorem qO7{l:List Tok}{e:Ex}{r:List Tok}(h:qgT l= .ok e r):r.length<l.length:=by
 unfold qgT at h;cases l with
 |nil=>cases h
 |cons t l=>
  simp only at h;cases h1:(t.kind==1)
  ·rw[h1]at h;cases h3:(t.kind==3)
   ·rw[h3]at h;simp only[jA9]at h;split at h
    ·cases h;simp
    ·cases h
   ·rw[h3]at h;simp only[jAa,jA9]at h;cases h4:((qbm t.text).2==0)
    ·rw[h4]at h;cases h
    ·rw[h4]at h;cases h;simp
  ·rw[h1]at h;cases h;simp
theorem qdr{o:Option Rs}{f:Ex->List Tok->Option Rs}{e:Ex}{r:List Tok}(h:qdf o f=some (.ok e r)):∃e' r',o=some (.ok e' r')/\f e' r'=some (.ok e r):=by
 unfold qdf at h;split at h
 ·cases h
 ·cases h
 ·exact⟨_,_,rfl,h⟩
theorem qjm{s:Bs}{l:List Tok}{f:List Tok->Option Rs}{e:Ex}{r:List Tok}(h:qbZ s l f=some (.ok e r)):∃t l',l=t::l'/\isW s l=true/\f l'=some (.ok e r):=by
 unfold qbZ at h;cases hq:isW s l
 ·rw[hq]at h;cases h
 ·rw[hq]at h;obtain⟨t,l',rfl⟩:=qbv hq;exact⟨t,l',rfl,rfl,h⟩
theorem qY6{op:Int}{p:List Tok->Option Rs}{l:List Tok}{e:Ex}{r:List Tok}(h:qeD op p l=some (.ok e r)) :
  ∃t1 l1 a t2 l2 b t3,l=t1::l1/\p l1=some (.ok a (t2::l2))/\p l2=some (.ok b (t3::r))/\e=exN op [a,b]:=by
 unfold qeD at h;obtain⟨t1,l1,rfl,_,h⟩:=qjm h;obtain⟨a,r1,h1,h⟩:=qdr h;obtain⟨t2,l2,rfl,_,h⟩:=qjm h;obtain⟨b,r2,h2,h⟩:=qdr h;obtain⟨t3,l3,rfl,_,h⟩:=qjm h;cases h;exact⟨t1,l1,a,t2,l2,b,t3,rfl,h1,h2,rfl⟩
theorem qZj:∀(n:Nat) (m:Md) (l:List Tok) (e:Ex) (r:List Tok),prs n m l=some (.ok e r)->zjr m l r:=by
 intro n
 induction n with
 |zero=>intro m l e r h;cases h
 |succ n ih=>
  intro m l e r h;cases m with
  |ex=>
   simp only[prs]at h;show r.length<l.length;cases hi:isW [105,102] l
   ·rw[hi]at h;exact ih _ _ _ _ h
   ·rw[hi]at h;obtain⟨t,l',rfl⟩:=qbv hi;simp only[jAa,jB3]at h;obtain⟨a,r1,h1,h⟩:=qdr h;obtain⟨t1,l1,rfl,_,h⟩:=qjm h;obtain⟨b,r2,h2,h⟩:=qdr h;obtain⟨t2,l2,rfl,_,h⟩:=qjm h;obtain⟨c,r3,h3,h⟩:=qdr h;cases h;have q1:_<_:=ih _ _ _ _ h1;have q2:_<_:=ih _ _ _ _ h2;have q3:_<_:=ih _ _ _ _ h3;simp only[jA0]at q1 q2 q3 ⊢;omega
  |bin k=>
   simp only[prs]at h;show r.length<l.length;cases h5:(k==5)
   ·rw[h5]at h;cases h2:(k==2)
    ·rw[h2]at h;simp only[jA9]at h;obtain⟨a,r1,h1,h⟩:=qdr h;have q1:_<_:=ih _ _ _ _ h1;have q2:_<=_:=ih _ _ _ _ h;omega
    ·rw[h2]at h;simp only[jAa,jA9]at h;cases hi:isW [110,111,116] l
     ·rw[hi]at h;exact ih _ _ _ _ h
     ·rw[hi]at h;obtain⟨t,l',rfl⟩:=qbv hi;obtain⟨a,r1,h1,h⟩:=qdr h;cases h;have q1:_<_:=ih _ _ _ _ h1;simp only[jB3,jA0]at q1 ⊢;omega
   ·rw[h5]at h;exact ih _ _ _ _ h
  |cmp=>
   simp only[prs]at h;show r.length<l.length;obtain⟨a,r1,h1,h⟩:=qdr h;have q1:_<_:=ih _ _ _ _ h1;have q2:_<=_:=ih _ _ _ _ h;omega
  |lp k e0=>
   simp only[prs]at h;show r.length<=l.length;cases h0:(opAt k l==0)
   ·rw[h0]at h;obtain⟨t,l',rfl⟩:=quD (by simpa using h0);simp only[jA9,jB3]at h;obtain⟨b,r1,h1,h⟩:=qdr h;have q1:_<_:=ih _ _ _ _ h1;cases h2:(k==2)
    ·rw[h2]at h;have q2:_<=_:=ih _ _ _ _ h;simp only[jA0];omega
    ·rw[h2]at h;cases h;simp only[jA0];omega
   ·rw[h0]at h;cases h;exact jAj _
  |neg=>
   simp only[prs]at h;show r.length<l.length;cases hi:isW [45] l
   ·rw[hi]at h;exact ih _ _ _ _ h
   ·rw[hi]at h;obtain⟨t,l',rfl⟩:=qbv hi;obtain⟨a,r1,h1,h⟩:=qdr h;cases h;have q1:_<_:=ih _ _ _ _ h1;simp only[jB3,jA0]at q1 ⊢;omega
  |prim=>
   simp only[prs]at h;show r.length<l.length;have hpair:∀{op:Int} {t:Tok} {l':List Tok},qeD op (prs n .ex) l'=some (.ok e r)->r.length<(t::l').length:=by
    intro op t l' h;obtain⟨t1,l1,a,t2,l2,b,t3,rfl,h1,h2,_⟩:=qY6 h;have q1:_<_:=ih _ _ _ _ h1;have q2:_<_:=ih _ _ _ _ h2;simp only[jA0]at q1 q2 ⊢;omega
   cases h1:isW [36] l
   ·rw[h1]at h;simp only[jA9]at h;cases h2:isW [109,105,110] l
    ·rw[h2]at h;simp only[jA9]at h;cases h3:isW [109,97,120] l
     ·rw[h3]at h;simp only[jA9]at h;cases h4:isW [40] l
      ·rw[h4]at h;simp only[jA9,jA7]at h;exact qO7 h
      ·rw[h4]at h;obtain⟨t,l',rfl⟩:=qbv h4;simp only[jAa,jB3]at h;obtain⟨a,r1,h1,h⟩:=qdr h;obtain⟨t1,l1,rfl,_,h⟩:=qjm h;cases h;have q1:_<_:=ih _ _ _ _ h1;simp only[jA0]at q1 ⊢;omega
     ·rw[h3]at h;obtain⟨t,l',rfl⟩:=qbv h3;exact hpair h
    ·rw[h2]at h;obtain⟨t,l',rfl⟩:=qbv h2;exact hpair h
   ·rw[h1]at h;obtain⟨t,l',rfl⟩:=qbv h1;simp only[jAa,jB3]at h;split at h
    ·rename_i v hv;cases h;cases l' with
     |nil=>cases hv
     |cons t' l'=>simp only[jB3,jA0];omega
    ·cases h
theorem Ev.short{m:Md}{l:List Tok}{e:Ex}{r:List Tok}(h:Ev m l (.ok e r)):zjr m l r:=h.elim fun n hn=>qZj n _ _ _ _ hn
def wgt:Md->Nat
 | .prim=>0
 | .neg=>1
 | .bin k=>if k>=5 then 2 else if k=4 then 3 else if k=3 then 4 else if k=2 then 6 else if k=1 then 7 else 8
 | .cmp=>5
 | .ex=>9
 | .lp _ _=>10
def zn0:Md->Bool
 | .bin k=>decide (k<=5)
 | .lp k _=>decide (k<=4)
 |_=>true
theorem zkQ:∀(n w:Nat) (m:Md) (l:List Tok),l.length=n->wgt m=w->zn0 m=true-> ∃x,Ev m l x:=by
 intro n
 induction n using Nat.strongRecOn with
 |_ n ihn=>
  have hex:∀{l':List Tok},l'.length<n-> ∀m,zn0 m=true-> ∃x,Ev m l' x:=fun h m hm=>ihn _ h _ m _ rfl rfl hm
  intro w
  induction w using Nat.strongRecOn with
  |_ w ihw=>
   intro m l hl hw hm;have hlow:∀m',wgt m'<w->zn0 m'=true-> ∃x,Ev m' l x:=fun m' h hm'=>ihw _ h m' l hl rfl hm'
   have hpair:∀(op:Int) (t:Tok) (l':List Tok),l=t::l'-> ∃y,qMC op l' y:=by
    intro op t l' he;unfold qMC;by_cases h1:isW [40] l'=true
    ·obtain⟨t1,l1,rfl⟩:=qbv h1;obtain⟨xa,hxa⟩:=hex (l':=l1) (by rw[<-hl,he];simp;omega) .ex rfl;cases xa with
     |bad r=>exact⟨_,.inl ⟨h1,_,hxa,rfl⟩⟩
     |ok a r=>
      have q1:_<_:=hxa.short;by_cases h2:isW [44] r=true
      ·obtain⟨t2,l2,rfl⟩:=qbv h2;obtain⟨xb,hxb⟩:=hex (l':=l2) (by rw[<-hl,he];simp only[jA0]at q1 ⊢;omega) .ex rfl;cases xb with
       |bad r=>exact⟨_,.inl ⟨h1,_,hxa,.inl ⟨h2,_,hxb,rfl⟩⟩⟩
       |ok b r=>
        by_cases h3:isW [41] r=true
        ·exact⟨_,.inl ⟨h1,_,hxa,.inl ⟨h2,_,hxb,.inl ⟨h3,rfl⟩⟩⟩⟩
        ·exact⟨_,.inl ⟨h1,_,hxa,.inl ⟨h2,_,hxb,.inr ⟨by simpa using h3,rfl⟩⟩⟩⟩
      ·exact⟨_,.inl ⟨h1,_,hxa,.inr ⟨by simpa using h2,rfl⟩⟩⟩
    ·exact⟨_,.inr ⟨by simpa using h1,rfl⟩⟩
   cases m with
   |prim=>
    cases h1:isW [36] l
    ·cases h2:isW [109,105,110] l
     ·cases h3:isW [109,97,120] l
      ·cases h4:isW [40] l
       ·exact⟨_,qGi h1 h2 h3 h4⟩
       ·obtain⟨t,l',rfl⟩:=qbv h4;obtain⟨x,hx⟩:=hex (l':=l') (by rw[<-hl];simp) .ex rfl;cases x with
        |bad r=>exact⟨_,qI8 h1 h2 h3 h4 hx rfl⟩
        |ok e r=>
         by_cases h5:isW [41] r=true
         ·exact⟨_,qI8 h1 h2 h3 h4 hx (.inl ⟨h5,rfl⟩)⟩
         ·exact⟨_,qI8 h1 h2 h3 h4 hx (.inr ⟨by simpa using h5,rfl⟩)⟩
      ·obtain⟨t,l',rfl⟩:=qbv h3;obtain⟨y,hy⟩:=hpair 18 t l' rfl;exact⟨y,q9s h1 h2 h3 hy⟩
     ·obtain⟨t,l',rfl⟩:=qbv h2;obtain⟨y,hy⟩:=hpair 17 t l' rfl;exact⟨y,q9t h1 h2 hy⟩
    ·exact⟨_,qT6 h1⟩
   |neg=>
    cases h1:isW [45] l
    ·obtain⟨x,hx⟩:=hlow .prim (by rw[<-hw];decide) rfl;exact⟨x,qGj h1 hx⟩
    ·obtain⟨t,l',rfl⟩:=qbv h1;obtain⟨x,hx⟩:=hex (l':=l') (by rw[<-hl];simp) .neg rfl;cases x with
     |bad r=>exact⟨_,qT8 h1 hx rfl⟩
     |ok e r=>exact⟨_,qT8 h1 hx rfl⟩
   |cmp=>
    obtain⟨x,hx⟩:=hlow (.bin 3) (by rw[<-hw];decide) rfl;cases x with
    |bad r=>exact⟨_,qCM hx rfl⟩
    |ok e r=>
     have q1:_<_:=hx.short;obtain⟨y,hy⟩:=hex (l':=r) (by omega) (.lp 2 e) rfl;exact⟨y,qCM hx hy⟩
   |ex=>
    cases h1:isW [105,102] l
    ·obtain⟨x,hx⟩:=hlow (.bin 0) (by rw[<-hw];decide) rfl;exact⟨x,qCN h1 hx⟩
    ·obtain⟨t,l',rfl⟩:=qbv h1;obtain⟨xa,hxa⟩:=hex (l':=l') (by rw[<-hl];simp) .ex rfl;cases xa with
     |bad r=>exact⟨_,qGh h1 hxa rfl⟩
     |ok a r=>
      have q1:_<_:=hxa.short;by_cases h2:isW [116,104,101,110] r=true
      ·obtain⟨t2,l2,rfl⟩:=qbv h2;obtain⟨xb,hxb⟩:=hex (l':=l2) (by rw[<-hl];simp only[jA0,jB3]at q1 ⊢;omega) .ex rfl;cases xb with
       |bad r=>exact⟨_,qGh h1 hxa (.inl ⟨h2,_,hxb,rfl⟩)⟩
       |ok b r=>
        have q2:_<_:=hxb.short;by_cases h3:isW [101,108,115,101] r=true
        ·obtain⟨t3,l3,rfl⟩:=qbv h3;obtain⟨xc,hxc⟩:=hex (l':=l3) (by rw[<-hl];simp only[jA0,jB3]at q1 q2 ⊢;omega) .ex rfl;cases xc with
         |bad r=>exact⟨_,qGh h1 hxa (.inl ⟨h2,_,hxb,.inl ⟨h3,_,hxc,rfl⟩⟩)⟩
         |ok c r=>exact⟨_,qGh h1 hxa (.inl ⟨h2,_,hxb,.inl ⟨h3,_,hxc,rfl⟩⟩)⟩
        ·exact⟨_,qGh h1 hxa (.inl ⟨h2,_,hxb,.inr ⟨by simpa using h3,rfl⟩⟩)⟩
      ·exact⟨_,qGh h1 hxa (.inr ⟨by simpa using h2,rfl⟩)⟩
   |bin k=>
    have hk:k<=5:=jBd hm;have hgen:(k==5)=false->(k==2)=false->wgt (.bin (k+1))<w-> ∃x,Ev (.bin k) l x:=by
     intro h5 h2 hlt;have hk5:k≠5:=by simpa using h5
     obtain⟨x,hx⟩:=hlow (.bin (k+1)) hlt (jA8 (by omega));cases x with
     |bad r=>exact⟨_,qjK h5 h2 hx rfl⟩
     |ok e r=>
      have q1:_<_:=hx.short;obtain⟨y,hy⟩:=hex (l':=r) (by omega) (.lp k e) (jA8 (by omega));exact⟨y,qjK h5 h2 hx hy⟩
    match k,hk with
    |0,_=>exact hgen rfl rfl (by rw[<-hw];decide)
    |1,_=>exact hgen rfl rfl (by rw[<-hw];decide)
    |3,_=>exact hgen rfl rfl (by rw[<-hw];decide)
    |4,_=>exact hgen rfl rfl (by rw[<-hw];decide)
    |2,_=>
     cases h1:isW [110,111,116] l
     ·obtain⟨x,hx⟩:=hlow .cmp (by rw[<-hw];decide) rfl;exact⟨x,qGg h1 hx⟩
     ·obtain⟨t,l',rfl⟩:=qbv h1;obtain⟨x,hx⟩:=hex (l':=l') (by rw[<-hl];simp) (.bin 2) rfl;cases x with
      |bad r=>exact⟨_,qT9 h1 hx rfl⟩
      |ok e r=>exact⟨_,qT9 h1 hx rfl⟩
    |5,_=>
     obtain⟨x,hx⟩:=hlow .neg (by rw[<-hw];decide) rfl;exact⟨x,qzh hx⟩
   |lp k e=>
    have hk:k<=4:=jBd hm;by_cases h0:opAt k l=0
    ·exact⟨_,qpO h0⟩
    ·obtain⟨t,l',rfl⟩:=quD h0;obtain⟨x,hx⟩:=hex (l':=l') (by rw[<-hl];simp) (.bin (k+1)) (jA8 (by omega));by_cases h2:k=2
     ·subst h2;cases x with
      |bad r=>exact⟨_,qT7 h0 hx rfl⟩
      |ok b r=>exact⟨_,qT7 h0 hx rfl⟩
     ·cases x with
      |bad r=>exact⟨_,zeO (by simpa using h2) h0 hx rfl⟩
      |ok b r=>
       have q1:_<_:=hx.short;obtain⟨y,hy⟩:=hex (l':=r) (by rw[<-hl];simp only[jB3,jA0]at q1 ⊢;omega) (.lp k (exN (opAt k (t::l')) [e,b])) (jA8 hk);exact⟨y,zeO (by simpa using h2) h0 hx hy⟩
theorem qI9{m:Md}(hm:zn0 m=true)(l:List Tok):∃x,Ev m l x:=zkQ _ _ m l rfl rfl hm
end Go.Tk
namespace Go.Tk
open Go Go.Eng
set_option linter.unusedSimpArgs false
set_option linter.unusedVariables false
def qaX(op:Int):Nat:=if op=19 then 0 else if op=15 then 1 else if op=14 then 2 else if op=16 then 3 else if op=10\/op=11\/op=12\/op=13 then 4 else if op=5\/op=6 then 5 else if op=7\/op=8 then 6 else if op=9 then 7 else 8
def mkT(k:Int)(s:Bs):Tok:=⟨k,1,s⟩
def wT(s:Bs):Tok:=mkT (qcC s) s
def qeT(op:Int):Bs:=if op=5 then[43]else if op=6 then[45]else if op=7 then[42]else if op=8 then[47]else if op=10 then[61,61]else if op=11 then[33,61]else if op=12 then[60]else if op=13 then[60,61]else if op=14 then[97,110,100]else[111,114]
def qDz(op n:Int)(s:Bs):List Tok:=if op=1 then[mkT 2 (Lib.itoa n)]else if op=2 then[wT [36],mkT 2 (Lib.itoa n)]else if op=3 then[mkT 3 (qiu n.toNat)]else[mkT 1 s]
def qPQ(r:Nat)(op:Int)(l:List Tok):List Tok:=if qaX op<r then wT [40]::(l++[wT [41]])else l
def qez(op:Int):Nat:=if qaX op=4 then 5 else qaX op
def wrB:Ex->List Tok
 | .mk o n s []=>qDz o n s
 | .mk o n s [a]=>wT (if o=16 then[110,111,116]else[45])::qPQ (qaX o) a.op (wrB a)
 | .mk o n s [a,b]=>if o=17\/o=18 then wT (if o=17 then[109,105,110]else[109,97,120])::wT [40]::(wrB a++wT [44]::(wrB b++[wT [41]]))
   else qPQ (qez o) a.op (wrB a)++wT (qeT o)::qPQ (qaX o+1) b.op (wrB b)
 | .mk o n s (a::b::c::_)=>wT [105,102]::(wrB a++wT [116,104,101,110]::(wrB b++wT [101,108,115,101]::wrB c))
def par(r:Nat)(e:Ex):List Tok:=qPQ r e.op (wrB e)
theorem qgH{r:Nat}{e:Ex}(h:r<=qaX e.op):par r e=wrB e:=by unfold par qPQ;rw[jAm (by omega)]
theorem qyb{r:Nat}{e:Ex}(h:qaX e.op<r):par r e=wT [40]::(wrB e++[wT [41]]):=by unfold par qPQ;rw[jAr h]
theorem qg9(e:Ex):par 0 e=wrB e:=qgH (jBa _)
theorem qgx{e:Ex}(h:qaN e=true):qaR e.op=(e.args.length:Int)/\0<=e.num/\e.num<=qhE e.op/\(e.txt= []\/e.op=4):=by
 simp only[qaN,jA1,jB7,jA6,jAv,ge_iff_le]at h;exact h
theorem qy5{e:Ex}(h:qaR e.op=(e.args.length:Int))(h2:e.args.length=2):5<=e.op/\e.op<=18/\e.op≠9/\e.op≠16:=by
 rw[h2]at h;unfold qaR at h;split at h
 ·cases h
 ·split at h
  ·cases h
  ·split at h
   ·cases h
   ·split at h
    ·omega
    ·cases h
def lvR:Nat->Nat
 |0=>1|1=>2|2=>4|3=>5|_=>6
def stopL(r:Nat)(l:List Tok):Prop:=∀k,k<=4->r<=lvR k->opAt k l=0
theorem stopL.up{r r':Nat}{l:List Tok}(h:stopL r l)(hr:r<=r'):stopL r' l:=fun k hk hl=>h k hk (by omega)
theorem qbo(s:Bs)(t:Tok)(l:List Tok):isW s (t::l)=isW s [t]:=rfl
theorem qDO(k:Nat)(t:Tok)(l:List Tok):opAt k (t::l)=opAt k [t]:=rfl
theorem qls{r:Nat}{t:Tok}{l:List Tok}(h:stopL r [t]):stopL r (t::l):=fun k hk hl=>by rw[qDO];exact h k hk hl
def lvO(op:Int):Nat:=if op=15 then 0 else if op=14 then 1 else if op=5\/op=6 then 3 else if op=7\/op=8 then 4 else 2
theorem quE{op:Int}(h1:5<=op)(h2:op<=15)(h9:op≠9):op=5\/op=6\/op=7\/op=8\/op=10\/op=11\/op=12\/op=13\/op=14\/op=15:=by omega
theorem qIl{op:Int}(h1:5<=op)(h2:op<=15)(h9:op≠9)(l:List Tok):opAt (lvO op) (wT (qeT op)::l)=op/\lvR (lvO op)=qaX op/\lvO op<=4/\stopL (qaX op+1) (wT (qeT op)::l):=by
 rcases quE h1 h2 h9 with rfl|rfl|rfl|rfl|rfl|rfl|rfl|rfl|rfl|rfl
 all_goals
  refine⟨by rw[qDO];decide +kernel,by decide,by decide,qls fun k hk hl=>?_⟩
  match k,hk with
  |0,_=>first|(exfalso;revert hl;decide)|decide +kernel
  |1,_=>first|(exfalso;revert hl;decide)|decide +kernel
  |2,_=>first|(exfalso;revert hl;decide)|decide +kernel
  |3,_=>first|(exfalso;revert hl;decide)|decide +kernel
  |4,_=>first|(exfalso;revert hl;decide)|decide +kernel
theorem qWY(k:Nat)(t:Tok):opAt k [t]=match (lvS k).find? (fun x=>t.text==x.1&&t.kind==qcC x.1)with
 |some x=>x.2
 |none=>0:=rfl
theorem qPD{t:Tok}(h:∀k,k<=4-> ∀x∈lvS k,x.1≠t.text)(r:Nat):stopL r [t]:=by
 intro k hk _;rw[qWY];have:(lvS k).find? (fun x=>t.text==x.1&&t.kind==qcC x.1)=none:=by
  rw[List.find?_eq_none];intro x hx;have:=h k hk x hx;simp only[jA1,jB7,not_and];intro he;exact absurd he.symm this
 rw[this]
def zuR(s:Bs):Bool:=(lvS 0++lvS 1++lvS 2++lvS 3++lvS 4).all fun x=>x.1 != s
theorem qnI{t:Tok}(h:zuR t.text=true)(r:Nat)(l:List Tok):stopL r (t::l):=by
 refine qls (qPD (fun k hk x hx he=>?_) r);unfold zuR at h;rw[jAb]at h;have hm:x∈lvS 0++lvS 1++lvS 2++lvS 3++lvS 4:=by
  match k,hk with
  |0,_=>simp[hx]
  |1,_=>simp[hx]
  |2,_=>simp[hx]
  |3,_=>simp[hx]
  |4,_=>simp[hx]
 have:=h x hm;simp[he]at this
def mdR:Nat->Md
 |0=>.ex|1=>.bin 0|2=>.bin 1|3=>.bin 2|4=>.cmp|5=>.bin 3|6=>.bin 4|7=>.neg|_=>.prim
theorem qiX{s:Bs}{t:Tok}{l:List Tok}(h:isW s (t::l)=true):t.text=s/\t.kind=qcC s:=by
 simp only[isW,jA1,jB7]at h;exact h
theorem qsm(s:Bs):qcC s=4\/qcC s=5:=by unfold qcC;cases qbT s<;>simp
theorem qAp{l:List Tok}{s:Bs}(h:isW s l=true)(h1:s≠ [36])(h2:s≠ [109,105,110])(h3:s≠ [109,97,120])(h4:s≠ [40]):Ev .prim l (.bad l):=by
 obtain⟨t,l',rfl⟩:=qbv h;obtain⟨ht,hk⟩:=qiX h;have hne:∀s',s≠s'->isW s' (t::l')=false:=by
  intro s' hs;simp only[isW,ht];have:(s==s')=false:=by simpa using hs
  rw[this];rfl
 have hl:qgT (t::l')= .bad (t::l'):=by
  have e1:(t.kind==1)=false:=by rw[hk];rcases qsm s with h|h<;>rw[h]<;>rfl
  have e2:(t.kind==2)=false:=by rw[hk];rcases qsm s with h|h<;>rw[h]<;>rfl
  have e3:(t.kind==3)=false:=by rw[hk];rcases qsm s with h|h<;>rw[h]<;>rfl
  simp only[qgT,numAt,e1,e2,e3,jA9]
 have:=qGi (hne _ h1) (hne _ h2) (hne _ h3) (hne _ h4);rw[hl]at this;exact this
theorem qCF{l:List Tok}(h45:isW [45] l=false)(hp:Ev .prim l (.bad l)):Ev .neg l (.bad l)/\Ev (.bin 4) l (.bad l)/\Ev (.bin 3) l (.bad l)/\Ev .cmp l (.bad l):=by
 have a:=qGj h45 hp;have b:=qjK (k:=4) rfl rfl (qzh a) rfl;have c:=qjK (k:=3) rfl rfl b rfl;exact⟨a,b,c,qCM c rfl⟩
theorem qMy{s s':Bs}{l:List Tok}(h:isW s l=true)(hs:s≠s'):isW s' l=false:=by
 obtain⟨t,l',rfl⟩:=qbv h;obtain⟨ht,_⟩:=qiX h;simp only[isW,ht];have:(s==s')=false:=by simpa using hs
 rw[this];rfl
theorem qWG{l r:List Tok}{e:Ex}(h:Ev .prim l (.ok e r)):isW [45] l=false:=by
 cases hq:isW [45] l
 ·rfl
 ·have:=h.fn (qAp hq (by decide) (by decide) (by decide) (by decide));cases this
theorem qWR{l r:List Tok}{e:Ex}(h:Ev .cmp l (.ok e r)):isW [110,111,116] l=false:=by
 cases hq:isW [110,111,116] l
 ·rfl
 ·have:=h.fn (qCF (qMy hq (by decide)) (qAp hq (by decide) (by decide) (by decide) (by decide))).2.2.2;cases this
theorem q5e{l r:List Tok}{e:Ex}(h:Ev (.bin 0) l (.ok e r)):isW [105,102] l=false:=by
 cases hq:isW [105,102] l
 ·rfl
 ·have hc:=(qCF (qMy hq (by decide)) (qAp hq (by decide) (by decide) (by decide) (by decide))).2.2.2;have b2:=qGg (qMy hq (by decide)) hc;have b1:=qjK (k:=1) rfl rfl b2 rfl;have b0:=qjK (k:=0) rfl rfl b1 rfl;have:=h.fn b0;cases this
theorem zkK:∀(r:Nat),r<8-> ∀{l rest:List Tok} {e:Ex},stopL r rest->Ev (mdR (r+1)) l (.ok e rest)->Ev (mdR r) l (.ok e rest)
 |0,_,l,rest,e,hs,h=>qCN (q5e h) h
 |1,_,l,rest,e,hs,h=>qjK (k:=0) rfl rfl h (qpO (hs 0 (by decide) (by decide)))
 |2,_,l,rest,e,hs,h=>qjK (k:=1) rfl rfl h (qpO (hs 1 (by decide) (by decide)))
 |3,_,l,rest,e,hs,h=>qGg (qWR h) h
 |4,_,l,rest,e,hs,h=>qCM h (qpO (hs 2 (by decide) (by decide)))
 |5,_,l,rest,e,hs,h=>qjK (k:=3) rfl rfl h (qpO (hs 3 (by decide) (by decide)))
 |6,_,l,rest,e,hs,h=>qjK (k:=4) rfl rfl (qzh h) (qpO (hs 4 (by decide) (by decide)))
 |7,_,l,rest,e,hs,h=>qGj (qWG h) h
theorem zeC{l rest:List Tok}{e:Ex}:∀(d r:Nat),r+d<=8->stopL r rest->Ev (mdR (r+d)) l (.ok e rest)->Ev (mdR r) l (.ok e rest)
 |0,r,_,_,h=>h
 |d+1,r,hr,hs,h=>zeC d r (by omega) hs (zkK (r+d) (by omega) (hs.up (by omega)) h)
theorem qH8(op:Int):qaX op<=8:=by unfold qaX;(repeat' split)<;>omega
theorem qUa{e:Ex}(h0:∀rest,stopL 0 rest->Ev .ex (wrB e++rest) (.ok e rest))(rest:List Tok):Ev .prim (wT [40]::(wrB e++[wT [41]])++rest) (.ok e rest):=by
 have h:=h0 (wT [41]::rest) (qnI (by decide) _ _);refine qI8 (l:=wT [40]::(wrB e++[wT [41]])++rest) (by rw[jAk,qbo];decide) (by rw[jAk,qbo];decide) (by rw[jAk,qbo];decide) (by rw[jAk,qbo];decide) (x:=.ok e (wT [41]::rest)) ?_ (.inl ⟨by rw[qbo];decide,rfl⟩);have:(wT [40]::(wrB e++[wT [41]])++rest).tail=wrB e++wT [41]::rest:=by simp
 rw[this];exact h
theorem qzj{e:Ex}(hb:∀rest,stopL (qaX e.op) rest->Ev (mdR (qaX e.op)) (wrB e++rest) (.ok e rest)):∀r,r<=8-> ∀rest,stopL r rest->Ev (mdR r) (par r e++rest) (.ok e rest):=by
 intro r hr rest hs;have hlow:∀r,r<=qaX e.op-> ∀rest,stopL r rest->Ev (mdR r) (wrB e++rest) (.ok e rest):=by
  intro r hr rest hs;obtain⟨d,hd⟩:∃d,qaX e.op=r+d:=⟨qaX e.op-r,by omega⟩;refine zeC d r (by have:=qH8 e.op;omega) hs ?_;rw[<-hd];exact hb rest (hs.up hr)
 rcases jCb (qaX e.op) r with h|h
 ·rw[qyb h];have hp:=qUa (e:=e) (fun rest hs=>hlow 0 (jBa _) rest hs) rest;obtain⟨d,hd⟩:∃d,8=r+d:=⟨8-r,by omega⟩;refine zeC d r (by omega) hs ?_;rw[<-hd];exact hp
 ·rw[qgH h];exact hlow r h rest hs
theorem qqt{n:Int}(h:0<=n):Lib.itoa n=Lib.decDigits n.toNat:=by unfold Lib.itoa;rw[jAm (by omega)]
theorem qh6{n:Int}(h:0<=n)(h2:n<=9223372036854775807):qj9 (Lib.itoa n)=some n:=by
 rw[qqt h];obtain⟨i1,i2,_⟩:=qhS n.toNat n.toNat (jAj _);unfold qj9;rw[qjZ i1,i1,i2,jAe (by omega)];simp only[jBm,Bool.not_false,jAa,jA7];omega
def CpS(e:Ex):Prop:=∀k,k<=4->k≠2-> ∀rest y,stopL (lvR k+1) rest->Ev (.lp k e) rest y->Ev (.bin k) (par (lvR k) e++rest) y
def BkS(e:Ex):Prop:=∀rest,stopL (qaX e.op) rest->Ev (mdR (qaX e.op)) (wrB e++rest) (.ok e rest)
theorem qWy{k:Nat}(hk:k<=4)(h2:k≠2):∀{l rest:List Tok} {e:Ex},Ev (mdR (lvR k+1)) l (.ok e rest)->Ev (.bin (k+1)) l (.ok e rest):=by
 intro l rest e h
 match k,hk,h2 with
 |0,_,_=>exact h
 |1,_,_=>exact h
 |3,_,_=>exact h
 |4,_,_=>exact qzh h
theorem qLG{k:Nat}(hk:k<=4):lvR k+1<=8:=by
 match k,hk with
 |0,_=>decide
 |1,_=>decide
 |2,_=>decide
 |3,_=>decide
 |4,_=>decide
theorem zqe{k:Nat}(hk:k<=4)(h2:k≠2):mdR (lvR k)= .bin k:=by
 match k,hk,h2 with
 |0,_,_=>rfl
 |1,_,_=>rfl
 |3,_,_=>rfl
 |4,_,_=>rfl
theorem zp7{k n:Nat}(h:k≠n):(k==n)=false:=by simpa using h
theorem qc3{e:Ex}(h:e.args= []):wrB e=qDz e.op e.num e.txt:=by
 obtain⟨o,n,s,l⟩:=e;simp only[Ex.args]at h;subst h;rw[wrB];rfl
theorem qlO{e a:Ex}(h:e.args= [a]):wrB e=wT (if e.op=16 then[110,111,116]else[45])::par (qaX e.op) a:=by
 obtain⟨o,n,s,l⟩:=e;simp only[Ex.args]at h;subst h;rw[wrB];rfl
theorem qnX{e a b:Ex}(h:e.args= [a,b])(h7:e.op≠17)(h8:e.op≠18):wrB e=par (qez e.op) a++wT (qeT e.op)::par (qaX e.op+1) b:=by
 obtain⟨o,n,s,l⟩:=e;simp only[Ex.args]at h;subst h;simp only[Ex.op]at h7 h8;rw[wrB,jAm (by omega)];rfl
theorem qjo{e a b:Ex}(h:e.args= [a,b])(h7:e.op=17\/e.op=18):wrB e=wT (if e.op=17 then[109,105,110]else[109,97,120])::wT [40]::(wrB a++wT [44]::(wrB b++[wT [41]])):=by
 obtain⟨o,n,s,l⟩:=e;simp only[Ex.args]at h;subst h;simp only[Ex.op]at h7;rw[wrB,jAr h7];rfl
theorem qII{e a b c:Ex}{m:List Ex}(h:e.args=a::b::c::m):wrB e=wT [105,102]::(wrB a++wT [116,104,101,110]::(wrB b++wT [101,108,115,101]::wrB c)):=by
 obtain⟨o,n,s,l⟩:=e;simp only[Ex.args]at h;subst h;rw[wrB]
theorem qMX{e:Ex}(hb:BkS e)(hc:∀k,k<=4->k≠2->lvR k=qaX e.op-> ∀rest y,stopL (lvR k+1) rest->Ev (.lp k e) rest y->Ev (.bin k) (wrB e++rest) y):CpS e:=by
 intro k hk h2 rest y hs hl;have key:par (lvR k) e=par (lvR k+1) e->Ev (.bin k) (par (lvR k) e++rest) y:=by
  intro he;rw[he];refine qjK (zp7 (by omega)) (zp7 h2) (x:=.ok e rest) (qWy hk h2 (qzj hb _ (qLG hk) rest hs)) hl
 rcases Nat.lt_trichotomy (qaX e.op) (lvR k)with h|h|h
 ·exact key (by rw[qyb h,qyb (by omega)])
 ·rw[qgH (by omega)];exact hc k hk h2 h.symm rest y hs hl
 ·exact key (by rw[qgH (by omega),qgH (by omega)])
theorem qWB{op:Int}(h:op≠1)(h2:op≠2)(h3:op≠3):qhE op=0:=by unfold qhE;rw[jAm h,jAm h2,jAm h3]
theorem qzi{t:Tok}(hk:t.kind=1\/t.kind=2\/t.kind=3)(rest:List Tok):Ev .prim (t::rest) (qgT (t::rest)):=by
 have hne:∀s,isW s (t::rest)=false:=by
  intro s;simp only[isW];have:(t.kind==qcC s)=false:=by
   rw[jBj];rcases qsm s with h|h<;>rw[h]<;>omega
  rw[this,Bool.and_false]
 exact qGi (hne _) (hne _) (hne _) (hne _)
theorem zl8:∀e:Ex,e.allX qaN=true->BkS e/\CpS e:=by
 intro e
 induction e using Ex.ind with
 |h o n s l ih=>
  intro hf;rw[Ex.allX_eq,jA1,jAb]at hf;obtain⟨hfm,hfa⟩:=hf;obtain⟨hop,hn0,hn1,htx⟩:=qgx hfm;simp only[Ex.op,Ex.args,Ex.num,Ex.txt]at hop hn0 hn1 htx hfa;have iha:∀x∈l,BkS x/\CpS x:=fun x hx=>ih x hx (hfa x hx)
  have hpl:∀x∈l,∀r,r<=8-> ∀rest,stopL r rest->Ev (mdR r) (par r x++rest) (.ok x rest):=fun x hx=>qzj (iha x hx).1
  have hp0:∀x∈l,∀rest,stopL 0 rest->Ev .ex (wrB x++rest) (.ok x rest):=fun x hx rest hs=>by
   have:=hpl x hx 0 (by omega) rest hs;rw[qg9]at this;exact this
  match l,hop,hpl,hp0,iha with
  | [],hop,_,_,_=>
   have hb:BkS (.mk o n s []):=by
    intro rest hs;rw[qc3 rfl];simp only[Ex.op,Ex.num,Ex.txt];have hcase:o=1\/o=2\/o=3\/o=4:=by
     unfold qaR at hop;split at hop
     ·assumption
     ·split at hop
      ·cases hop
      ·split at hop
       ·cases hop
       ·split at hop<;>cases hop
    rcases hcase with rfl|rfl|rfl|rfl
    ·have ht:s= []:=htx.resolve_right (by decide);subst ht;have hnm:qj9 (Lib.itoa n)=some n:=qh6 hn0 hn1;have:=qzi (t:=mkT 2 (Lib.itoa n)) (.inr (.inl rfl)) rest;have hl:qgT (mkT 2 (Lib.itoa n)::rest)= .ok (.mk 1 n [] []) rest:=by
      simp only[qgT,numAt,mkT,hnm];rfl
     rw[hl]at this;exact this
    ·have ht:s= []:=htx.resolve_right (by decide);subst ht;have hm:n<=1000000000000:=hn1;have hnm:qj9 (Lib.itoa n)=some n:=qh6 hn0 (by omega);have:=qT6 (l:=wT [36]::mkT 2 (Lib.itoa n)::rest) (by rw[qbo];decide);have hl:numAt (wT [36]::mkT 2 (Lib.itoa n)::rest).tail=some n:=by
      simp only[jB3,numAt,mkT,hnm];rfl
     rw[hl]at this;exact this
    ·have ht:s= []:=htx.resolve_right (by decide);subst ht;have hm:n<=1000000:=hn1;have hrt:=qAs (n:=n.toNat) (by omega);rw[show((n.toNat:Nat):Int)=n by omega]at hrt;have:=qzi (t:=mkT 3 (qiu n.toNat)) (.inr (.inr rfl)) rest;have hl:qgT (mkT 3 (qiu n.toNat)::rest)= .ok (.mk 3 n [] []) rest:=by
      simp only[qgT,mkT,hrt];rfl
     rw[hl]at this;exact this
    ·have hn:n=0:=by
      have:n<=0:=hn1;omega
     subst hn;have:=qzi (t:=mkT 1 s) (.inl rfl) rest;exact this
   refine⟨hb,qMX hb fun k hk h2 he=>?_⟩;exfalso;have hr8:qaX o=8:=by
    have hcase:o=1\/o=2\/o=3\/o=4:=by
     unfold qaR at hop;split at hop
     ·assumption
     ·split at hop
      ·cases hop
      ·split at hop
       ·cases hop
       ·split at hop<;>cases hop
    rcases hcase with rfl|rfl|rfl|rfl<;>rfl
   have:=qLG hk;simp only[Ex.op]at he;omega
  | [a],hop,hpl,hp0,iha=>
   have hcase:o=9\/o=16:=by
    unfold qaR at hop;split at hop
    ·cases hop
    ·split at hop
     ·assumption
     ·split at hop
      ·cases hop
      ·split at hop<;>cases hop
   have hn:n=0:=by
    have:qhE o=0:=by rcases hcase with rfl|rfl<;>rfl
    omega
   have hs':s= []:=htx.resolve_right (by omega);subst hn;subst hs';have hb:BkS (.mk o 0 [] [a]):=by
    intro rest hs;rw[qlO rfl];simp only[Ex.op]at hs ⊢;rcases hcase with rfl|rfl
    ·have h:=hpl a (by simp) 7 (by omega) rest hs;exact qT8 (l:=wT [45]::par 7 a++rest) (by rw[jAk,qbo];decide) (x:=.ok a rest) h rfl
    ·have h:=hpl a (by simp) 3 (by omega) rest hs;exact qT9 (l:=wT [110,111,116]::par 3 a++rest) (by rw[jAk,qbo];decide) (x:=.ok a rest) h rfl
   refine⟨hb,qMX hb fun k hk h2 he=>?_⟩;exfalso;simp only[Ex.op]at he;rcases hcase with rfl|rfl
   ·match k,hk,h2 with
    |0,_,_=>cases he
    |1,_,_=>cases he
    |3,_,_=>cases he
    |4,_,_=>cases he
   ·match k,hk,h2 with
    |0,_,_=>cases he
    |1,_,_=>cases he
    |3,_,_=>cases he
    |4,_,_=>cases he
  | [a,b],hop,hpl,hp0,iha=>
   obtain⟨o1,o2,o9,o16⟩:=qy5 (e:=.mk o n s [a,b]) hop rfl;simp only[Ex.op]at o1 o2 o9 o16;have hn:n=0:=by
    have:=qWB (op:=o) (by omega) (by omega) (by omega);omega
   have hs':s= []:=htx.resolve_right (by omega);subst hn;subst hs';by_cases h1718:o=17\/o=18
   ·have hr:qaX o=8:=by rcases h1718 with rfl|rfl<;>rfl
    have hb:BkS (.mk o 0 [] [a,b]):=by
     intro rest hs;rw[qjo (e:=.mk o 0 [] [a,b]) rfl h1718];simp only[Ex.op]at hs ⊢;rw[hr]at hs ⊢;have ha:=hp0 a (by simp) (wT [44]::(wrB b++[wT [41]]++rest)) (qnI (by decide) _ _);have hbb:=hp0 b (by simp) (wT [41]::rest) (qnI (by decide) _ _);have hpair:qMC o (wT [40]::(wrB a++wT [44]::(wrB b++[wT [41]]++rest))) (.ok (exN o [a,b]) rest):=by
      refine .inl ⟨by rw[qbo];decide,_,ha,.inl ⟨by rw[qbo];decide,.ok b (wT [41]::rest),?_,.inl ⟨by rw[qbo];decide,rfl⟩⟩⟩;simp only[jB3,jAf,jAk,jAx];exact hbb
     have e1:∀w:Tok,w::wT [40]::(wrB a++wT [44]::(wrB b++[wT [41]]))++rest=w::wT [40]::(wrB a++wT [44]::(wrB b++[wT [41]]++rest)):=by intro w;simp
     rw[e1];rcases h1718 with rfl|rfl
     ·show Ev .prim (wT [109,105,110]::wT [40]::(wrB a++wT [44]::(wrB b++[wT [41]]++rest))) _;exact q9t (by rw[qbo];decide) (by rw[qbo];decide) hpair
     ·show Ev .prim (wT [109,97,120]::wT [40]::(wrB a++wT [44]::(wrB b++[wT [41]]++rest))) _;exact q9s (by rw[qbo];decide) (by rw[qbo];decide) (by rw[qbo];decide) hpair
    refine⟨hb,qMX hb fun k hk h2 he=>?_⟩;exfalso;have:=qLG hk;simp only[Ex.op]at he;omega
   ·have ho15:o<=15:=by omega
    have hsg:=qIl o1 ho15 o9;by_cases h4:qaX o=4
    ·
     have hlv:lvO o=2:=by
      have:=(hsg []).2.1;rcases quE o1 ho15 o9 with rfl|rfl|rfl|rfl|rfl|rfl|rfl|rfl|rfl|rfl<;>first|rfl|cases h4
     have hb:BkS (.mk o 0 [] [a,b]):=by
      intro rest hs;rw[qnX (e:=.mk o 0 [] [a,b]) rfl (fun h=>h1718 (.inl h)) (fun h=>h1718 (.inr h))];simp only[Ex.op]at hs ⊢;rw[h4]at hs ⊢;have hl:qez o=5:=by unfold qez;rw[jAr h4]
      rw[hl,jAf];have hst:stopL 5 (wT (qeT o)::par 5 b++rest):=by
       have:=(hsg (par 5 b++rest)).2.2.2;rw[h4]at this;exact this
      have ha:=hpl a (by simp) 5 (by omega) _ hst;have hbb:=hpl b (by simp) 5 (by omega) rest (hs.up (by omega));have hopat:opAt 2 (wT (qeT o)::par 5 b++rest)=o:=by
       have:=(hsg (par 5 b++rest)).1;rw[hlv]at this;exact this
      refine qCM ha (qT7 (by rw[hopat];omega) (x:=.ok b rest) hbb ?_);show _=_;rw[hopat];rfl
     refine⟨hb,qMX hb fun k hk h2 he=>?_⟩;exfalso;simp only[Ex.op]at he;rw[h4]at he
     match k,hk,h2 with
     |0,_,_=>cases he
     |1,_,_=>cases he
     |3,_,_=>cases he
     |4,_,_=>cases he
    ·have hlv2:lvO o≠2:=by
      intro h;have:=(hsg []).2.1;rw[h]at this;exact h4 this.symm
     have hk4:=(hsg []).2.2.1;have hlr:=(hsg []).2.1;have hleft:qez o=qaX o:=by unfold qez;rw[jAm h4]
     have hwr:wrB (.mk o 0 [] [a,b])=par (qaX o) a++wT (qeT o)::par (qaX o+1) b:=by
      rw[qnX (e:=.mk o 0 [] [a,b]) rfl (fun h=>h1718 (.inl h)) (fun h=>h1718 (.inr h))];simp only[Ex.op];rw[hleft]
     have hcont:∀rest y,stopL (qaX o+1) rest->Ev (.lp (lvO o) (.mk o 0 [] [a,b])) rest y->Ev (.bin (lvO o)) (wrB (.mk o 0 [] [a,b])++rest) y:=by
      intro rest y hs hl;rw[hwr,jAf,<-hlr];refine(iha a (by simp)).2 (lvO o) hk4 hlv2 _ _ (by rw[hlr];exact(hsg _).2.2.2) ?_;have hopat:=(hsg (par (qaX o+1) b++rest)).1;have hbb:=hpl b (by simp) (qaX o+1) (by rw[<-hlr];exact qLG hk4) rest hs;refine zeO (zp7 hlv2) (l:=wT (qeT o)::par (lvR (lvO o)+1) b++rest) (x:=.ok b rest) ?_ ?_ ?_
      ·rw[hlr,jAk,hopat];omega
      ·rw[hlr];refine qWy hk4 hlv2 ?_;rw[hlr];exact hbb
      ·show Ev _ _ _;rw[hlr,jAk,hopat];exact hl
     have hb:BkS (.mk o 0 [] [a,b]):=by
      intro rest hs;simp only[Ex.op]at hs ⊢;rw[<-hlr,zqe hk4 hlv2];refine hcont rest _ (hs.up (by omega)) (qpO (hs _ hk4 (by rw[hlr];exact jAj _)))
     refine⟨hb,qMX hb fun k hk h2 he rest y hs hl=>?_⟩;simp only[Ex.op]at he;have hkk:k=lvO o:=by
      rw[<-hlr]at he;revert he;generalize lvO o=q at hk4 hlv2;intro he
      match k,hk,h2,q,hk4,hlv2 with
      |0,_,_,0,_,_=>rfl
      |0,_,_,1,_,_=>cases he
      |0,_,_,3,_,_=>cases he
      |0,_,_,4,_,_=>cases he
      |1,_,_,0,_,_=>cases he
      |1,_,_,1,_,_=>rfl
      |1,_,_,3,_,_=>cases he
      |1,_,_,4,_,_=>cases he
      |3,_,_,0,_,_=>cases he
      |3,_,_,1,_,_=>cases he
      |3,_,_,3,_,_=>rfl
      |3,_,_,4,_,_=>cases he
      |4,_,_,0,_,_=>cases he
      |4,_,_,1,_,_=>cases he
      |4,_,_,3,_,_=>cases he
      |4,_,_,4,_,_=>rfl
     subst hkk;rw[hlr]at hs;exact hcont rest y hs hl
  | [a,b,c],hop,hpl,hp0,iha=>
   have h19:o=19:=by
    unfold qaR at hop;split at hop
    ·cases hop
    ·split at hop
     ·cases hop
     ·split at hop
      ·assumption
      ·split at hop<;>cases hop
   subst h19;have hn:n=0:=by
    have:n<=0:=hn1;omega
   have hs':s= []:=htx.resolve_right (by decide);subst hn;subst hs';have hb:BkS (.mk 19 0 [] [a,b,c]):=by
    intro rest hs;rw[qII rfl];have hs0:stopL 0 rest:=hs;have hc:=hp0 c (by simp) rest hs0;have hbb:=hp0 b (by simp) (wT [101,108,115,101]::(wrB c++rest)) (qnI (by decide) _ _);have ha:=hp0 a (by simp) (wT [116,104,101,110]::(wrB b++wT [101,108,115,101]::(wrB c++rest))) (qnI (by decide) _ _);have e1:wT [105,102]::(wrB a++wT [116,104,101,110]::(wrB b++wT [101,108,115,101]::wrB c))++rest=wT [105,102]::(wrB a++wT [116,104,101,110]::(wrB b++wT [101,108,115,101]::(wrB c++rest))):=by simp
    rw[e1];exact qGh (by rw[qbo];decide) ha (.inl ⟨by rw[qbo];decide,_,hbb,.inl ⟨by rw[qbo];decide,_,hc,rfl⟩⟩)
   refine⟨hb,qMX hb fun k hk h2 he=>?_⟩;exfalso;simp only[Ex.op]at he
   match k,hk,h2 with
   |0,_,_=>cases he
   |1,_,_=>cases he
   |3,_,_=>cases he
   |4,_,_=>cases he
  |a::b::c::d::m,hop,_,_,_=>
   exfalso;unfold qaR at hop;simp only[jA0]at hop;split at hop
   ·omega
   ·split at hop
    ·omega
    ·split at hop
     ·omega
     ·split at hop<;>omega
theorem zsi{e:Ex}(h:e.allX qaN=true){rest:List Tok}(hs:stopL 0 rest):Ev .ex (wrB e++rest) (.ok e rest):=by
 have:=qzj (zl8 e h).1 0 (by omega) rest hs;rw[qg9]at this;exact this
theorem qH5(r:Nat)(e:Ex):(wrB e).length<=(par r e).length/\(par r e).length<=(wrB e).length+2:=by
 unfold par qPQ;split
 ·simp only[jA0,jA2,jA4];omega
 ·omega
theorem qnc{r r':Nat}(h:r<=r')(e:Ex):(par r e).length<=(par r' e).length:=by
 unfold par qPQ;by_cases h1:qaX e.op<r
 ·rw[jAr h1,jAr (by omega)];exact jAj _
 ·rw[jAm h1];split
  ·simp only[jA0,jA2,jA4];omega
  ·exact jAj _
def loR:Md->Ex->Nat
 | .ex,e=>(wrB e).length
 | .cmp,e=>(par 4 e).length
 | .neg,e=>(par 7 e).length
 | .prim,e=>(par 8 e).length
 | .bin k,e=>(par (if k=2 then 3 else if k>=5 then 7 else lvR k) e).length
 | .lp k _,e=>(par (lvR k) e).length
def zlS:Md->Nat
 | .lp k e=>(par (if k=2 then 5 else lvR k) e).length
 |_=>0
theorem q5D{k:Nat}{l:List Tok}(h:opAt k l≠0):5<=opAt k l/\opAt k l<=15/\opAt k l≠9/\lvO (opAt k l)=k/\k<=4:=by
 unfold opAt at h ⊢;cases hf:(lvS k).find? (fun x=>isW x.1 l)with
 |none=>rw[hf]at h;exact absurd rfl h
 |some x=>
  have hm:=jB4 hf;clear h hf
  match k,hm with
  |0,hm=>simp only[lvS,jAt]at hm;subst hm;decide
  |1,hm=>simp only[lvS,jAt]at hm;subst hm;decide
  |2,hm=>simp only[lvS,jAc,jAp,jBp]at hm;rcases hm with rfl|rfl|rfl|rfl<;>decide
  |3,hm=>simp only[lvS,jAc,jAp,jBp]at hm;rcases hm with rfl|rfl<;>decide
  |4,hm=>simp only[lvS,jAc,jAp,jBp]at hm;rcases hm with rfl|rfl<;>decide
  |k+5,hm=>simp[lvS]at hm
theorem q5m{l:List Tok}{e:Ex}{r:List Tok}(h:qgT l= .ok e r):(par 8 e).length+r.length<=l.length:=by
 have key:∀(e:Ex),qaX e.op=8->(wrB e).length=1-> ∀(t:Tok) (l:List Tok),(par 8 e).length+l.length<=(t::l).length:=by
  intro e h1 h2 t l;rw[qgH (by omega)];simp;omega
 unfold qgT at h;cases l with
 |nil=>cases h
 |cons t l=>
  simp only at h;cases h1:(t.kind==1)
  ·rw[h1]at h;cases h3:(t.kind==3)
   ·rw[h3]at h;simp only[jA9]at h;split at h
    ·cases h;exact key _ rfl (by rw[qc3 rfl];rfl) _ _
    ·cases h
   ·rw[h3]at h;simp only[jAa,jA9]at h;cases h4:((qbm t.text).2==0)
    ·rw[h4]at h;cases h
    ·rw[h4]at h;cases h;exact key _ rfl (by rw[qc3 rfl];rfl) _ _
  ·rw[h1]at h;cases h;exact key _ rfl (by rw[qc3 rfl];rfl) _ _
theorem zeY:∀(n:Nat) (m:Md) (l:List Tok) (e:Ex) (r:List Tok),prs n m l=some (.ok e r)->loR m e+r.length<=zlS m+l.length:=by
 intro n
 induction n with
 |zero=>intro m l e r h;cases h
 |succ n ih=>
  intro m l e r h;cases m with
  |ex=>
   simp only[prs]at h;show(wrB e).length+r.length<=0+l.length;cases hi:isW [105,102] l
   ·rw[hi]at h;have q:(par 1 e).length+r.length<=0+l.length:=ih _ _ _ _ h;have:=(qH5 1 e).1;omega
   ·rw[hi]at h;obtain⟨t,l',rfl⟩:=qbv hi;simp only[jAa,jB3]at h;obtain⟨a,r1,h1,h⟩:=qdr h;obtain⟨t1,l1,rfl,_,h⟩:=qjm h;obtain⟨b,r2,h2,h⟩:=qdr h;obtain⟨t2,l2,rfl,_,h⟩:=qjm h;obtain⟨c,r3,h3,h⟩:=qdr h;cases h;have q1:(wrB a).length+(t1::l1).length<=0+l'.length:=ih _ _ _ _ h1;have q2:(wrB b).length+(t2::l2).length<=0+l1.length:=ih _ _ _ _ h2;have q3:(wrB c).length+r.length<=0+l2.length:=ih _ _ _ _ h3;rw[qII (e:=exN 19 [a,b,c]) rfl];simp only[jA0,jA2]at q1 q2 q3 ⊢;omega
  |bin k=>
   simp only[prs]at h;show(par (if k=2 then 3 else if k>=5 then 7 else lvR k) e).length+r.length<=0+l.length;cases h5:(k==5)
   ·have h5':k≠5:=by simpa using h5
    rw[h5]at h;cases h2:(k==2)
    ·have h2':k≠2:=by simpa using h2
     rw[h2]at h;simp only[jA9]at h;obtain⟨a,r1,h1,h⟩:=qdr h;rw[jAm h2'];have q1:(par (if k+1=2 then 3 else if k+1>=5 then 7 else lvR (k+1)) a).length+r1.length<=0+l.length:=ih _ _ _ _ h1;have q2:(par (lvR k) e).length+r.length<=(par (if k=2 then 5 else lvR k) a).length+r1.length:=ih _ _ _ _ h;rw[jAm h2']at q2;by_cases hk5:k>=5
     ·
      rw[jAr hk5];have hk6:lvR k=6:=by
       match k,hk5 with
       |k+5,_=>rfl
      rw[jAm (by omega),jAr (by omega)]at q1;have hlp:∃n,prs n (.lp k a) r1=some (.ok e r):=⟨n,h⟩;have h0:opAt k r1=0:=by
       match k,hk5 with
       |k+5,_=>rfl
      have:=Ev.fn ⟨n,h⟩ (qpO (e:=a) h0);cases this;exact q1
     ·rw[jAm hk5];have hm:(par (lvR k) a).length<=(par (if k+1=2 then 3 else if k+1>=5 then 7 else lvR (k+1)) a).length:=by
       refine qnc ?_ a
       match k,h2',hk5 with
       |0,_,_=>decide
       |1,_,_=>decide
       |3,_,_=>decide
       |4,_,_=>decide
       |k+5,_,hk=>exact absurd (by omega) hk
      omega
    ·have h2':k=2:=by simpa using h2
     subst h2';simp only[jAa,jA9]at h;rw[jAr rfl];cases hi:isW [110,111,116] l
     ·rw[hi]at h;have q:(par 4 e).length+r.length<=0+l.length:=ih _ _ _ _ h;have:=qnc (show 3<=4 by omega) e;omega
     ·rw[hi]at h;obtain⟨t,l',rfl⟩:=qbv hi;obtain⟨a,r1,h1,h⟩:=qdr h;cases h;have q1:(par (if 2=2 then 3 else if 2>=5 then 7 else lvR 2) a).length+r.length<=0+l'.length:=ih _ _ _ _ h1;rw[jAr rfl]at q1;rw[qgH (e:=exN 16 [a]) (show 3<=qaX 16 by decide),qlO (e:=exN 16 [a]) rfl];have:par (qaX (exN 16 [a]).op) a=par 3 a:=rfl;rw[this];simp only[jA0]at q1 ⊢;omega
   ·have h5':k=5:=by simpa using h5
    subst h5';exact ih _ _ _ _ h
  |cmp=>
   simp only[prs]at h;show(par 4 e).length+r.length<=0+l.length;obtain⟨a,r1,h1,h⟩:=qdr h;have q1:(par (if 3=2 then 3 else if 3>=5 then 7 else lvR 3) a).length+r1.length<=0+l.length:=ih _ _ _ _ h1;have q2:(par (lvR 2) e).length+r.length<=(par (if 2=2 then 5 else lvR 2) a).length+r1.length:=ih _ _ _ _ h;rw[jAm (by decide),jAm (by decide)]at q1;rw[jAr rfl]at q2;have e1:lvR 3=5:=rfl;have e2:lvR 2=4:=rfl;rw[e1]at q1;rw[e2]at q2;omega
  |lp k e0=>
   simp only[prs]at h;show(par (lvR k) e).length+r.length<=(par (if k=2 then 5 else lvR k) e0).length+l.length;cases h0:(opAt k l==0)
   ·have hne:opAt k l≠0:=by simpa using h0
    rw[h0]at h;obtain⟨o1,o2,o9,olv,hk4⟩:=q5D hne;have hsg:=(qIl o1 o2 o9 []).2.1;rw[olv]at hsg;generalize opAt k l=o at h o1 o2 o9 olv hsg;obtain⟨t,l',rfl⟩:=quD hne;simp only[jA9,jB3]at h;obtain⟨b,r1,h1,h⟩:=qdr h;have q1:(par (if k+1=2 then 3 else if k+1>=5 then 7 else lvR (k+1)) b).length+r1.length<=0+l'.length:=ih _ _ _ _ h1;have hwr:=qnX (e:=exN o [e0,b]) rfl (by show o≠17;omega) (by show o≠18;omega);have hwr':(wrB (exN o [e0,b])).length=(par (qez o) e0).length+1+(par (qaX o+1) b).length:=by
     rw[hwr];show(par (qez o) e0++wT (qeT o)::par (qaX o+1) b).length=_;simp only[jA2,jA0];omega
    cases h2:(k==2)
    ·have h2':k≠2:=by simpa using h2
     rw[h2]at h;simp only[jA9]at h;have q2:(par (lvR k) e).length+r.length<=(par (if k=2 then 5 else lvR k) (exN o [e0,b])).length+r1.length:=ih _ _ _ _ h;rw[jAm h2']at q2 ⊢;rw[qgH (e:=exN o [e0,b]) (by show lvR k<=qaX o;omega),hwr']at q2;have hl:qez o=lvR k:=by
      unfold qez;rw[hsg];split
      ·rename_i h4;exfalso;rw[<-hsg]at h4
       match k,hk4,h2' with
       |0,_,_=>cases h4
       |1,_,_=>cases h4
       |3,_,_=>cases h4
       |4,_,_=>cases h4
      ·rfl
     rw[hl]at q2;have hm:(par (qaX o+1) b).length<=(par (if k+1=2 then 3 else if k+1>=5 then 7 else lvR (k+1)) b).length:=by
      refine qnc ?_ b;rw[<-hsg]
      match k,hk4,h2' with
      |0,_,_=>decide
      |1,_,_=>decide
      |3,_,_=>decide
      |4,_,_=>decide
     simp only[jA0];omega
    ·have h2':k=2:=by simpa using h2
     rw[h2]at h;subst h2';simp only[jAa,jA7,Rs.ok.injEq]at h;obtain⟨rfl,rfl⟩:=h;rw[jAr rfl];have hr4:qaX o=4:=hsg.symm;rw[qgH (e:=exN o [e0,b]) (by show lvR 2<=qaX o;rw[hr4];decide),hwr'];have hl:qez o=5:=by unfold qez;rw[jAr hr4]
     rw[hl,hr4];have q1':(par (4+1) b).length+r1.length<=0+l'.length:=q1;simp only[jA0];omega
   ·rw[h0]at h;simp only[jAa,jA7,Rs.ok.injEq]at h;obtain⟨rfl,rfl⟩:=h;have:(par (lvR k) e0).length<=(par (if k=2 then 5 else lvR k) e0).length:=by
     split
     ·rename_i h2;subst h2;exact qnc (by decide) e0
     ·exact jAj _
    omega
  |neg=>
   simp only[prs]at h;show(par 7 e).length+r.length<=0+l.length;cases hi:isW [45] l
   ·rw[hi]at h;have q:(par 8 e).length+r.length<=0+l.length:=ih _ _ _ _ h;have:=qnc (show 7<=8 by omega) e;omega
   ·rw[hi]at h;obtain⟨t,l',rfl⟩:=qbv hi;obtain⟨a,r1,h1,h⟩:=qdr h;cases h;have q1:(par 7 a).length+r.length<=0+l'.length:=ih _ _ _ _ h1;rw[qgH (e:=exN 9 [a]) (show 7<=qaX 9 by decide),qlO (e:=exN 9 [a]) rfl];have:par (qaX (exN 9 [a]).op) a=par 7 a:=rfl;rw[this];simp only[jA0]at q1 ⊢;omega
  |prim=>
   simp only[prs]at h;show(par 8 e).length+r.length<=0+l.length;have hpair:∀{op:Int} {t:Tok} {l':List Tok},op=17\/op=18->qeD op (prs n .ex) l'=some (.ok e r)->(par 8 e).length+r.length<=0+(t::l').length:=by
    intro op t l' hop h;obtain⟨t1,l1,a,t2,l2,b,t3,rfl,h1,h2,rfl⟩:=qY6 h;have q1:(wrB a).length+(t2::l2).length<=0+l1.length:=ih _ _ _ _ h1;have q2:(wrB b).length+(t3::r).length<=0+l2.length:=ih _ _ _ _ h2;rw[qgH (e:=exN op [a,b]) (by show 8<=qaX op;rcases hop with rfl|rfl<;>decide),qjo (e:=exN op [a,b]) rfl hop];simp only[jA0,jA2,jA4]at q1 q2 ⊢;omega
   cases h1:isW [36] l
   ·rw[h1]at h;simp only[jA9]at h;cases h2:isW [109,105,110] l
    ·rw[h2]at h;simp only[jA9]at h;cases h3:isW [109,97,120] l
     ·rw[h3]at h;simp only[jA9]at h;cases h4:isW [40] l
      ·rw[h4]at h;simp only[jA9,jA7]at h;have:=q5m h;omega
      ·rw[h4]at h;obtain⟨t,l',rfl⟩:=qbv h4;simp only[jAa,jB3]at h;obtain⟨a,r1,h1,h⟩:=qdr h;obtain⟨t1,l1,rfl,_,h⟩:=qjm h;cases h;have q1:(wrB e).length+(t1::r).length<=0+l'.length:=ih _ _ _ _ h1;have:=(qH5 8 e).2;simp only[jA0]at q1 ⊢;omega
     ·rw[h3]at h;obtain⟨t,l',rfl⟩:=qbv h3;exact hpair (.inr rfl) h
    ·rw[h2]at h;obtain⟨t,l',rfl⟩:=qbv h2;exact hpair (.inl rfl) h
   ·rw[h1]at h;obtain⟨t,l',rfl⟩:=qbv h1;simp only[jAa,jB3]at h;split at h
    ·rename_i v hv;cases h;cases l' with
     |nil=>cases hv
     |cons t' l'=>
      rw[qgH (e:=.mk 2 v [] []) (show 8<=qaX 2 by decide),qc3 (e:=.mk 2 v [] []) rfl];simp only[jB3,jA0];show 2+_<=_;omega
    ·cases h
theorem zk2{l:List Tok}{e:Ex}{r:List Tok}(h:Ev .ex l (.ok e r)):(wrB e).length+r.length<=l.length:=by
 obtain⟨n,hn⟩:=h;have:=zeY n _ _ _ _ hn;have e1:loR .ex e=(wrB e).length:=rfl;have e2:zlS .ex=0:=rfl;omega
end Go.Tk
namespace Go.Tk
open Go Go.Eng
set_option linter.unusedSimpArgs false
set_option linter.unusedVariables false
def sgn(t:Tok):Int:=if t.text= [40]then 1 else if t.text= [41]then -1 else 0
def qwD:List Tok->Int
 | []=>0
 |t::l=>sgn t+qwD l
theorem qlt:∀(a b:List Tok),qwD (a++b)=qwD a+qwD b
 | [],b=>by simp[qwD]
 |t::a,b=>by simp only[jAk,qwD,qlt a b];omega
def Bal(l:List Tok):Prop:=qwD l=0/\ ∀n,0<=qwD (l.take n)
theorem Bal.nil:Bal []:=⟨rfl,fun n=>by simp[qwD]⟩
theorem Bal.app{a b:List Tok}(ha:Bal a)(hb:Bal b):Bal (a++b):=by
 refine⟨by rw[qlt,ha.1,hb.1];rfl,fun n=>?_⟩;rw[List.take_append,qlt];have h1:=ha.2 n;have h2:=hb.2 (n-a.length);omega
theorem Bal.one{t:Tok}(h:sgn t=0):Bal [t]:=by
 refine⟨by simp[qwD,h],fun n=>?_⟩;cases n with
 |zero=>simp[qwD]
 |succ n=>simp[qwD,h]
theorem Bal.cons{t:Tok}{l:List Tok}(h:sgn t=0)(hl:Bal l):Bal (t::l):=Bal.app (Bal.one h) hl
theorem Bal.wrap{a b:Tok}{l:List Tok}(h1:sgn a=1)(h2:sgn b= -1)(hl:Bal l):Bal (a::(l++[b])):=by
 refine⟨?_,fun n=>?_⟩
 ·simp only[qwD,qlt,hl.1,h1,h2];omega
 ·cases n with
  |zero=>simp[qwD]
  |succ n=>
   rw[jCo,List.take_append];simp only[qwD,qlt,h1];have:=hl.2 n;rcases Nat.eq_zero_or_pos (n-l.length)with hz|hz
   ·rw[hz];simp only[List.take_zero,qwD];omega
   ·have h3:List.take (n-l.length) [b]= [b]:=jBb (by simp;omega);have h4:l.take n=l:=jBb (by omega);rw[h3,h4,hl.1];simp only[qwD,h2];omega
theorem Bal.par{r:Nat}{e:Ex}(h:Bal (wrB e)):Bal (par r e):=by
 unfold Tk.par qPQ;split
 ·exact h.wrap (by decide) (by decide)
 ·exact h
end Go.Tk
namespace Go.Eng
theorem brF{α:Type}{b:Bool}{x y:DT α}(h:b=false):(DT.br b x y).ev=y.ev:=by rw[h];rfl
theorem brT{α:Type}{b:Bool}{x y:DT α}(h:b=true):(DT.br b x y).ev=x.ev:=by rw[h];rfl
theorem biS{α β:Type}[Inhabited β]{o:Option β}{v:β}{k:β->DT α}{e:DT α}(h:o=some v):(DT.bi o k e).ev=(k v).ev:=by rw[h];rfl
theorem biN{α β:Type}[Inhabited β]{o:Option β}{k:β->DT α}{e:DT α}(h:o=none):(DT.bi o k e).ev=e.ev:=by rw[h];rfl
theorem biL{α β γ:Type}[Inhabited β]{o:Option (β⊕γ)}{v:β}{k:β->DT α}{e:DT α}(h:o=some (.inl v)):(DT.bi (pl o) k e).ev=(k v).ev:=by rw[h];rfl
theorem qp9{α β γ:Type}[Inhabited β]{o:Option (β⊕γ)}{v:γ}{k:β->DT α}{e:DT α}(h:o=some (.inr v)):(DT.bi (pl o) k e).ev=e.ev:=by rw[h];rfl
theorem biR{α β γ:Type}[Inhabited γ]{o:Option (β⊕γ)}{v:γ}{k:γ->DT α}{e:DT α}(h:o=some (.inr v)):(DT.bi (pr o) k e).ev=(k v).ev:=by rw[h];rfl
end Go.Eng
namespace Go.Tk
open Go Go.Eng
theorem qAk(r:Nat)(op:Int)(l:List Tok):(qPQ r op l).length<=l.length+2:=by
 unfold qPQ;split
 ·simp
 ·omega
theorem qjy:∀e:Ex,(wrB e).length<=5*e.nodes
 | .mk o n s []=>by
  simp only[wrB,qDz,Ex.nodes,Ex.nodesL]
  (repeat' split)<;>simp
 | .mk o n s [a]=>by
  have h1:=qjy a;have h2:=qAk (qaX o) a.op (wrB a);simp only[wrB,jA0,Ex.nodes,Ex.nodesL];omega
 | .mk o n s [a,b]=>by
  have h1:=qjy a;have h2:=qAk (qez o) a.op (wrB a);have h3:=qjy b;have h4:=qAk (qaX o+1) b.op (wrB b);simp only[wrB,Ex.nodes,Ex.nodesL];split
  ·simp only[jA0,jA2,jA4];omega
  ·simp only[jA0,jA2];omega
 | .mk o n s (a::b::c::m)=>by
  have h1:=qjy a;have h2:=qjy b;have h3:=qjy c;simp only[wrB,Ex.nodes,Ex.nodesL,jA0,jA2];omega
theorem qeu(r:Nat)(e:Ex):(par r e).length<=5*e.nodes+2:=by
 have h1:=qjy e;have h2:=qH5 r e;omega
end Go.Tk
namespace Go.Tk
open Go Go.Eng
set_option maxRecDepth 20000
structure Va where
 (name:Bs)
 (ty:Int)
def Va.av(x:Va):AV:=.agg [.str x.name,.int .i64 x.ty]
abbrev EV(l:List Va):List AV:=l.map Va.av
abbrev ksV:List CS:=[CS.str,CS.int IntKind.i64]
theorem hkV(h:Va):qqc ksV (qai h.av)=true:=rfl
theorem okV{l:List Va}{n:Nat}(h:n<l.length):qaH ksV (EV l) (n:Int)=true:=qgF hkV h
theorem qv0{l:List Va}{n:Nat}(h:n<l.length):strOf (cellAt (EV l) (n:Int) 0)=l[n].name:=by rw[qaF h];rfl
theorem qv1{l:List Va}{n:Nat}(h:n<l.length):intOf (cellAt (EV l) (n:Int) 1)=l[n].ty:=by rw[qaF h];rfl
abbrev EI(l:List Int):List AV:=l.map (.int .i64)
abbrev ksI:List CS:=[CS.int IntKind.i64]
theorem okI{l:List Int}{n:Nat}(h:n<l.length):qaH ksI (EI l) (n:Int)=true:=qgF (fun _=>rfl) h
def qOL(t:Int):Bool:=decide (t>=1)&&decide (t<=5)
def ariL:List ((Int×Int×Int)×Int):=[((5,1,1),1),((5,2,2),2),((5,3,3),3),((5,4,1),4),((6,1,1),1),((6,2,2),2),((6,3,3),3),((6,4,1),4),((6,4,4),1),((7,1,1),1),((7,1,2),2),((7,1,3),3),((7,2,1),2),((7,2,3),2),((7,3,1),3),((7,3,2),2),((8,1,1),1),((8,2,1),2),((8,2,2),1),((8,3,1),3)]
def qTm(op a b:Int):Option Int:=(ariL.find? fun p=>p.1==(op,a,b)).map (·.2)
def zwB(op a:Int):Int×Bool:=
 if op=16 then bif a==5 then(5,true)else(0,false)
 else if op=9 then bif a==1||(a==2||a==3)then(a,true)else(0,false)
 else(0,false)
def zwR(op a b:Int):Int×Bool:=
 if op=10\/op=11 then bif a==b then(5,true)else(0,false)
 else if op=12\/op=13 then bif a==b&&a != 5 then(5,true)else(0,false)
 else if op=14\/op=15 then bif a==b&&a==5 then(5,true)else(0,false)
 else if op=17\/op=18 then bif a==b&&a != 5 then(a,true)else(0,false)
 else match qTm op a b with
  |some t=>(t,true)
  |none=>(0,false)
def zmM(op a b c:Int):Int×Bool:=bif op==19&&(a==5&&b==c)then(b,true)else(0,false)
def zuV(op:Int)(l:List Int):Int×Bool:=bif !l.all qOL then(0,false)else match l with
 | [a]=>zwB op a
 | [a,b]=>zwR op a b
 | [a,b,c]=>zmM op a b c
 |_=>(0,false)
def zsM(vs:List Va)(s:Bs):Int×Int:=match vs.find? fun v=>v.name==s with
 |none=>(0,4)
 |some v=>bif qOL v.ty then(v.ty,0)else(0,3)
def zuJ(op:Int)(p:List Int×Int):Int×Int:=bif p.2 != 0 then(0,p.2)else bif (zuV op p.1).2 then((zuV op p.1).1,0)else(0,3)
mutual
def Ex.ty(vs:List Va):Ex->Int×Int
 | .mk o _ s l=>if o=1 then(1,0)else if o=2 then(2,0)else if o=3 then(3,0)else if o=4 then zsM vs s else zuJ o (Ex.tys vs l)
def Ex.tys(vs:List Va):List Ex->List Int×Int
 | []=>([],0)
 |e::l=>bif (Ex.ty vs e).2 != 0 then([],(Ex.ty vs e).2)else bif (Ex.tys vs l).2 != 0 then([],(Ex.tys vs l).2)else((Ex.ty vs e).1::(Ex.tys vs l).1,0)
end
end Go.Tk
namespace Go.Proofs.H16
open Go Go.Eng Go.Tk
set_option maxRecDepth 20000
theorem qbs(op:Int):qa5 op=some (qaX op:Int):=by
 rw[qOf,qrU];by_cases h1:op=19
 ·subst h1;rfl
 by_cases h2:op=15
 ·subst h2;rfl
 by_cases h3:op=14
 ·subst h3;rfl
 by_cases h4:op=16
 ·subst h4;rfl
 by_cases h5:op=10
 ·subst h5;rfl
 by_cases h6:op=11
 ·subst h6;rfl
 by_cases h7:op=12
 ·subst h7;rfl
 by_cases h8:op=13
 ·subst h8;rfl
 by_cases h9:op=5
 ·subst h9;rfl
 by_cases h10:op=6
 ·subst h10;rfl
 by_cases h11:op=7
 ·subst h11;rfl
 by_cases h12:op=8
 ·subst h12;rfl
 by_cases h13:op=9
 ·subst h13;rfl
 have e:∀k:Int,op≠k->(op==k)=false:=fun k h=>by simpa using h
 simp only[ev_br,ev_at,e _ h1,e _ h2,e _ h3,e _ h4,e _ h5,e _ h6,e _ h7,e _ h8,e _ h9,e _ h10,e _ h11,e _ h12,e _ h13,jA9,qaX,h1,h2,h3,h4,h5,h6,h7,h8,h9,h10,h11,h12,h13,jBg,or_self];rfl
def lvV(k:Nat):List Va:=(lvS k).map fun x=>⟨x.1,x.2⟩
def lvA(l:List Va):AV:=.view 2 (EV l)
abbrev lvs:List (List Va):=[lvV 0,lvV 1,lvV 2,lvV 3,lvV 4]
theorem zuT{l:List (List Va)}{n:Nat}(h:n<l.length):qaH [CS.slice 2] (l.map lvA) (n:Int)=true:=qgF (fun _=>rfl) h
theorem qLv{l:List (List Va)}{n:Nat}(h:n<l.length):qaq (cellAt (l.map lvA) (n:Int) 0)=EV l[n]:=by rw[qaF h];rfl
theorem qd9:ql6=some (lvs.map lvA):=by
 rw[qNJ,qro];rfl
theorem qhV(k:Int)(s:Bs):qmW k s=some (ET [mkT k s]):=by
 rw[qU8,qB8];rfl
theorem qeb(k:Int)(s:Bs){acc:List Tok}(h:acc.length<=1000000):qjV k s (ET acc)=some (ET (acc++[mkT k s])):=by
 rw[qUV,qBU,jA5];refine(brT (qcY (by simp only[lim,Prod.i,Prod.h,Prod.f];omega))).trans ?_;rw[show ET (acc++[mkT k s])=ET acc++ET [mkT k s]from jCi ..];rfl
theorem qec(s:Bs):qjW s=some (ET [wT s]):=by
 rw[qUW,qBV];refine(biS (qdi s)).trans ?_;unfold wT qcC;cases qbT s
 ·exact(biS (qhV 4 s)).trans rfl
 ·exact(biS (qhV 5 s)).trans rfl
theorem qaJ(s:Bs){acc:List Tok}(h:acc.length<=1000000):qbi s (ET acc)=some (ET (acc++[wT s])):=by
 rw[qUS,qBR];refine(biS (qdi s)).trans ?_;unfold wT qcC;cases qbT s
 ·exact(biS (qeb 4 s h)).trans rfl
 ·exact(biS (qeb 5 s h)).trans rfl
theorem qui(op m n:Int)(A:List AV){vs:List Va}(hl:vs.length<=big):qgB (op,A,m,n,EV vs,(vs.length:Int),0)=some (qjD (fun v=>v.ty==op) (fun _=>0) 1 vs,op,A,m,n,EV vs,(vs.length:Int),((vs.findIdx (fun v=>v.ty==op):Nat):Int)):=by
 rw[qxK];refine qaP (hd:=fun i=>(op,A,m,n,EV vs,(vs.length:Int),(i:Int))) _ _ 1 (fun i hn=>?_) ?_
 ·simp only[qnB,qpo,qaV hn,okV hn,qv1 hn,ev_br,ev_at,jAa,qar hn hl];cases(vs[i].ty==op)<;>rfl
 ·simp[qnB,qpo]
theorem qHA(op:Int){ls:List (List Va)}(hl:ls.length<=big)(hb:∀l∈ls,l.length<=big):quh (op,ls.map lvA,(ls.length:Int),0)=some (qjD (fun l=>l.any (fun v=>v.ty==op)) (fun _=>0) 1 ls,op,ls.map lvA,(ls.length:Int),((ls.findIdx (fun l=>l.any (fun v=>v.ty==op)):Nat):Int)):=by
 rw[qxJ];refine qaP (hd:=fun i=>(op,ls.map lvA,(ls.length:Int),(i:Int))) _ _ 1 (fun i hn=>?_) ?_
 ·have h1:=qui op (ls.length:Int) (i:Int) (ls.map lvA) (hb ls[i] (jAi hn));rw[qaY]at h1;simp only[qnA,qpn,qaV hn,zuT hn,qLv hn,jA5,ev_br,jAa,h1];cases ls[i].any (fun v=>v.ty==op)
  ·refine(biN (by rfl)).trans ((biS (by rfl)).trans ?_);simp only[ev_at,qar hn hl];rfl
  ·exact(biS (by rfl)).trans rfl
 ·simp[qnA,qpn]
theorem qhJ{op:Int}{k i n:Nat}{v:Va}(hk:k<5)(h0:qjD (fun l:List Va=>l.any (fun v=>v.ty==op)) (fun _=>0) 1 lvs=0)(h1:lvs.findIdx (fun l=>l.any (fun v=>v.ty==op))=k)(h2:lvs[k]? = some (lvV k))
  (h3:(lvV k).length=n) (h4:qjD (fun v:Va=>v.ty==op) (fun _=>0) 1 (lvV k)=0) (h5:(lvV k).findIdx (fun v=>v.ty==op)=i) (h6:(lvV k)[i]? = some v):qch op=some v.name:=by
 have hb:∀l∈lvs,l.length<=big:=by
  intro l hl;have:l.length<=4:=by
   simp only[jAc,jAp,jBp]at hl;rcases hl with rfl|rfl|rfl|rfl|rfl<;>decide
  simp only[big];omega
 have hout:=qHA op (ls:=lvs) (by simp[big]) hb;rw[h0,h1]at hout;have hkl:k<lvs.length:=hk;have hin:=qui op (lvs.length:Int) (k:Int) (lvs.map lvA) (vs:=lvV k) (hb _ (jAl h2));rw[h4,h5]at hin;have hv:qaq (cellAt (lvs.map lvA) (k:Int) 0)=EV (lvV k):=by
  rw[qLv hkl];have:lvs[k]=lvV k:=by rw[jAh hkl]at h2;exact jC2 h2
  rw[this]
 rw[qOg,qrV];refine(biS qd9).trans ?_;rw[jA5,hout];refine(biS (v:=(op,lvs.map lvA,(lvs.length:Int),(k:Int))) (by rfl)).trans ?_;show some (strOf (cellAt (gv (pj 0 (qgB (op,lvs.map lvA,(lvs.length:Int),(k:Int),qaq (cellAt (lvs.map lvA) (k:Int) 0),((qaq (cellAt (lvs.map lvA) (k:Int) 0)).length:Int),0)))).snd.snd.snd.snd.fst
  (gv (pj 0 (qgB (op,lvs.map lvA,(lvs.length:Int),(k:Int),qaq (cellAt (lvs.map lvA) (k:Int) 0),((qaq (cellAt (lvs.map lvA) (k:Int) 0)).length:Int),0)))).snd.snd.snd.snd.snd.snd 0))=_
 rw[hv,jA5,hin];have hil:i<(lvV k).length:=(jAg.1 h6).1;have hx:=qv0 hil;rw[jAh hil]at h6;rw[jC2 h6]at hx;exact congrArg some hx
theorem qtt{op:Int}(h1:5<=op)(h2:op<=15)(h9:op≠9):qch op=some (qeT op):=by
 rcases quE h1 h2 h9 with rfl|rfl|rfl|rfl|rfl|rfl|rfl|rfl|rfl|rfl
 ·exact qhJ (k:=3) (i:=0) (n:=2) (v:=⟨qeT 5,5⟩) (by decide) (by rfl) (by rfl) (by rfl) (by rfl) (by rfl) (by rfl) (by rfl)
 ·exact qhJ (k:=3) (i:=1) (n:=2) (v:=⟨qeT 6,6⟩) (by decide) (by rfl) (by rfl) (by rfl) (by rfl) (by rfl) (by rfl) (by rfl)
 ·exact qhJ (k:=4) (i:=0) (n:=2) (v:=⟨qeT 7,7⟩) (by decide) (by rfl) (by rfl) (by rfl) (by rfl) (by rfl) (by rfl) (by rfl)
 ·exact qhJ (k:=4) (i:=1) (n:=2) (v:=⟨qeT 8,8⟩) (by decide) (by rfl) (by rfl) (by rfl) (by rfl) (by rfl) (by rfl) (by rfl)
 ·exact qhJ (k:=2) (i:=0) (n:=4) (v:=⟨qeT 10,10⟩) (by decide) (by rfl) (by rfl) (by rfl) (by rfl) (by rfl) (by rfl) (by rfl)
 ·exact qhJ (k:=2) (i:=1) (n:=4) (v:=⟨qeT 11,11⟩) (by decide) (by rfl) (by rfl) (by rfl) (by rfl) (by rfl) (by rfl) (by rfl)
 ·exact qhJ (k:=2) (i:=2) (n:=4) (v:=⟨qeT 12,12⟩) (by decide) (by rfl) (by rfl) (by rfl) (by rfl) (by rfl) (by rfl) (by rfl)
 ·exact qhJ (k:=2) (i:=3) (n:=4) (v:=⟨qeT 13,13⟩) (by decide) (by rfl) (by rfl) (by rfl) (by rfl) (by rfl) (by rfl) (by rfl)
 ·exact qhJ (k:=1) (i:=0) (n:=1) (v:=⟨qeT 14,14⟩) (by decide) (by rfl) (by rfl) (by rfl) (by rfl) (by rfl) (by rfl) (by rfl)
 ·exact qhJ (k:=0) (i:=0) (n:=1) (v:=⟨qeT 15,15⟩) (by decide) (by rfl) (by rfl) (by rfl) (by rfl) (by rfl) (by rfl) (by rfl)
theorem qp0(e:Ex):1<=e.nodes:=by cases e;simp only[Ex.nodes];omega
theorem qZg:∀e:Ex,e.allX qaN=true-> ∀n,3*e.dep<=n-> ∀acc:List Tok,acc.length+7*e.nodes<=1000000->(qaM n).2.1 e.op e.num e.txt (EX e.args) (ET acc)=some (ET (acc++wrB e)):=by
 intro e
 induction e using Ex.ind with
 |h o n s l ih=>
  intro hf m hm acc hacc;have hdep:(Ex.mk o n s l).dep=Ex.depL l+1:=by simp[Ex.dep]
  have hnod:(Ex.mk o n s l).nodes=1+Ex.nodesL l:=by simp only[Ex.nodes];try omega
  rw[hnod]at hacc;obtain⟨k,rfl⟩:∃k,m=k+3:=⟨m-3,by omega⟩;rw[Ex.allX_eq,jA1,jAb]at hf;obtain⟨hop,hn0,hn1,htx⟩:=qgx hf.1;simp only[Ex.op,Ex.args,Ex.num,Ex.txt]at hop hn0 hn1 htx;have hO:∀x∈l,∀(j r:Nat) (acc:List Tok),k<=j->acc.length+7*x.nodes+4<=1000000->(qaM (j+1)).1 x.op x.num x.txt (EX x.args) (r:Int) (ET acc)=some (ET (acc++par r x)):=by
   intro x hx j r acc hj hb;have h2:=Ex.depL_mem hx;have hE:∀acc:List Tok,acc.length+7*x.nodes<=1000000->(qaM j).2.1 x.op x.num x.txt (EX x.args) (ET acc)=some (ET (acc++wrB x)):=fun acc hb=>ih x hx (hf.2 x hx) j (by omega) acc hb
   show(qpG (qaM j).1 (qaM j).2.1 (qaM j).2.2 x.op x.num x.txt (EX x.args) (r:Int) (ET acc)).ev=_;unfold qpG;refine(biS (qbs x.op)).trans ?_;by_cases hr:r<=qaX x.op
   ·have hd:decide (((qaX x.op:Nat):Int)>=(r:Int))=true:=jA8 (by omega);refine(brT hd).trans ?_;refine(biS (hE acc (by omega))).trans ?_;rw[qgH hr];rfl
   ·have hd:decide (((qaX x.op:Nat):Int)>=(r:Int))=false:=jAe (by omega);refine(brF hd).trans ?_;have hw:=qjy x;refine(biS (qaJ [40] (by omega))).trans ?_;refine(biS (hE _ (by simp only[jA2,jA0,jA4];omega))).trans ?_;refine(biS (qaJ [41] (by simp only[jA2,jA0,jA4];omega))).trans ?_;rw[qyb (by omega)];simp
  have hA:∀(i:Nat) (hi:i<l.length) (j r:Nat) (acc:List Tok),k<=j->acc.length+7*l[i].nodes+4<=1000000 ->
    (qaM (j+1)).1 (intOf (cellAt (EX l) (i:Int) 0)) (intOf (cellAt (EX l) (i:Int) 1)) (strOf (cellAt (EX l) (i:Int) 2)) (qaq (cellAt (EX l) (i:Int) 3)) (r:Int) (ET acc)=some (ET (acc++par r l[i])):=by
   intro i hi j r acc hj hb;rw[qx0 hi,qx1 hi,qx2 hi,qx3 hi];exact hO l[i] (jAi hi) j r acc hj hb
  show(qBQ (qaM (k+2)).1 (qaM (k+2)).2.1 (qaM (k+2)).2.2 o n s (EX l) (ET acc)).ev=_;unfold qBQ;have h64:(decide (-9223372036854775808<=n)&&decide (n<=9223372036854775807))=true:=by
   have:n<=9223372036854775807:=by
    unfold qhE at hn1
    (repeat' split at hn1)<;>omega
   rw[jA8 (by omega),jA8 this];rfl
  match l,hop,hA,hacc with
  | [],hop,hA,hacc=>
   have h4:o=1\/o=2\/o=3\/o=4:=by
    simp only[jA4,qaR]at hop
    (repeat' split at hop)<;>omega
   have hn3:o=3->n<=1000000:=by
    rintro rfl;simpa[qhE]using hn1
   simp only[Ex.nodesL]at hacc;rcases h4 with rfl|rfl|rfl|rfl
   ·refine(brT rfl).trans ((brT h64).trans ((biS (qeb 2 _ (by omega))).trans ?_));rw[qc3 rfl];rfl
   ·refine(brF rfl).trans ((brT rfl).trans ((biS (qaJ _ (by omega))).trans ((brT h64).trans ((biS (qeb 2 _ (by simp;omega))).trans ?_))));rw[qc3 rfl];simp[qDz,Ex.op,Ex.num]
   ·refine(brF rfl).trans ((brF rfl).trans ((brT rfl).trans ((biS (ql0 n)).trans ((biS (qeb 3 _ (by omega))).trans ?_))));have hp:(q4j n).1=qiu n.toNat:=by
     have h3:=hn3 rfl;have e:(decide (n<0)||decide (n>1000000))=false:=by rw[jAe (by omega),jAe (by omega)];rfl
     unfold q4j;rw[e];rfl
    rw[qc3 rfl,hp];rfl
   ·refine(brF rfl).trans ((brF rfl).trans ((brF rfl).trans ((brT rfl).trans ((biS (qeb 1 _ (by omega))).trans ?_))));rw[qc3 rfl];rfl
  | [a],hop,hA,hacc=>
   have h4:o=9\/o=16:=by
    simp only[jA0,jA4,qaR]at hop
    (repeat' split at hop)<;>omega
   simp only[Ex.nodesL]at hacc;have w:=qjy a;have ok0:qaH ksX (EX [a]) 0=true:=okX (l:=[a]) (n:=0) (by simp);rcases h4 with rfl|rfl
   ·refine(brF rfl).trans ((brF rfl).trans ((brF rfl).trans ((brF rfl).trans ((brT rfl).trans ((biS (qaJ _ (by omega))).trans ((brT ok0).trans ((biS (qbs 9)).trans ((biS (hA 0 (by simp) (k+1) 7 _ (by omega) ?_)).trans ?_))))))))
    ·simp;omega
    ·rw[qlO rfl];simp[Ex.op];rfl
   ·refine(brF rfl).trans ((brF rfl).trans ((brF rfl).trans ((brF rfl).trans ((brF rfl).trans ((brT rfl).trans ((biS (qaJ _ (by omega))).trans ((brT ok0).trans ((biS (qbs 16)).trans ((biS (hA 0 (by simp) (k+1) 3 _ (by omega) ?_)).trans ?_)))))))))
    ·simp;omega
    ·rw[qlO rfl];simp[Ex.op];rfl
  | [a,b],hop,hA,hacc=>
   obtain⟨g1,g2,g3,g4⟩:=qy5 (e:=.mk o n s [a,b]) hop rfl;simp only[Ex.op]at g1 g2 g3 g4;simp only[Ex.nodesL]at hacc;have pa:=qeu 0 a;have na:=qp0 a;have nb:=qp0 b;have pl:=qeu (qez o) a;have pb:=qeu 0 b;have ok0:qaH ksX (EX [a,b]) 0=true:=okX (l:=[a,b]) (n:=0) (by simp);have ok1:qaH ksX (EX [a,b]) 1=true:=okX (l:=[a,b]) (n:=1) (by simp);have hA0:∀(j r:Nat) (acc:List Tok),k<=j->acc.length+7*a.nodes+4<=1000000->(qaM (j+1)).1 (intOf (cellAt (EX [a,b]) 0 0)) (intOf (cellAt (EX [a,b]) 0 1)) (strOf (cellAt (EX [a,b]) 0 2)) (qaq (cellAt (EX [a,b]) 0 3)) (r:Int) (ET acc)=some (ET (acc++par r a)):=
    fun j r acc h1 h2=>hA 0 (by simp) j r acc h1 h2
   have hA1:∀(j r:Nat) (acc:List Tok),k<=j->acc.length+7*b.nodes+4<=1000000->(qaM (j+1)).1 (intOf (cellAt (EX [a,b]) 1 0)) (intOf (cellAt (EX [a,b]) 1 1)) (strOf (cellAt (EX [a,b]) 1 2)) (qaq (cellAt (EX [a,b]) 1 3)) (r:Int) (ET acc)=some (ET (acc++par r b)):=
    fun j r acc h1 h2=>hA 1 (by simp) j r acc h1 h2
   have ne:∀k:Int,o≠k->(o==k)=false:=fun k h=>by simpa using h
   by_cases h7:o=17
   ·subst h7;refine(brF rfl).trans ((brF rfl).trans ((brF rfl).trans ((brF rfl).trans ((brF rfl).trans ((brF rfl).trans ((brT rfl).trans ((brT rfl).trans ?_)))))));refine(biS (v:=ET (acc++wrB (.mk 17 n s [a,b]))) ?_).trans rfl;show(qkD (qaM (k+1)).1 (qaM (k+1)).2.1 (qaM (k+1)).2.2 17 n s (EX [a,b]) (ET acc)).ev=_;unfold qkD;refine(brF rfl).trans ((brF rfl).trans ((biS (qaJ _ (by omega))).trans ((biS (qaJ _ (by simp only[jA2,jA0,jA4];omega))).trans ((brT ok0).trans ((biS (hA0 k 0 _ (jAj _) (by simp only[jA2,jA0,jA4];omega))).trans ((biS (qaJ _ (by simp only[jA2,jA0,jA4];omega))).trans ((brT ok1).trans ((biS (hA1 k 0 _ (jAj _) (by simp only[jA2,jA0,jA4];omega))).trans ((biS (qaJ _ (by simp only[jA2,jA0,jA4];omega))).trans ((brF rfl).trans ?_))))))))));rw[qjo (e:=.mk 17 n s [a,b]) rfl (.inl rfl)];simp[qg9,Ex.op]
   by_cases h8:o=18
   ·subst h8;refine(brF rfl).trans ((brF rfl).trans ((brF rfl).trans ((brF rfl).trans ((brF rfl).trans ((brF rfl).trans ((brF rfl).trans ((brT rfl).trans ((brT rfl).trans ?_))))))));refine(biS (v:=ET (acc++wrB (.mk 18 n s [a,b]))) ?_).trans rfl;show(qkD (qaM (k+1)).1 (qaM (k+1)).2.1 (qaM (k+1)).2.2 18 n s (EX [a,b]) (ET acc)).ev=_;unfold qkD;refine(brT rfl).trans ((biS (qaJ _ (by omega))).trans ((biS (qaJ _ (by simp only[jA2,jA0,jA4];omega))).trans ((brT ok0).trans ((biS (hA0 k 0 _ (jAj _) (by simp only[jA2,jA0,jA4];omega))).trans ((biS (qaJ _ (by simp only[jA2,jA0,jA4];omega))).trans ((brT ok1).trans ((biS (hA1 k 0 _ (jAj _) (by simp only[jA2,jA0,jA4];omega))).trans ((biS (qaJ _ (by simp only[jA2,jA0,jA4];omega))).trans ((brF rfl).trans ?_)))))))));rw[qjo (e:=.mk 18 n s [a,b]) rfl (.inr rfl)];simp[qg9,Ex.op]
   have hr8:=qH8 o;refine(brF (ne 1 (by omega))).trans ((brF (ne 2 (by omega))).trans ((brF (ne 3 (by omega))).trans ((brF (ne 4 (by omega))).trans ((brF (ne 9 g3)).trans ((brF (ne 16 g4)).trans ((brF (ne 17 h7)).trans ((brF (ne 18 h8)).trans ((brF (ne 19 (by omega))).trans ?_))))))));refine(biS (qbs o)).trans ((biS (qbs 10)).trans ?_);have hw:∀m:Nat,m<=8->IntKind.i64.wrap ((m:Int)+1)=((m+1:Nat):Int):=fun m hm=>by rw[wrap64 (by omega) (by omega)];omega
   have tl:∀acc':List Tok,acc'.length<=acc.length+5*a.nodes+2->acc'=acc++par (qez o) a->(DT.bi (qch o) (fun y3=>DT.bi (qbi y3 (ET acc')) (fun y4=>DT.br (qaH [CS.int IntKind.i64,CS.int IntKind.i64,CS.str,CS.slice 4] (EX [a,b]) 1)
     (.bi (qa5 o) (fun y5=>.bi ((qaM (k+2)).1 (intOf (cellAt (EX [a,b]) 1 0)) (intOf (cellAt (EX [a,b]) 1 1)) (strOf (cellAt (EX [a,b]) 1 2)) (qaq (cellAt (EX [a,b]) 1 3)) (IntKind.i64.wrap (y5+1)) y4) (fun y6=>.at (y6)) (.no)) (.no)) (.no)) .no) .no:DT qIL).ev=some (ET (acc++wrB (.mk o n s [a,b]))):=by
    intro acc' hl he;refine(biS (qtt g1 (by omega) g3)).trans ((biS (qaJ _ (by omega))).trans ((brT ok1).trans ((biS (qbs o)).trans ?_)));rw[hw _ hr8];refine(biS (hA1 (k+1) (qaX o+1) _ (by omega) (by simp only[jA2,jA0,jA4];omega))).trans ?_;rw[qnX (e:=.mk o n s [a,b]) rfl h7 h8,he];simp[Ex.op]
   by_cases h4:qaX o=4
   ·have hc:(((qaX o:Nat):Int)==((qaX 10:Nat):Int))=true:=by rw[h4];rfl
    refine(brT hc).trans ((brT ok0).trans ?_);rw[hw _ hr8];have hl:qez o=qaX o+1:=by unfold qez;rw[jAr h4,h4]
    refine(biS (hA0 (k+1) (qaX o+1) _ (by omega) (by omega))).trans ?_;rw[<-hl];exact tl _ (by simp only[jA2,jA0,jA4];omega) rfl
   ·have hc:(((qaX o:Nat):Int)==((qaX 10:Nat):Int))=false:=by
     have:qaX 10=4:=rfl;rw[this];simp;omega
    refine(brF hc).trans ((brT ok0).trans ?_);have hl:qez o=qaX o:=by unfold qez;rw[jAm h4]
    refine(biS (hA0 (k+1) (qaX o) _ (by omega) (by omega))).trans ?_;rw[<-hl];exact tl _ (by simp only[jA2,jA0,jA4];omega) rfl
  |a::b::c::d,hop,hA,hacc=>
   have h19:o=19/\d= []:=by
    simp only[jA0,qaR]at hop
    (repeat' split at hop)<;>first|omega|(refine⟨by assumption,jAy.1 (by omega)⟩)
   obtain⟨rfl,rfl⟩:=h19;simp only[Ex.nodesL]at hacc;have pa:=qeu 0 a;have na:=qp0 a;have nb:=qp0 b;have pb:=qeu 0 b;have ok0:qaH ksX (EX [a,b,c]) 0=true:=okX (l:=[a,b,c]) (n:=0) (by simp);have ok1:qaH ksX (EX [a,b,c]) 1=true:=okX (l:=[a,b,c]) (n:=1) (by simp);have ok2:qaH ksX (EX [a,b,c]) 2=true:=okX (l:=[a,b,c]) (n:=2) (by simp);have hA0:∀(j r:Nat) (acc:List Tok),k<=j->acc.length+7*a.nodes+4<=1000000->(qaM (j+1)).1 (intOf (cellAt (EX [a,b,c]) 0 0)) (intOf (cellAt (EX [a,b,c]) 0 1)) (strOf (cellAt (EX [a,b,c]) 0 2)) (qaq (cellAt (EX [a,b,c]) 0 3)) (r:Int) (ET acc)=some (ET (acc++par r a)):=
    fun j r acc h1 h2=>hA 0 (by simp) j r acc h1 h2
   have hA1:∀(j r:Nat) (acc:List Tok),k<=j->acc.length+7*b.nodes+4<=1000000->(qaM (j+1)).1 (intOf (cellAt (EX [a,b,c]) 1 0)) (intOf (cellAt (EX [a,b,c]) 1 1)) (strOf (cellAt (EX [a,b,c]) 1 2)) (qaq (cellAt (EX [a,b,c]) 1 3)) (r:Int) (ET acc)=some (ET (acc++par r b)):=
    fun j r acc h1 h2=>hA 1 (by simp) j r acc h1 h2
   have hA2:∀(j r:Nat) (acc:List Tok),k<=j->acc.length+7*c.nodes+4<=1000000->(qaM (j+1)).1 (intOf (cellAt (EX [a,b,c]) 2 0)) (intOf (cellAt (EX [a,b,c]) 2 1)) (strOf (cellAt (EX [a,b,c]) 2 2)) (qaq (cellAt (EX [a,b,c]) 2 3)) (r:Int) (ET acc)=some (ET (acc++par r c)):=
    fun j r acc h1 h2=>hA 2 (by simp) j r acc h1 h2
   refine(brF rfl).trans ((brF rfl).trans ((brF rfl).trans ((brF rfl).trans ((brF rfl).trans ((brF rfl).trans ((brF rfl).trans ((brF rfl).trans ((brT rfl).trans ?_))))))));refine(biS (v:=ET (acc++wrB (.mk 19 n s [a,b,c]))) ?_).trans rfl;show(qkD (qaM (k+1)).1 (qaM (k+1)).2.1 (qaM (k+1)).2.2 19 n s (EX [a,b,c]) (ET acc)).ev=_;unfold qkD;refine(brF rfl).trans ((brT rfl).trans ((biS (qaJ _ (by omega))).trans ((brT ok0).trans ((biS (hA0 k 0 _ (jAj _) (by simp only[jA2,jA0,jA4];omega))).trans ((biS (qaJ _ (by simp only[jA2,jA0,jA4];omega))).trans ((brT ok1).trans ((biS (hA1 k 0 _ (jAj _) (by simp only[jA2,jA0,jA4];omega))).trans ((biS (qaJ _ (by simp only[jA2,jA0,jA4];omega))).trans ((brT rfl).trans ((brT ok2).trans ((biS (hA2 k 0 _ (jAj _) (by simp only[jA2,jA0,jA4];omega))).trans ?_)))))))))));rw[qII (e:=.mk 19 n s [a,b,c]) rfl];simp[qg9]
theorem zfz{x:Ex}(hf:x.allX qaN=true){j r:Nat}(hj:3*x.dep<=j){acc:List Tok}(hb:acc.length+7*x.nodes+4<=1000000):(qaM (j+1)).1 x.op x.num x.txt (EX x.args) (r:Int) (ET acc)=some (ET (acc++par r x)):=by
 have hE:∀acc:List Tok,acc.length+7*x.nodes<=1000000->(qaM j).2.1 x.op x.num x.txt (EX x.args) (ET acc)=some (ET (acc++wrB x)):=fun acc hb=>qZg x hf j hj acc hb
 show(qpG (qaM j).1 (qaM j).2.1 (qaM j).2.2 x.op x.num x.txt (EX x.args) (r:Int) (ET acc)).ev=_;unfold qpG;refine(biS (qbs x.op)).trans ?_;by_cases hr:r<=qaX x.op
 ·have hd:decide (((qaX x.op:Nat):Int)>=(r:Int))=true:=jA8 (by omega);refine(brT hd).trans ?_;refine(biS (hE acc (by omega))).trans ?_;rw[qgH hr];rfl
 ·have hd:decide (((qaX x.op:Nat):Int)>=(r:Int))=false:=jAe (by omega);refine(brF hd).trans ?_;have hw:=qjy x;refine(biS (qaJ [40] (by omega))).trans ?_;refine(biS (hE _ (by simp only[jA2,jA0,jA4];omega))).trans ?_;refine(biS (qaJ [41] (by simp only[jA2,jA0,jA4];omega))).trans ?_;rw[qyb (by omega)];simp
theorem qOB{x:Ex}(hf:x.allX qaN=true)(r:Nat){acc:List Tok}(hb:acc.length+7*x.nodes+4<=1000000):qb5 x.op x.num x.txt (EX x.args) (r:Int) (ET acc)=some (ET (acc++par r x)):=by
 refine qdQ (n:=3*x.dep+1) fun m hm=>?_
 obtain⟨j,rfl⟩:∃j,m=j+1:=⟨m-1,by omega⟩;exact zfz hf (by omega) hb
theorem qOD{x:Ex}(hf:x.allX qaN=true){acc:List Tok}(hb:acc.length+7*x.nodes<=1000000):qJm x.op x.num x.txt (EX x.args) (ET acc)=some (ET (acc++wrB x)):=
 qdQ (n:=3*x.dep) fun m hm=>qZg x hf m hm acc hb
theorem q5S:∀e:Ex,e.allX qaN=true-> ∀n,2*e.dep<=n->7*e.nodes<=1000000->(qb3 n).1 e.op e.num e.txt (EX e.args)=some (ET (wrB e)):=by
 intro e
 induction e using Ex.ind with
 |h o n s l ih=>
  intro hf m hm hacc;have hdep:(Ex.mk o n s l).dep=Ex.depL l+1:=by simp[Ex.dep]
  have hnod:(Ex.mk o n s l).nodes=1+Ex.nodesL l:=by simp only[Ex.nodes];try omega
  rw[hnod]at hacc;obtain⟨k,rfl⟩:∃k,m=k+2:=⟨m-2,by omega⟩;rw[Ex.allX_eq,jA1,jAb]at hf;obtain⟨hop,hn0,hn1,htx⟩:=qgx hf.1;simp only[Ex.op,Ex.args,Ex.num,Ex.txt]at hop hn0 hn1 htx;have hO:∀x∈l,∀(r:Nat),7*x.nodes+4<=1000000->(qb3 (k+1)).2 x.op x.num x.txt (EX x.args) (r:Int)=some (ET (par r x)):=by
   intro x hx r hb;have h2:=Ex.depL_mem hx;have hE:(qb3 k).1 x.op x.num x.txt (EX x.args)=some (ET (wrB x)):=ih x hx (hf.2 x hx) k (by omega) (by omega);show(qBA (qb3 k).1 (qb3 k).2 x.op x.num x.txt (EX x.args) (r:Int)).ev=_;unfold qBA;refine(biS (qbs x.op)).trans ?_;by_cases hr:r<=qaX x.op
   ·have hd:decide (((qaX x.op:Nat):Int)>=(r:Int))=true:=jA8 (by omega);refine(brT hd).trans ?_;refine(biS hE).trans ?_;rw[qgH hr];rfl
   ·have hd:decide (((qaX x.op:Nat):Int)>=(r:Int))=false:=jAe (by omega);refine(brF hd).trans ?_;have hw:=qjy x;refine(biS (qec [40])).trans ?_;refine(biS (qOD (hf.2 x hx) (by simp only[jA2,jA0,jA4];omega))).trans ?_;refine(biS (qaJ [41] (by simp only[jA2,jA0,jA4];omega))).trans ?_;rw[qyb (by omega)];simp
  have hP:∀(i:Nat) (hi:i<l.length) (r:Nat) (acc:List Tok),acc.length+7*l[i].nodes+4<=1000000 ->
    qb5 (intOf (cellAt (EX l) (i:Int) 0)) (intOf (cellAt (EX l) (i:Int) 1)) (strOf (cellAt (EX l) (i:Int) 2)) (qaq (cellAt (EX l) (i:Int) 3)) (r:Int) (ET acc)=some (ET (acc++par r l[i])):=by
   intro i hi r acc hb;rw[qx0 hi,qx1 hi,qx2 hi,qx3 hi];exact qOB (hf.2 _ (jAi hi)) r hb
  have hQ:∀(i:Nat) (hi:i<l.length) (r:Nat),7*l[i].nodes+4<=1000000 ->
    (qb3 (k+1)).2 (intOf (cellAt (EX l) (i:Int) 0)) (intOf (cellAt (EX l) (i:Int) 1)) (strOf (cellAt (EX l) (i:Int) 2)) (qaq (cellAt (EX l) (i:Int) 3)) (r:Int)=some (ET (par r l[i])):=by
   intro i hi r hb;rw[qx0 hi,qx1 hi,qx2 hi,qx3 hi];exact hO l[i] (jAi hi) r hb
  show(qBT (qb3 (k+1)).1 (qb3 (k+1)).2 o n s (EX l)).ev=_;unfold qBT;have h64:(decide (-9223372036854775808<=n)&&decide (n<=9223372036854775807))=true:=by
   have:n<=9223372036854775807:=by
    unfold qhE at hn1
    (repeat' split at hn1)<;>omega
   rw[jA8 (by omega),jA8 this];rfl
  match l,hop,hP,hQ,hacc with
  | [],hop,hP,hQ,hacc=>
   have h4:o=1\/o=2\/o=3\/o=4:=by
    simp only[jA4,qaR]at hop
    (repeat' split at hop)<;>omega
   have hn3:o=3->n<=1000000:=by
    rintro rfl;simpa[qhE]using hn1
   rcases h4 with rfl|rfl|rfl|rfl
   ·refine(brT rfl).trans ((brT h64).trans ((biS (qhV 2 _)).trans ?_));rw[qc3 rfl];rfl
   ·refine(brF rfl).trans ((brT rfl).trans ((biS (qec _)).trans ((brT h64).trans ((biS (qeb 2 _ (by simp))).trans ?_))));rw[qc3 rfl];simp[qDz,Ex.op,Ex.num]
   ·refine(brF rfl).trans ((brF rfl).trans ((brT rfl).trans ((biS (ql0 n)).trans ((biS (qhV 3 _)).trans ?_))));have hp:(q4j n).1=qiu n.toNat:=by
     have h3:=hn3 rfl;have e:(decide (n<0)||decide (n>1000000))=false:=by rw[jAe (by omega),jAe (by omega)];rfl
     unfold q4j;rw[e];rfl
    rw[qc3 rfl,hp];rfl
   ·refine(brF rfl).trans ((brF rfl).trans ((brF rfl).trans ((brT rfl).trans ((biS (qhV 1 _)).trans ?_))));rw[qc3 rfl];rfl
  | [a],hop,hP,hQ,hacc=>
   have h4:o=9\/o=16:=by
    simp only[jA0,jA4,qaR]at hop
    (repeat' split at hop)<;>omega
   simp only[Ex.nodesL]at hacc;have ok0:qaH ksX (EX [a]) 0=true:=okX (l:=[a]) (n:=0) (by simp);rcases h4 with rfl|rfl
   ·refine(brF rfl).trans ((brF rfl).trans ((brF rfl).trans ((brF rfl).trans ((brT rfl).trans ((biS (qec _)).trans ((brT ok0).trans ((biS (qbs 9)).trans ((biS (hP 0 (by simp) 7 _ ?_)).trans ?_))))))))
    ·simp;omega
    ·rw[qlO rfl];simp[Ex.op];rfl
   ·refine(brF rfl).trans ((brF rfl).trans ((brF rfl).trans ((brF rfl).trans ((brF rfl).trans ((brT rfl).trans ((biS (qec _)).trans ((brT ok0).trans ((biS (qbs 16)).trans ((biS (hP 0 (by simp) 3 _ ?_)).trans ?_)))))))))
    ·simp;omega
    ·rw[qlO rfl];simp[Ex.op];rfl
  | [a,b],hop,hP,hQ,hacc=>
   obtain⟨g1,g2,g3,g4⟩:=qy5 (e:=.mk o n s [a,b]) hop rfl;simp only[Ex.op]at g1 g2 g3 g4;simp only[Ex.nodesL]at hacc;have pa:=qeu 0 a;have na:=qp0 a;have nb:=qp0 b;have pl:=qeu (qez o) a;have pb:=qeu 0 b;have ok0:qaH ksX (EX [a,b]) 0=true:=okX (l:=[a,b]) (n:=0) (by simp);have ok1:qaH ksX (EX [a,b]) 1=true:=okX (l:=[a,b]) (n:=1) (by simp);have hA0:∀(r:Nat) (acc:List Tok),acc.length+7*a.nodes+4<=1000000->qb5 (intOf (cellAt (EX [a,b]) 0 0)) (intOf (cellAt (EX [a,b]) 0 1)) (strOf (cellAt (EX [a,b]) 0 2)) (qaq (cellAt (EX [a,b]) 0 3)) (r:Int) (ET acc)=some (ET (acc++par r a)):=
    fun r acc h2=>hP 0 (by simp) r acc h2
   have hA1:∀(r:Nat) (acc:List Tok),acc.length+7*b.nodes+4<=1000000->qb5 (intOf (cellAt (EX [a,b]) 1 0)) (intOf (cellAt (EX [a,b]) 1 1)) (strOf (cellAt (EX [a,b]) 1 2)) (qaq (cellAt (EX [a,b]) 1 3)) (r:Int) (ET acc)=some (ET (acc++par r b)):=
    fun r acc h2=>hP 1 (by simp) r acc h2
   have hQ0:∀(r:Nat),7*a.nodes+4<=1000000->(qb3 (k+1)).2 (intOf (cellAt (EX [a,b]) 0 0)) (intOf (cellAt (EX [a,b]) 0 1)) (strOf (cellAt (EX [a,b]) 0 2)) (qaq (cellAt (EX [a,b]) 0 3)) (r:Int)=some (ET (par r a)):=
    fun r h2=>hQ 0 (by simp) r h2
   have ne:∀k:Int,o≠k->(o==k)=false:=fun k h=>by simpa using h
   by_cases h7:o=17
   ·subst h7;refine(brF rfl).trans ((brF rfl).trans ((brF rfl).trans ((brF rfl).trans ((brF rfl).trans ((brF rfl).trans ((brT rfl).trans ((brT rfl).trans ?_)))))));refine(biS (v:=ET (wrB (.mk 17 n s [a,b]))) ?_).trans rfl;rw[qtG];unfold qpH;refine(brF rfl).trans ((brF rfl).trans ((biS (qec _)).trans ((biS (qaJ _ (by simp))).trans ((brT ok0).trans ((biS (hA0 0 _ (by simp only[jA2,jA0,jA4];omega))).trans ((biS (qaJ _ (by simp only[jA2,jA0,jA4];omega))).trans ((brT ok1).trans ((biS (hA1 0 _ (by simp only[jA2,jA0,jA4];omega))).trans ((biS (qaJ _ (by simp only[jA2,jA0,jA4];omega))).trans ((brF rfl).trans ?_))))))))));rw[qjo (e:=.mk 17 n s [a,b]) rfl (.inl rfl)];simp[qg9,Ex.op]
   by_cases h8:o=18
   ·subst h8;refine(brF rfl).trans ((brF rfl).trans ((brF rfl).trans ((brF rfl).trans ((brF rfl).trans ((brF rfl).trans ((brF rfl).trans ((brT rfl).trans ((brT rfl).trans ?_))))))));refine(biS (v:=ET (wrB (.mk 18 n s [a,b]))) ?_).trans rfl;rw[qtG];unfold qpH;refine(brT rfl).trans ((biS (qec _)).trans ((biS (qaJ _ (by simp))).trans ((brT ok0).trans ((biS (hA0 0 _ (by simp only[jA2,jA0,jA4];omega))).trans ((biS (qaJ _ (by simp only[jA2,jA0,jA4];omega))).trans ((brT ok1).trans ((biS (hA1 0 _ (by simp only[jA2,jA0,jA4];omega))).trans ((biS (qaJ _ (by simp only[jA2,jA0,jA4];omega))).trans ((brF rfl).trans ?_)))))))));rw[qjo (e:=.mk 18 n s [a,b]) rfl (.inr rfl)];simp[qg9,Ex.op]
   have hr8:=qH8 o;refine(brF (ne 1 (by omega))).trans ((brF (ne 2 (by omega))).trans ((brF (ne 3 (by omega))).trans ((brF (ne 4 (by omega))).trans ((brF (ne 9 g3)).trans ((brF (ne 16 g4)).trans ((brF (ne 17 h7)).trans ((brF (ne 18 h8)).trans ((brF (ne 19 (by omega))).trans ?_))))))));refine(biS (qbs o)).trans ((biS (qbs 10)).trans ?_);have hw:∀m:Nat,m<=8->IntKind.i64.wrap ((m:Int)+1)=((m+1:Nat):Int):=fun m hm=>by rw[wrap64 (by omega) (by omega)];omega
   have tl:∀acc':List Tok,acc'.length<=5*a.nodes+2->acc'=par (qez o) a->(DT.bi (qch o) (fun y3=>DT.bi (qbi y3 (ET acc')) (fun y4=>DT.br (qaH [CS.int IntKind.i64,CS.int IntKind.i64,CS.str,CS.slice 4] (EX [a,b]) 1)
     (.bi (qa5 o) (fun y5=>.bi (qb5 (intOf (cellAt (EX [a,b]) 1 0)) (intOf (cellAt (EX [a,b]) 1 1)) (strOf (cellAt (EX [a,b]) 1 2)) (qaq (cellAt (EX [a,b]) 1 3)) (IntKind.i64.wrap (y5+1)) y4) (fun y6=>.at (y6)) (.no)) (.no)) (.no)) .no) .no:DT qIM).ev=some (ET (wrB (.mk o n s [a,b]))):=by
    intro acc' hl he;refine(biS (qtt g1 (by omega) g3)).trans ((biS (qaJ _ (by omega))).trans ((brT ok1).trans ((biS (qbs o)).trans ?_)));rw[hw _ hr8];refine(biS (hA1 (qaX o+1) _ (by simp only[jA2,jA0,jA4];omega))).trans ?_;rw[qnX (e:=.mk o n s [a,b]) rfl h7 h8,he];simp[Ex.op]
   by_cases h4:qaX o=4
   ·have hc:(((qaX o:Nat):Int)==((qaX 10:Nat):Int))=true:=by rw[h4];rfl
    refine(brT hc).trans ((brT ok0).trans ?_);rw[hw _ hr8];have hl:qez o=qaX o+1:=by unfold qez;rw[jAr h4,h4]
    refine(biS (hQ0 (qaX o+1) (by omega))).trans ?_;rw[<-hl];exact tl _ pl rfl
   ·have hc:(((qaX o:Nat):Int)==((qaX 10:Nat):Int))=false:=by
     have:qaX 10=4:=rfl;rw[this];simp;omega
    refine(brF hc).trans ((brT ok0).trans ?_);have hl:qez o=qaX o:=by unfold qez;rw[jAm h4]
    refine(biS (hQ0 (qaX o) (by omega))).trans ?_;rw[<-hl];exact tl _ pl rfl
  |a::b::c::d,hop,hP,hQ,hacc=>
   have h19:o=19/\d= []:=by
    simp only[jA0,qaR]at hop
    (repeat' split at hop)<;>first|omega|(refine⟨by assumption,jAy.1 (by omega)⟩)
   obtain⟨rfl,rfl⟩:=h19;simp only[Ex.nodesL]at hacc;have pa:=qeu 0 a;have na:=qp0 a;have nb:=qp0 b;have pb:=qeu 0 b;have ok0:qaH ksX (EX [a,b,c]) 0=true:=okX (l:=[a,b,c]) (n:=0) (by simp);have ok1:qaH ksX (EX [a,b,c]) 1=true:=okX (l:=[a,b,c]) (n:=1) (by simp);have ok2:qaH ksX (EX [a,b,c]) 2=true:=okX (l:=[a,b,c]) (n:=2) (by simp);have hA0:∀(r:Nat) (acc:List Tok),acc.length+7*a.nodes+4<=1000000->qb5 (intOf (cellAt (EX [a,b,c]) 0 0)) (intOf (cellAt (EX [a,b,c]) 0 1)) (strOf (cellAt (EX [a,b,c]) 0 2)) (qaq (cellAt (EX [a,b,c]) 0 3)) (r:Int) (ET acc)=some (ET (acc++par r a)):=
    fun r acc h2=>hP 0 (by simp) r acc h2
   have hA1:∀(r:Nat) (acc:List Tok),acc.length+7*b.nodes+4<=1000000->qb5 (intOf (cellAt (EX [a,b,c]) 1 0)) (intOf (cellAt (EX [a,b,c]) 1 1)) (strOf (cellAt (EX [a,b,c]) 1 2)) (qaq (cellAt (EX [a,b,c]) 1 3)) (r:Int) (ET acc)=some (ET (acc++par r b)):=
    fun r acc h2=>hP 1 (by simp) r acc h2
   have hA2:∀(r:Nat) (acc:List Tok),acc.length+7*c.nodes+4<=1000000->qb5 (intOf (cellAt (EX [a,b,c]) 2 0)) (intOf (cellAt (EX [a,b,c]) 2 1)) (strOf (cellAt (EX [a,b,c]) 2 2)) (qaq (cellAt (EX [a,b,c]) 2 3)) (r:Int) (ET acc)=some (ET (acc++par r c)):=
    fun r acc h2=>hP 2 (by simp) r acc h2
   refine(brF rfl).trans ((brF rfl).trans ((brF rfl).trans ((brF rfl).trans ((brF rfl).trans ((brF rfl).trans ((brF rfl).trans ((brF rfl).trans ((brT rfl).trans ?_))))))));refine(biS (v:=ET (wrB (.mk 19 n s [a,b,c]))) ?_).trans rfl;rw[qtG];unfold qpH;refine(brF rfl).trans ((brT rfl).trans ((biS (qec _)).trans ((brT ok0).trans ((biS (hA0 0 _ (by simp only[jA2,jA0,jA4];omega))).trans ((biS (qaJ _ (by simp only[jA2,jA0,jA4];omega))).trans ((brT ok1).trans ((biS (hA1 0 _ (by simp only[jA2,jA0,jA4];omega))).trans ((biS (qaJ _ (by simp only[jA2,jA0,jA4];omega))).trans ((brT rfl).trans ((brT ok2).trans ((biS (hA2 0 _ (by simp only[jA2,jA0,jA4];omega))).trans ?_)))))))))));rw[qII (e:=.mk 19 n s [a,b,c]) rfl];simp[qg9]
theorem qIE{e:Ex}(h:qaO e=0):e.nodes<=64/\e.allX qaN=true/\e.allX qbw=true:=by
 unfold qaO at h;cases h1:(decide (e.nodes>64)||decide (e.dep>8))
 ·rw[h1]at h;rw[jB6]at h1;cases h2:e.allX qaN
  ·rw[h2]at h;cases h
  ·cases h3:e.allX qbw
   ·rw[h2,h3]at h;cases h
   ·exact⟨by have:=of_decide_eq_false h1.1;omega,rfl,rfl⟩
 ·rw[h1]at h;cases h
theorem qGE{e:Ex}(h:e.nodes<=big):qta e.op e.num e.txt (EX e.args)=some (bif qaO e != 0 then([],qaO e)else(ET (wrB e),0)):=by
 rw[qNH,qrm];refine(biS (qd7 h)).trans ?_;cases hv:(qaO e != 0)
 ·have hv':qaO e=0:=by simpa using hv
  obtain⟨h1,h2,_⟩:=qIE hv';refine(brF rfl).trans ((biS (v:=ET (wrB e)) (qdQ (n:=2*e.dep) fun m hm=>q5S e h2 m hm (by omega))).trans rfl)
 ·exact(brT rfl).trans rfl
end Go.Proofs.H16

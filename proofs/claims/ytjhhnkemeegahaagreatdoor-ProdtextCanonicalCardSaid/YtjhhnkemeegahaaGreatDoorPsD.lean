/- What is read: how large it is, and what is left. -/
import Derived.Test.YtjhhnkemeegahaaGreatDoorPsA
import Derived.Test.YtjhhnkemeegahaaGreatDoorE3
import Derived.Test.YtjhhnkemeegahaaGreatDoorD16_1
import Derived.Test.YtjhhnkemeegahaaGreatDoorD16_5
import Derived.Test.YtjhhnkemeegahaaGreatDoorD16_8
import Derived.KernelRfl
set_option linter.all false
namespace Go.Tk
open Go Go.Eng
set_option linter.unusedSimpArgs false
set_option linter.unusedVariables false
def wtM:Md->Nat
 | .lp _ e=>e.nodes
 |_=>0
def GoodR(l:List Tok)(w:Nat):Rs->Prop
 | .bad r=>r <:+ l
 | .ok e r=>r <:+ l/\e.nodes+r.length<=w+l.length
theorem qdM{l l1:List Tok}{w w1:Nat}{o:Option Rs}{f:Ex->List Tok->Option Rs}{x:Rs}(h:qdf o f=some x)(ho:∀y,o=some y->GoodR l1 w1 y)(hl:l1 <:+ l)
  (hf:∀e r,r <:+ l1->r <:+ l->e.nodes+r.length<=w1+l1.length->f e r=some x->GoodR l w x):GoodR l w x:=by
 unfold qdf at h;cases o with
 |none=>cases h
 |some y=>
  have:=ho y rfl;cases y with
  |bad r=>cases h;exact List.IsSuffix.trans this hl
  |ok e r=>exact hf e r this.1 (this.1.trans hl) this.2 h
theorem qhX{l r:List Tok}{s:Bs}{w:Nat}{f:List Tok->Option Rs}{x:Rs}(h:qbZ s r f=some x)(hr:r <:+ l)
  (hf:∀r',r' <:+ l->r'.length+1=r.length->f r'=some x->GoodR l w x):GoodR l w x:=by
 unfold qbZ at h;cases hi:isW s r
 ·rw[hi]at h;cases h;exact hr
 ·rw[hi]at h;obtain⟨t,r',rfl⟩:=qbv hi;exact hf r' ((jCr t r').trans hr) rfl h
theorem GoodR.up{l l':List Tok}{w w':Nat}{x:Rs}(h:GoodR l w x)(hl:l <:+ l')(hw:w+l.length<=w'+l'.length):GoodR l' w' x:=by
 cases x with
 |bad r=>exact List.IsSuffix.trans h hl
 |ok e r=>exact⟨List.IsSuffix.trans h.1 hl,jAz h.2 hw⟩
theorem zmd(t:Tok)(l:List Tok):l <:+ t::l:=jCr t l
theorem qVY{l:List Tok}:GoodR l 0 (qgT l):=by
 unfold qgT;cases l with
 |nil=>exact jCa _
 |cons t r=>
  simp only;have hok:∀(o n:Int) (s:Bs),GoodR (t::r) 0 (.ok (.mk o n s []) r):=fun o n s=>⟨zmd t r,by simp[Ex.nodes,Ex.nodesL];try omega⟩
  cases t.kind==1
  ·cases t.kind==3
   ·cases numAt (t::r)with
    |none=>exact jCa _
    |some n=>exact hok _ _ _
   ·cases(qbm t.text).2==0
    ·exact jCa _
    ·exact hok _ _ _
  ·exact hok _ _ _
theorem qpE{s:Bs}{l:List Tok}(h:isW s l=true):l.tail <:+ l/\l.tail.length+1=l.length:=by
 obtain⟨t,r,rfl⟩:=qbv h;exact⟨jCr t r,rfl⟩
theorem zsG{k:Nat}{l:List Tok}(h:(opAt k l==0)=false):l.tail <:+ l/\l.tail.length+1=l.length:=by
 obtain⟨t,r,rfl⟩:=quD (k:=k) (l:=l) (by simpa using h);exact⟨jCr t r,rfl⟩
theorem qkb{l r:List Tok}{w:Nat}{e:Ex}(h:r <:+ l)(h2:e.nodes+r.length<=w+l.length):GoodR l w (.ok e r):=⟨h,h2⟩
theorem n1(o:Int)(a:Ex):(exN o [a]).nodes=1+a.nodes:=by simp[exN,Ex.nodes,Ex.nodesL];try omega
theorem n2(o:Int)(a b:Ex):(exN o [a,b]).nodes=1+a.nodes+b.nodes:=by simp[exN,Ex.nodes,Ex.nodesL];try omega
theorem n3(o:Int)(a b c:Ex):(exN o [a,b,c]).nodes=1+a.nodes+b.nodes+c.nodes:=by simp[exN,Ex.nodes,Ex.nodesL];try omega
theorem qL6:∀(n:Nat) (m:Md) (l:List Tok) (x:Rs),prs n m l=some x->GoodR l (wtM m) x:=by
 intro n
 induction n with
 |zero=>intro m l x h;cases h
 |succ n ih=>
  intro m l x h;have pairG:∀(op:Int) (r:List Tok),r <:+ l->r.length+1=l.length->qeD op (prs n .ex) r=some x->GoodR l 0 x:=by
   intro op r hr hrl h;unfold qeD at h;refine qhX h hr fun r1 s1 e1 h=>?_
   refine qdM h (ih _ _) s1 fun a r2 _ s2 q2 h=>?_
   refine qhX h s2 fun r3 s3 e3 h=>?_
   refine qdM h (ih _ _) s3 fun b r4 _ s4 q4 h=>?_
   refine qhX h s4 fun r5 s5 e5 h=>?_
   cases h;refine qkb s5 ?_;rw[n2];simp only[wtM]at q2 q4;omega
  cases m with
  |ex=>
   rw[qyf]at h;cases hi:isW [105,102] l
   ·rw[hi]at h;exact ih (.bin 0) l x h
   ·rw[hi]at h;obtain⟨s0,e0⟩:=qpE hi;refine qdM h (ih _ _) s0 fun a r1 _ s1 q1 h=>?_
    refine qhX h s1 fun r2 s2 e2 h=>?_
    refine qdM h (ih _ _) s2 fun b r3 _ s3 q3 h=>?_
    refine qhX h s3 fun r4 s4 e4 h=>?_
    refine qdM h (ih _ _) s4 fun c r5 _ s5 q5 h=>?_
    cases h;refine qkb s5 ?_;rw[n3];simp only[wtM]at q1 q3 q5 ⊢;omega
  |bin k=>
   rw[qoO]at h;cases h5:(k==5)
   ·rw[h5]at h;cases h2:(k==2)
    ·rw[h2]at h;refine qdM h (ih _ _) (jCa _) fun e r _ s1 q1 h=>?_
     refine(ih _ _ _ h).up s1 ?_;simp only[wtM]at q1 ⊢;omega
    ·rw[h2]at h;simp only[jAa,jA9]at h;cases hi:isW [110,111,116] l
     ·rw[hi]at h;exact ih .cmp l x h
     ·rw[hi]at h;obtain⟨s0,e0⟩:=qpE hi;refine qdM h (ih _ _) s0 fun a r1 _ s1 q1 h=>?_
      cases h;refine qkb s1 ?_;rw[n1];simp only[wtM]at q1 ⊢;omega
   ·rw[h5]at h;exact ih .neg l x h
  |cmp=>
   rw[qu7]at h;refine qdM h (ih _ _) (jCa _) fun e r _ s1 q1 h=>?_
   refine(ih _ _ _ h).up s1 ?_;simp only[wtM]at q1 ⊢;omega
  |lp k e=>
   rw[qyg]at h;cases h0:(opAt k l==0)
   ·rw[h0]at h;obtain⟨s0,e0⟩:=zsG h0;refine qdM h (ih _ _) s0 fun b r1 _ s1 q1 h=>?_
    cases h2:(k==2)
    ·rw[h2]at h;refine(ih _ _ _ h).up s1 ?_;simp only[wtM]at q1 ⊢;rw[n2];omega
    ·rw[h2]at h;cases h;refine qkb s1 ?_;rw[n2];simp only[wtM]at q1 ⊢;omega
   ·rw[h0]at h;cases h;exact qkb (jCa _) (jAj _)
  |neg=>
   rw[qoP]at h;cases hi:isW [45] l
   ·rw[hi]at h;exact ih .prim l x h
   ·rw[hi]at h;obtain⟨s0,e0⟩:=qpE hi;refine qdM h (ih _ _) s0 fun a r1 _ s1 q1 h=>?_
    cases h;refine qkb s1 ?_;rw[n1];simp only[wtM]at q1 ⊢;omega
  |prim=>
   rw[qk4]at h;cases h1:isW [36] l
   ·rw[h1]at h;simp only[jA9]at h;cases h2:isW [109,105,110] l
    ·rw[h2]at h;simp only[jA9]at h;cases h3:isW [109,97,120] l
     ·rw[h3]at h;simp only[jA9]at h;cases h4:isW [40] l
      ·rw[h4]at h;cases h;exact qVY
      ·rw[h4]at h;obtain⟨s0,e0⟩:=qpE h4;refine qdM h (ih _ _) s0 fun a r1 _ s1 q1 h=>?_
       refine qhX h s1 fun r2 s2 e2 h=>?_
       cases h;refine qkb s2 ?_;simp only[wtM]at q1 ⊢;omega
     ·rw[h3]at h;obtain⟨s0,e0⟩:=qpE h3;exact pairG 18 _ s0 e0 h
    ·rw[h2]at h;obtain⟨s0,e0⟩:=qpE h2;exact pairG 17 _ s0 e0 h
   ·rw[h1]at h;obtain⟨s0,e0⟩:=qpE h1;simp only[jAa]at h;cases hn:numAt l.tail with
    |none=>
     rw[hn]at h;cases h;exact s0
    |some v=>
     rw[hn]at h;cases h;have hne:∃t r,l.tail=t::r:=by
      cases hl:l.tail with
      |nil=>rw[hl]at hn;cases hn
      |cons t r=>exact⟨t,r,rfl⟩
     obtain⟨t,r,hl⟩:=hne;rw[hl]at s0 e0 ⊢;refine qkb ((jCr t r).trans s0) ?_;simp only[jA0,jB3,Ex.nodes,Ex.nodesL,wtM]at e0 ⊢;omega
theorem Ev.good{m:Md}{l:List Tok}{x:Rs}(h:Ev m l x):GoodR l (wtM m) x:=h.elim fun n hn=>qL6 n _ _ _ hn
end Go.Tk
namespace Go.Proofs.H16
open Go Go.Eng Go.Tk
set_option maxRecDepth 20000
theorem qna{s:Bs}{n:Int}(h:qj9 s=some n):Lib.atoiAll s= .ok n/\0<=n/\Lib.itoa n=s:=by
 unfold qj9 at h;cases hi:qgR s
 ·rw[hi]at h;cases h
 ·have hg:=qjZ hi;rw[hi,hg]at h;have ha:=(qbb.1 hi).1;have hne:=(qbb.1 hi).2.1;by_cases hb:9223372036854775808<=qa7 0 s
  ·rw[jA8 hb]at h;cases h
  ·rw[jAe hb]at h;cases h;refine⟨?_,by omega,?_⟩
   ·rw[qy4 ha hne,jAr (by omega)]
   ·rw[qqt (by omega),show((qa7 0 s:Nat):Int).toNat=qa7 0 s by omega];exact qwU _ _ (jAj _) hi
abbrev pos(T l:List Tok):Int:=((T.length-l.length:Nat):Int)
section
variable {T:List Tok}
theorem qyd{t:Tok}{l:List Tok}(h:t::l <:+ T):T.length-(t::l).length<T.length:=by
 have:=h.length_le;simp only[jA0]at this ⊢;omega
theorem q89{t:Tok}{l:List Tok}(h:t::l <:+ T):T[T.length-(t::l).length]'(qyd h)=t:=by
 obtain⟨p,rfl⟩:=h;have e:(p++t::l).length-(t::l).length=p.length:=by simp
 simp only[e];simp
theorem qbO{t:Tok}{l:List Tok}(h:t::l <:+ T)(hT:T.length<=1000000):IntKind.i64.wrap (pos T (t::l)+1)=pos T l:=by
 have:=h.length_le;simp only[jA0]at this;unfold pos;rw[wrap64 (by omega) (by omega)];simp only[jA0];omega
theorem qkc:pos T []=(T.length:Int):=by simp[pos]
theorem qL3{t:Tok}{l:List Tok}(h:t::l <:+ T)(hT:T.length<=1000000):IntKind.i64.wrap (pos T l-1)=pos T (t::l):=by
 have:=h.length_le;simp only[jA0]at this;unfold pos;rw[wrap64 (by omega) (by omega)];simp only[jA0];omega
theorem qJq{t:Tok}{l:List Tok}(h:t::l <:+ T):decide (pos T (t::l)>=(T.length:Int))=false:=jAe (by have:=qyd h;unfold pos;omega)
theorem qWx{t:Tok}{l:List Tok}(h:t::l <:+ T):decide (pos T (t::l)<(T.length:Int))=true:=jA8 (by have:=qyd h;unfold pos;omega)
theorem qAe{t:Tok}{l:List Tok}(h:t::l <:+ T):qaH ksT (ET T) (pos T (t::l))=true:=okT (qyd h)
theorem kindP{t:Tok}{l:List Tok}(h:t::l <:+ T):intOf (cellAt (ET T) (pos T (t::l)) 0)=t.kind:=by
 have:=qt0 (qyd h);rw[q89 h]at this;exact this
theorem qwc{t:Tok}{l:List Tok}(h:t::l <:+ T):strOf (cellAt (ET T) (pos T (t::l)) 2)=t.text:=by
 have:=qt2 (qyd h);rw[q89 h]at this;exact this
theorem qaK{l:List Tok}(h:l <:+ T):l.tail <:+ T:=by
 cases l with
 |nil=>exact h
 |cons t l=>exact(jCr t l).trans h
theorem qbo(s:Bs)(t:Tok)(l:List Tok):isW s (t::l)=(t.text==s&&t.kind==qcC s):=rfl
theorem qkX(t:Tok)(l:List Tok):numAt (t::l)=bif t.kind==2 then qj9 t.text else none:=rfl
def zvi(T l:List Tok):Option Int->(Int×List AV×Int)⊕(Int×List AV×Int)
 |some v=>.inl (v,ET T,pos T l.tail)
 |none=>.inr (pos T l,ET T,pos T l)
theorem qGo(s:Bs){l:List Tok}(hl:l <:+ T):qsU s (ET T) (pos T l)=some (isW s l,ET T,pos T l):=by
 rw[qM4,qqK,jA5];cases l with
 |nil=>
  refine(brT (jA8 ?_)).trans rfl;rw[qkc];omega
 |cons t l=>
  refine(brF (qJq hl)).trans ((brT (qAe hl)).trans ?_);rw[qwc hl,kindP hl];rw[qbo];unfold qcC;cases hs:(t.text==s)
  ·exact(brT (by rfl)).trans rfl
  ·refine(brF (by rfl)).trans ((biS (qdi s)).trans ?_);cases hw:qbT s
   ·exact(brF rfl).trans ((brT (qAe hl)).trans rfl)
   ·exact(brT rfl).trans ((brT (qAe hl)).trans rfl)
theorem qhT(hT:T.length<=1000000)(s:Bs){l:List Tok}(hl:l <:+ T):qc6 s (ET T) (pos T l)=some (isW s l,ET T,bif isW s l then pos T l.tail else pos T l):=by
 rw[qUQ,qBO];refine(biS (qGo s hl)).trans ?_;cases hi:isW s l
 ·exact(brT rfl).trans rfl
 ·obtain⟨t,l',rfl⟩:=qbv hi;refine(brF rfl).trans ?_;show some _=_;rw[qbO hl hT];rfl
theorem qor(l:List Tok):qhU (ET T) (pos T l)=some (pos T l,ET T,pos T l):=by
 rw[qU6,qB5];rfl
theorem qMz(hT:T.length<=1000000)(s:Bs){l:List Tok}(hl:l <:+ T):qdZ s (ET T) (pos T l)=some (bif isW s l then .inr (ET T,pos T l.tail)else .inl (pos T l,ET T,pos T l)):=by
 rw[qU7,qB7];refine(biS (qhT hT s hl)).trans ?_;cases isW s l
 ·exact(brT rfl).trans ((biS (qor l)).trans rfl)
 ·exact(brF rfl).trans rfl
theorem qL2(hT:T.length<=1000000)(hb:∀t∈T,t.text.length<=1000000){l:List Tok}(hl:l <:+ T):qdY (ET T) (pos T l)=some (zvi T l (numAt l)):=by
 rw[qUR,qBP,jA5];have fl:∀{l:List Tok},(DT.bi (qhU (ET T) (pos T l)) (fun y0=>DT.at ((.inr (y0.fst,y0.snd.fst,y0.snd.snd)):qRL)) .no).ev=some (.inr (pos T l,ET T,pos T l)):=fun {l}=>(biS (qor l)).trans rfl
 cases l with
 |nil=>
  refine(brT (jA8 ?_)).trans fl;rw[qkc];omega
 |cons t l=>
  have hp:pOk t.text=true:=by
   have:=hb t (hl.subset (by simp));simp only[pOk,jA6];omega
  refine(brF (qJq hl)).trans ((brT (qAe hl)).trans ?_);rw[kindP hl];rw[qkX];cases hk:(t.kind==2)
  ·have:(t.kind != 2)=true:=by simpa using hk
   exact(brT this).trans fl
  ·have:(t.kind != 2)=false:=by simpa using hk
   refine(brF this).trans ((brT (qAe hl)).trans ?_);rw[qwc hl,hp,jAa];simp only[jBm];have hn:∀n,qj9 t.text=some n->Lib.atoiAll t.text= .ok n/\0<=n/\Lib.itoa n=t.text:=fun n h=>qna h
   cases ha:Lib.atoiAll t.text with
   |ok v=>
    refine(brT rfl).trans ?_;have hbd:-9223372036854775808<=v/\v<=9223372036854775807:=Lib.atoiAll_bounds ha;by_cases h0:v<0
    ·have hnone:qj9 t.text=none:=by
      cases hq:qj9 t.text with
      |none=>rfl
      |some n=>
       obtain⟨q1,q2,_⟩:=hn n hq;rw[ha]at q1;cases q1;omega
     rw[hnone];refine(biS (v:=true) ?_).trans ((brT rfl).trans fl);show br (decide (v<0)) (some true) _=_;rw[jA8 h0];rfl
    ·have hr:(decide (-9223372036854775808<=v)&&decide (v<=9223372036854775807))=true:=by rw[jA8 hbd.1,jA8 hbd.2];rfl
     refine(biS (v:=!(Lib.itoa v==t.text)) ?_).trans ?_
     ·show br (decide (v<0)) (some true) (br (decide (-9223372036854775808<=v)&&decide (v<=9223372036854775807)) (some (!(Lib.itoa v==t.text))) none)=_;rw[jAe h0,hr];rfl
     ·by_cases he:Lib.itoa v=t.text
      ·have hsome:qj9 t.text=some v:=by rw[<-he];exact qh6 (by omega) hbd.2
       rw[hsome];have:(!(Lib.itoa v==t.text))=false:=by simpa using he
       refine(brF this).trans ?_;show some (Sum.inl (v,ET T,IntKind.i64.wrap (pos T (t::l)+1)))=_;rw[qbO hl hT];rfl
      ·have hnone:qj9 t.text=none:=by
        cases hq:qj9 t.text with
        |none=>rfl
        |some n=>
         obtain⟨q1,q2,q3⟩:=hn n hq;rw[ha]at q1;cases q1;exact absurd q3 he
       rw[hnone];have:(!(Lib.itoa v==t.text))=true:=by simpa using he
       exact(brT this).trans fl
   |range=>
    have hnone:qj9 t.text=none:=by
     cases hq:qj9 t.text with
     |none=>rfl
     |some n=>have:=(hn n hq).1;rw[ha]at this;cases this
    rw[hnone];exact(brF rfl).trans ((brT rfl).trans fl)
   |_=>
    have hnone:qj9 t.text=none:=by
     cases hq:qj9 t.text with
     |none=>rfl
     |some n=>have:=(hn n hq).1;rw[ha]at this;cases this
    rw[hnone];exact(brF rfl).trans ((brF rfl).trans ((brT rfl).trans fl))
theorem qwA(hT:T.length<=1000000){l:List Tok}(hl:l <:+ T){vs:List Va}(hv:vs.length<=big):qDe (EV vs,(vs.length:Int),0,ET T,pos T l)=some (qjD (fun v=>isW v.name l) (fun _=>0) 1 vs,EV vs,(vs.length:Int),((vs.findIdx (fun v=>isW v.name l):Nat):Int),ET T,pos T l):=by
 rw[qDf];refine qaP (hd:=fun i=>(EV vs,(vs.length:Int),(i:Int),ET T,pos T l)) _ _ 1 (fun i hn=>?_) ?_
 ·show(qku (EV vs) (vs.length:Int) (i:Int) (ET T) (pos T l)).ev=_;rw[qku,qaV hn];refine(brT rfl).trans ((brT (okV hn)).trans ?_);rw[qv0 hn];refine(biS (qhT hT _ hl)).trans ?_;cases isW vs[i].name l
  ·refine(brF rfl).trans ?_;simp only[qar hn hv,jA9];rfl
  ·exact(brT rfl).trans rfl
 ·show(qku (EV vs) (vs.length:Int) (vs.length:Int) (ET T) (pos T l)).ev=_;rw[qku];exact(brF (by simp)).trans rfl
theorem zeZ(k:Nat)(l:List Tok):opAt k l=match (lvV k).find? (fun v=>isW v.name l)with|some v=>v.ty|none=>0:=by
 unfold opAt lvV;rw[List.find?_map];have:(fun v:Va=>isW v.name l)∘(fun x:Bs×Int=>(⟨x.1,x.2⟩:Va))=fun x=>isW x.1 l:=rfl
 rw[this];cases(lvS k).find? (fun x=>isW x.1 l)<;>rfl
theorem zlv(k:Nat):(lvV k).length<=4:=by
 match k with
 |0|1|2|3|4=>decide
 |k+5=>exact jBa _
theorem zqa{k:Nat}{v:Va}(h:v∈lvV k):v.ty≠0:=by
 match k with
 |0|1|2|3|4=>
  simp only[lvV,lvS,jAs,jCe,jAc,jAp,jBp]at h
  first
   |(rcases h with rfl|rfl|rfl|rfl<;>decide)
   |(rcases h with rfl|rfl<;>decide)
   |(rcases h with rfl;decide)
 |k+5=>cases h
def opP(T:List Tok)(k:Nat)(l:List Tok):List Tok:=bif opAt k l==0 then l else l.tail
theorem qg7(hT:T.length<=1000000){k:Nat}(hk:k<5){l:List Tok}(hl:l <:+ T):qpQ (k:Int) (ET T) (pos T l)=some (opAt k l,ET T,pos T (opP T k l)):=by
 rw[qUG,qBG];refine(biS qd9).trans ((brT (zuT (l:=lvs) (n:=k) hk)).trans ?_);rw[qLv (l:=lvs) hk,jA5];have hlk:lvs[k]=lvV k:=by
  match k,hk with
  |0,_|1,_|2,_|3,_|4,_=>rfl
 rw[hlk];have hv:(lvV k).length<=big:=by have:=zlv k;simp only[big];omega
 have hL:=qwA hT hl hv;have hfo:=zeZ k l;unfold qjD at hL;cases hf:(lvV k).find? (fun v=>isW v.name l)with
 |none=>
  rw[hf]at hL hfo;rw[hL];refine(biN rfl).trans ((biS rfl).trans ?_);have h0:opAt k l=0:=hfo;unfold opP;rw[h0];rfl
 |some v=>
  rw[hf]at hL hfo;rw[hL];refine(biS rfl).trans ?_;have hp:isW v.name l=true:=jC4 (p:=fun v:Va=>isW v.name l) hf;have hm:=jB4 hf;have h0:opAt k l=v.ty:=hfo;have hlt:(lvV k).findIdx (fun v=>isW v.name l)<(lvV k).length:=List.findIdx_lt_length.2 ⟨v,hm,hp⟩;have hg:(lvV k)[(lvV k).findIdx (fun v=>isW v.name l)]=v:=by
   have:=jCm (p:=fun v:Va=>isW v.name l) (xs:=lvV k);rw[hf,jAh hlt]at this;exact(jC2 this).symm
  show some (intOf (cellAt (EV (lvV k)) _ 1),(gv (qc6 (strOf (cellAt (EV (lvV k)) _ 0)) (ET T) (pos T l))).snd.fst,(gv (qc6 (strOf (cellAt (EV (lvV k)) _ 0)) (ET T) (pos T l))).snd.snd)=_;rw[qv1 hlt,qv0 hlt,hg,qhT hT _ hl,hp,h0];have hne:(v.ty==0)=false:=by simpa using zqa hm
  unfold opP;rw[h0,hne];rfl
def rsP(T:List Tok):Rs->(Int×Int×Bs×List AV×List AV×Int)⊕(Int×List AV×Int)
 | .ok e r=>.inl (e.op,e.num,e.txt,EX e.args,ET T,pos T r)
 | .bad r=>.inr (pos T r,ET T,pos T r)
def rsQ(T:List Tok):Rs->(Int×List AV×Int)⊕(Int×Int×Bs×List AV×List AV×Int)
 | .ok e r=>.inr (e.op,e.num,e.txt,EX e.args,ET T,pos T r)
 | .bad r=>.inl (pos T r,ET T,pos T r)
theorem qbu{o:Option Rs}{f:Ex->List Tok->Option Rs}{x:Rs}(h:qdf o f=some x):(∃r,o=some (.bad r)/\x= .bad r)\/ ∃e r,o=some (.ok e r)/\f e r=some x:=by
 unfold qdf at h;cases o with
 |none=>cases h
 |some y=>
  cases y with
  |bad r=>cases h;exact .inl ⟨r,rfl,rfl⟩
  |ok e r=>exact .inr ⟨e,r,rfl,h⟩
theorem qcn{s:Bs}{r:List Tok}{f:List Tok->Option Rs}{x:Rs}(h:qbZ s r f=some x):(isW s r=false/\x= .bad r)\/(isW s r=true/\f r.tail=some x):=by
 unfold qbZ at h;cases hi:isW s r
 ·rw[hi]at h;cases h;exact .inl ⟨rfl,rfl⟩
 ·rw[hi]at h;exact .inr ⟨rfl,h⟩
theorem qgK{n:Nat}{m:Md}{l r:List Tok}{e:Ex}(h:prs n m l=some (.ok e r))(hl:l <:+ T):r <:+ T:=(qL6 _ _ _ _ h).1.trans hl
theorem qJa(o:Int)(l:List Ex):(exN o l).op=o/\(exN o l).num=0/\(exN o l).txt= []/\(exN o l).args=l:=⟨rfl,rfl,rfl,rfl⟩
theorem EX1(a:Ex):EX [a]= [.agg [.int .i64 a.op,.int .i64 a.num,.str a.txt,.view 4 (EX a.args)]]:=by rw[<-qhP];rfl
theorem EX2(a b:Ex):EX [a,b]= [.agg [.int .i64 a.op,.int .i64 a.num,.str a.txt,.view 4 (EX a.args)],.agg [.int .i64 b.op,.int .i64 b.num,.str b.txt,.view 4 (EX b.args)]]:=by rw[<-qhP,<-qhP];rfl
theorem EX3(a b c:Ex):EX [a,b,c]= [.agg [.int .i64 a.op,.int .i64 a.num,.str a.txt,.view 4 (EX a.args)],.agg [.int .i64 b.op,.int .i64 b.num,.str b.txt,.view 4 (EX b.args)],.agg [.int .i64 c.op,.int .i64 c.num,.str c.txt,.view 4 (EX c.args)]]:=by rw[<-qhP,<-qhP,<-qhP];rfl
theorem rs1(o:Int)(a:Ex)(r:List Tok):rsP T (.ok (exN o [a]) r)= .inl (o,0,[],[.agg [.int .i64 a.op,.int .i64 a.num,.str a.txt,.view 4 (EX a.args)]],ET T,pos T r):=by rw[<-EX1];rfl
theorem rs2(o:Int)(a b:Ex)(r:List Tok):rsP T (.ok (exN o [a,b]) r)= .inl (o,0,[],[.agg [.int .i64 a.op,.int .i64 a.num,.str a.txt,.view 4 (EX a.args)],.agg [.int .i64 b.op,.int .i64 b.num,.str b.txt,.view 4 (EX b.args)]],ET T,pos T r):=by rw[<-EX2];rfl
theorem rq2(o:Int)(a b:Ex)(r:List Tok):rsQ T (.ok (exN o [a,b]) r)= .inr (o,0,[],[.agg [.int .i64 a.op,.int .i64 a.num,.str a.txt,.view 4 (EX a.args)],.agg [.int .i64 b.op,.int .i64 b.num,.str b.txt,.view 4 (EX b.args)]],ET T,pos T r):=by rw[<-EX2];rfl
theorem rs3(o:Int)(a b c:Ex)(r:List Tok):rsP T (.ok (exN o [a,b,c]) r)= .inl (o,0,[],[.agg [.int .i64 a.op,.int .i64 a.num,.str a.txt,.view 4 (EX a.args)],.agg [.int .i64 b.op,.int .i64 b.num,.str b.txt,.view 4 (EX b.args)],.agg [.int .i64 c.op,.int .i64 c.num,.str c.txt,.view 4 (EX c.args)]],ET T,pos T r):=by rw[<-EX3];rfl
abbrev BT:=qgf
def bst(s:Bool)(k:Nat)(op:Int)(A:List AV)(p y4 y5:Int)(y6:Bs)(e:Ex):BT:=bif s then .inr ((k:Int),op,A,p,y4,y5,y6,e.op,e.num,e.txt,EX e.args)else .inl ((k:Int),op,A,p,y4,y5,y6,e.op,e.num,e.txt,EX e.args)
def zo8(T:List Tok)(K k:Nat)(v:BT)(x:Rs):Prop:=∃(s:Bool) (op p y4 y5:Int) (y6:Bs) (e:Ex),
 (∃r,x= .ok e r/\p=pos T r/\qdP (qaj K).1 (qaj K).2.1 (qaj K).2.2.1 (qaj K).2.2.2.1 (qaj K).2.2.2.2 v=some (bif s then 5 else 2,bst s k op (ET T) p y4 y5 y6 e)) \/
 (∃b r,x= .ok (exN op [e,b]) r/\(qaj K).2.1 ((k+1:Nat):Int) (ET T) p=some (rsP T (.ok b r))/\qdP (qaj K).1 (qaj K).2.1 (qaj K).2.2.1 (qaj K).2.2.2.1 (qaj K).2.2.2.2 v=some (bif s then 3 else 0,bst s k op (ET T) p y4 y5 y6 e)) \/
 (∃r,x= .bad r/\(qaj K).2.1 ((k+1:Nat):Int) (ET T) p=some (rsP T (.bad r))/\qdP (qaj K).1 (qaj K).2.1 (qaj K).2.2.1 (qaj K).2.2.2.1 (qaj K).2.2.2.2 v=some (bif s then 4 else 1,bst s k op (ET T) p y4 y5 y6 e))
theorem wr1{k:Nat}(h:k<5):IntKind.i64.wrap ((k:Int)+1)=((k+1:Nat):Int):=by rw[wrap64 (by omega) (by omega)];rfl
def AtM(T:List Tok)(l:List Tok)(x:Rs)(K:Nat):Md->Prop
 | .ex=>(qaj K).1 (ET T) (pos T l)=some (rsP T x)
 | .bin k=>k<=5->(qaj K).2.1 (k:Int) (ET T) (pos T l)=some (rsP T x)
 | .cmp=>isW [110,111,116] l=false->(qaj (K+1)).2.1 2 (ET T) (pos T l)=some (rsP T x)
 | .lp k e=>k<5-> ∀s y4 y5 y6,zo8 T K k (bst s k (opAt k l) (ET T) (pos T (opP T k l)) y4 y5 y6 e) x
 | .neg=>(qaj K).2.2.1 (ET T) (pos T l)=some (rsP T x)
 | .prim=>(qaj K).2.2.2.1 (ET T) (pos T l)=some (rsP T x)
theorem zp9(hT:T.length<=1000000){n K:Nat}(ih:∀m l x,prs n m l=some x->l <:+ T->AtM T l x K m){k:Nat}{e:Ex}{l:List Tok}{x:Rs}(h:prs (n+1) (.lp k e) l=some x)(hl:l <:+ T):AtM T l x K (.lp k e):=by
 intro hk s y4 y5 y6;rw[qyg]at h;cases h0:(opAt k l==0)
 ·rw[h0]at h;simp only[jA9]at h;have hne:(opAt k l != 0)=true:=by rw[bne,h0];rfl
  have hp:opP T k l=l.tail:=by unfold opP;rw[h0];rfl
  rw[hp];rcases qbu h with⟨r,hb,rfl⟩|⟨b,r,hb,h⟩
  ·have hc:=ih _ _ _ hb (qaK hl) (by omega);refine⟨s,opAt k l,pos T l.tail,y4,y5,y6,e,.inr (.inr ⟨r,rfl,hc,?_⟩)⟩;rw[qh3];rw[<-wr1 hk]at hc;refine qag ?_;cases s
   ·refine(brT hne).trans ?_;exact(qp9 hc).trans ((biR hc).trans rfl)
   ·refine(brT hne).trans ?_;exact(qp9 hc).trans ((biR hc).trans rfl)
  ·have hc:=ih _ _ _ hb (qaK hl) (by omega);have hc':=hc;rw[<-wr1 hk]at hc';have hr:r <:+ T:=qgK hb (qaK hl);cases h2:(k==2)
   ·rw[h2]at h;simp only[jA9]at h;have h2':((k:Int)==2)=false:=by
     have:k≠2:=by simpa using h2
     simpa using(by omega:¬(k:Int)=2)
    obtain⟨s',op',p',z4,z5,z6,e',hx⟩:=ih _ _ _ h hr hk true y4 y5 y6;have hstep:qdP (qaj K).1 (qaj K).2.1 (qaj K).2.2.1 (qaj K).2.2.2.1 (qaj K).2.2.2.2 (bst s k (opAt k l) (ET T) (pos T l.tail) y4 y5 y6 e)=qdP (qaj K).1 (qaj K).2.1 (qaj K).2.2.1 (qaj K).2.2.2.1 (qaj K).2.2.2.2 (bst true k (opAt k r) (ET T) (pos T (opP T k r)) y4 y5 y6 (exN (opAt k l) [e,b])):=by
     rw[qh3,qh3];refine qao ?_;cases s
     ·refine(brT hne).trans ((biL hc').trans ((brF h2').trans ((biS (qg7 hT hk hr)).trans ?_)));unfold bst;simp only[jAa,qJa,EX2];rfl
     ·refine(brT hne).trans ((biL hc').trans ((brF h2').trans ((biS (qg7 hT hk hr)).trans ?_)));unfold bst;simp only[jAa,qJa,EX2];rfl
    refine⟨s',op',p',z4,z5,z6,e',?_⟩;rw[hstep];exact hx
   ·rw[h2]at h;cases h;have h2':((k:Int)==2)=true:=by
     have:k=2:=by simpa using h2
     subst this;rfl
    refine⟨s,opAt k l,pos T l.tail,y4,y5,y6,e,.inr (.inl ⟨b,r,rfl,hc,?_⟩)⟩;rw[qh3];refine qag ?_;cases s
    ·exact(brT hne).trans ((biL hc').trans ((brT h2').trans rfl))
    ·exact(brT hne).trans ((biL hc').trans ((brT h2').trans rfl))
 ·rw[h0]at h;cases h;have hne:(opAt k l != 0)=false:=by rw[bne,h0];rfl
  have hp:opP T k l=l:=by unfold opP;rw[h0];rfl
  refine⟨s,opAt k l,pos T (opP T k l),y4,y5,y6,e,.inl ⟨l,rfl,by rw[hp],?_⟩⟩;rw[qh3];refine qag ?_;cases s
  ·exact(brF hne).trans rfl
  ·exact(brF hne).trans rfl
theorem ch0{α:Type}{o:Option (Nat×BT)}{w:BT}{f0 f1 f2 f3 f4 f5:BT->DT α}(h:o=some (0,w)):(DT.bi (pj 0 o) f0 (.bi (pj 1 o) f1 (.bi (pj 2 o) f2 (.bi (pj 3 o) f3 (.bi (pj 4 o) f4 (.bi (pj 5 o) f5 .no)))))).ev=(f0 w).ev:=by subst h;rfl
theorem ch1{α:Type}{o:Option (Nat×BT)}{w:BT}{f0 f1 f2 f3 f4 f5:BT->DT α}(h:o=some (1,w)):(DT.bi (pj 0 o) f0 (.bi (pj 1 o) f1 (.bi (pj 2 o) f2 (.bi (pj 3 o) f3 (.bi (pj 4 o) f4 (.bi (pj 5 o) f5 .no)))))).ev=(f1 w).ev:=by subst h;rfl
theorem ch2{α:Type}{o:Option (Nat×BT)}{w:BT}{f0 f1 f2 f3 f4 f5:BT->DT α}(h:o=some (2,w)):(DT.bi (pj 0 o) f0 (.bi (pj 1 o) f1 (.bi (pj 2 o) f2 (.bi (pj 3 o) f3 (.bi (pj 4 o) f4 (.bi (pj 5 o) f5 .no)))))).ev=(f2 w).ev:=by subst h;rfl
theorem ch3{α:Type}{o:Option (Nat×BT)}{w:BT}{f0 f1 f2 f3 f4 f5:BT->DT α}(h:o=some (3,w)):(DT.bi (pj 0 o) f0 (.bi (pj 1 o) f1 (.bi (pj 2 o) f2 (.bi (pj 3 o) f3 (.bi (pj 4 o) f4 (.bi (pj 5 o) f5 .no)))))).ev=(f3 w).ev:=by subst h;rfl
theorem ch4{α:Type}{o:Option (Nat×BT)}{w:BT}{f0 f1 f2 f3 f4 f5:BT->DT α}(h:o=some (4,w)):(DT.bi (pj 0 o) f0 (.bi (pj 1 o) f1 (.bi (pj 2 o) f2 (.bi (pj 3 o) f3 (.bi (pj 4 o) f4 (.bi (pj 5 o) f5 .no)))))).ev=(f4 w).ev:=by subst h;rfl
theorem ch5{α:Type}{o:Option (Nat×BT)}{w:BT}{f0 f1 f2 f3 f4 f5:BT->DT α}(h:o=some (5,w)):(DT.bi (pj 0 o) f0 (.bi (pj 1 o) f1 (.bi (pj 2 o) f2 (.bi (pj 3 o) f3 (.bi (pj 4 o) f4 (.bi (pj 5 o) f5 .no)))))).ev=(f5 w).ev:=by subst h;rfl
theorem zp4{o:Option ((Int×Int×Bs×List AV×List AV×Int)⊕(Int×List AV×Int))}{x:Rs}(h:o=some (rsP T x)):(DT.bi (pl o) (fun y1=>DT.at ((.inl (y1.fst,y1.snd.fst,y1.snd.snd.fst,y1.snd.snd.snd.fst,y1.snd.snd.snd.snd.fst,y1.snd.snd.snd.snd.snd)):(Int×Int×Bs×List AV×List AV×Int)⊕(Int×List AV×Int))) (DT.bi (pr o) (fun y1=>DT.at (.inr (y1.fst,y1.snd.fst,y1.snd.snd))) DT.no)).ev=some (rsP T x):=by
 subst h;cases x<;>rfl
theorem qqh(hT:T.length<=1000000){s:Bs}{l:List Tok}(hl:l <:+ T)(h:isW s l=true):qdZ s (ET T) (pos T l)=some (.inr (ET T,pos T l.tail)):=by rw[qMz hT s hl,h];rfl
theorem qPH(hT:T.length<=1000000){s:Bs}{l:List Tok}(hl:l <:+ T)(h:isW s l=false):qdZ s (ET T) (pos T l)=some (.inl (pos T l,ET T,pos T l)):=by rw[qMz hT s hl,h];rfl
theorem paT(hT:T.length<=1000000){s:Bs}{l:List Tok}(hl:l <:+ T)(h:isW s l=true):qc6 s (ET T) (pos T l)=some (true,ET T,pos T l.tail):=by rw[qhT hT s hl,h];rfl
theorem zfC(hT:T.length<=1000000){s:Bs}{l:List Tok}(hl:l <:+ T)(h:isW s l=false):qc6 s (ET T) (pos T l)=some (false,ET T,pos T l):=by rw[qhT hT s hl,h];rfl
theorem zpQ(hT:T.length<=1000000){n K:Nat}(ih:∀m l x,prs n m l=some x->l <:+ T->AtM T l x K m){l:List Tok}{x:Rs}(h:prs (n+1) .ex l=some x)(hl:l <:+ T):AtM T l x (K+1) .ex:=by
 show(qB4 (qaj K).1 (qaj K).2.1 (qaj K).2.2.1 (qaj K).2.2.2.1 (qaj K).2.2.2.2 (ET T) (pos T l)).ev=_;rw[qB4];rw[qyf]at h;cases hi:isW [105,102] l
 ·rw[hi]at h;exact(biS (zfC hT hl hi)).trans ((brT rfl).trans (zp4 (ih (.bin 0) _ _ h hl (by decide))))
 ·rw[hi]at h;simp only[jAa]at h;refine(biS (paT hT hl hi)).trans ((brF rfl).trans ?_);have h1:=qaK hl;rcases qbu h with⟨r,hb,rfl⟩|⟨a,r1,hb,h⟩
  ·have hc:=ih _ _ _ hb h1;exact(qp9 hc).trans ((biR hc).trans rfl)
  ·have hc:=ih _ _ _ hb h1;have s1:=qgK hb h1;refine(biL hc).trans ?_;rcases qcn h with⟨hw,rfl⟩|⟨hw,h⟩
   ·exact(biL (qPH hT s1 hw)).trans rfl
   ·refine(qp9 (qqh hT s1 hw)).trans ((biR (qqh hT s1 hw)).trans ?_);have s2:=qaK s1;rcases qbu h with⟨r,hb2,rfl⟩|⟨b,r2,hb2,h⟩
    ·have hc2:=ih _ _ _ hb2 s2;exact(qp9 hc2).trans ((biR hc2).trans rfl)
    ·have hc2:=ih _ _ _ hb2 s2;have s3:=qgK hb2 s2;refine(biL hc2).trans ?_;rcases qcn h with⟨hw2,rfl⟩|⟨hw2,h⟩
     ·exact(biL (qPH hT s3 hw2)).trans rfl
     ·refine(qp9 (qqh hT s3 hw2)).trans ((biR (qqh hT s3 hw2)).trans ?_);have s4:=qaK s3;rcases qbu h with⟨r,hb3,rfl⟩|⟨c,r3,hb3,h⟩
      ·have hc3:=ih _ _ _ hb3 s4;exact(qp9 hc3).trans ((biR hc3).trans rfl)
      ·have hc3:=ih _ _ _ hb3 s4;cases h;rw[rs3];exact(biL hc3).trans rfl
theorem zlF(hT:T.length<=1000000){n K:Nat}(ih:∀m l x,prs n m l=some x->l <:+ T->AtM T l x K m){l:List Tok}{x:Rs}(h:prs (n+1) .neg l=some x)(hl:l <:+ T):AtM T l x (K+1) .neg:=by
 show(qCb (qaj K).1 (qaj K).2.1 (qaj K).2.2.1 (qaj K).2.2.2.1 (qaj K).2.2.2.2 (ET T) (pos T l)).ev=_;rw[qCb];rw[qoP]at h;cases hi:isW [45] l
 ·rw[hi]at h;exact(biS (zfC hT hl hi)).trans ((brF rfl).trans (zp4 (ih _ _ _ h hl)))
 ·rw[hi]at h;simp only[jAa]at h;refine(biS (paT hT hl hi)).trans ((brT rfl).trans ?_);rcases qbu h with⟨r,hb,rfl⟩|⟨a,r1,hb,h⟩
  ·have hc:=ih _ _ _ hb (qaK hl);exact(qp9 hc).trans ((biR hc).trans rfl)
  ·have hc:=ih _ _ _ hb (qaK hl);cases h;rw[rs1];exact(biL hc).trans rfl
theorem zfE(hT:T.length<=1000000){n K:Nat}(ih:∀m l x,prs n m l=some x->l <:+ T->AtM T l x K m)(op:Int){l:List Tok}{x:Rs}(h:qeD op (prs n .ex) l=some x)(hl:l <:+ T):(qaj (K+1)).2.2.2.2 op (ET T) (pos T l)=some (rsQ T x):=by
 show(qB6 (qaj K).1 (qaj K).2.1 (qaj K).2.2.1 (qaj K).2.2.2.1 (qaj K).2.2.2.2 op (ET T) (pos T l)).ev=_;rw[qB6];unfold qeD at h;rcases qcn h with⟨hw,rfl⟩|⟨hw,h⟩
 ·exact(biL (qPH hT hl hw)).trans rfl
 ·refine(qp9 (qqh hT hl hw)).trans ((biR (qqh hT hl hw)).trans ?_);have h1:=qaK hl;rcases qbu h with⟨r,hb,rfl⟩|⟨a,r1,hb,h⟩
  ·have hc:=ih _ _ _ hb h1;exact(qp9 hc).trans ((biR hc).trans rfl)
  ·have hc:=ih _ _ _ hb h1;have s1:=qgK hb h1;refine(biL hc).trans ?_;rcases qcn h with⟨hw,rfl⟩|⟨hw,h⟩
   ·exact(biL (qPH hT s1 hw)).trans rfl
   ·refine(qp9 (qqh hT s1 hw)).trans ((biR (qqh hT s1 hw)).trans ?_);have s2:=qaK s1;rcases qbu h with⟨r,hb2,rfl⟩|⟨b,r2,hb2,h⟩
    ·have hc2:=ih _ _ _ hb2 s2;exact(qp9 hc2).trans ((biR hc2).trans rfl)
    ·have hc2:=ih _ _ _ hb2 s2;have s3:=qgK hb2 s2;refine(biL hc2).trans ?_;rcases qcn h with⟨hw2,rfl⟩|⟨hw2,h⟩
     ·exact(biL (qPH hT s3 hw2)).trans rfl
     ·cases h;rw[rq2];exact(qp9 (qqh hT s3 hw2)).trans ((biR (qqh hT s3 hw2)).trans rfl)
theorem zlT{l:List Tok}{v:Int}(hT:T.length<=1000000)(hb:∀t∈T,t.text.length<=1000000)(hl:l <:+ T)(h:numAt l=some v):qdY (ET T) (pos T l)=some (.inl (v,ET T,pos T l.tail)):=by rw[qL2 hT hb hl,h];rfl
theorem q5Q{l:List Tok}(hT:T.length<=1000000)(hb:∀t∈T,t.text.length<=1000000)(hl:l <:+ T)(h:numAt l=none):qdY (ET T) (pos T l)=some (.inr (pos T l,ET T,pos T l)):=by rw[qL2 hT hb hl,h];rfl
theorem qHV{t:Tok}{l:List Tok}(h:t::l <:+ T):decide (pos T (t::l)<((ET T).length:Int))=true:=by rw[jA5];exact qWx h
theorem zfM(hT:T.length<=1000000)(hb:∀t∈T,t.text.length<=1000000){n K:Nat}(ih:∀m l x,prs n m l=some x->l <:+ T-> ∀K,2*n<=K->AtM T l x K m)(hK:2*n+1<=K){l:List Tok}{x:Rs}(h:prs (n+1) .prim l=some x)(hl:l <:+ T):AtM T l x (K+1) .prim:=by
 obtain⟨J,rfl⟩:∃J,K=J+1:=⟨K-1,by omega⟩;have hpair:∀op l' x',qeD op (prs n .ex) l'=some x'->l' <:+ T->(qaj (J+1)).2.2.2.2 op (ET T) (pos T l')=some (rsQ T x'):=fun op l' x' h' hl'=>zfE hT (fun m l x h hl=>ih m l x h hl J (by omega)) op h' hl'
 generalize J+1=K at hpair hK ⊢;show(qBM (qaj K).1 (qaj K).2.1 (qaj K).2.2.1 (qaj K).2.2.2.1 (qaj K).2.2.2.2 (ET T) (pos T l)).ev=_;rw[qBM];rw[qk4]at h;cases h1:isW [36] l
 ·rw[h1]at h;simp only[jA9]at h;refine(biS (zfC hT hl h1)).trans ((brF rfl).trans ?_);cases h2:isW [109,105,110] l
  ·rw[h2]at h;simp only[jA9]at h;refine(biS (zfC hT hl h2)).trans ((brF rfl).trans ?_);cases h3:isW [109,97,120] l
   ·rw[h3]at h;simp only[jA9]at h;refine(biS (zfC hT hl h3)).trans ((brF rfl).trans ?_);cases h4:isW [40] l
    ·rw[h4]at h;cases h;refine(biS (zfC hT hl h4)).trans ((brF rfl).trans ?_);have fin:∀{x:Rs},(match numAt l with|some n=>Rs.ok (.mk 1 n [] []) l.tail|none=>.bad l)=x->(DT.bi (pl (qdY (ET T) (pos T l))) (fun y4=>DT.at ((.inl (1,y4.fst,[],[],y4.snd.fst,y4.snd.snd)):qIJ)) (.bi (pr (qdY (ET T) (pos T l))) (fun y4=>.at (.inr (y4.fst,y4.snd.fst,y4.snd.snd))) .no)).ev=some (rsP T x):=by
      intro x hx;subst hx;cases hn:numAt l with
      |none=>exact(qp9 (q5Q hT hb hl hn)).trans ((biR (q5Q hT hb hl hn)).trans rfl)
      |some v=>exact(biL (zlT hT hb hl hn)).trans rfl
     cases l with
     |nil=>
      have:decide (pos T []<((ET T).length:Int))=false:=jAe (by rw[qkc,jA5];omega);exact(brF this).trans ((brF this).trans (fin rfl))
     |cons t r=>
      refine(brT (qHV hl)).trans ((brT (qAe hl)).trans ?_);unfold qgT;simp only[kindP hl,qwc hl];cases k1:(t.kind==1)
      ·refine(brF rfl).trans ((brT (qHV hl)).trans ((brT (qAe hl)).trans ?_));cases k3:(t.kind==3)
       ·exact(brF rfl).trans (fin rfl)
       ·refine(brT rfl).trans ((brT (qAe hl)).trans ?_);have hbt:=hb t (hl.subset (by simp));refine(biS (qmc (by simp only[big];omega))).trans ?_;cases hr:((qbm t.text).2==0)
        ·refine(brT (by rw[bne,hr];rfl)).trans ((biS (qor _)).trans rfl)
        ·refine(brF (by rw[bne,hr];rfl)).trans ?_;show some (Sum.inl (3,(qbm t.text).1,[],[],ET T,IntKind.i64.wrap (pos T (t::r)+1)))=_;rw[qbO hl hT];rfl
      ·refine(brT rfl).trans ?_;have e:IntKind.i64.wrap (IntKind.i64.wrap (pos T (t::r)+1)-1)=pos T (t::r):=by rw[qbO hl hT,qL3 hl hT]
       refine(brT (by rw[e];exact qAe hl)).trans ?_;show some (Sum.inl (4,0,strOf (cellAt (ET T) (IntKind.i64.wrap (IntKind.i64.wrap (pos T (t::r)+1)-1)) 2),[],ET T,IntKind.i64.wrap (pos T (t::r)+1)))=_;rw[e,qwc hl,qbO hl hT];rfl
    ·rw[h4]at h;simp only[jAa]at h;refine(biS (paT hT hl h4)).trans ((brT rfl).trans ?_);have s0:=qaK hl;rcases qbu h with⟨r,hb2,rfl⟩|⟨a,r,hb2,h⟩
     ·have hc:=ih _ _ _ hb2 s0 K (by omega);exact(qp9 hc).trans ((biR hc).trans rfl)
     ·have hc:=ih _ _ _ hb2 s0 K (by omega);have s1:=qgK hb2 s0;refine(biL hc).trans ?_;rcases qcn h with⟨hw,rfl⟩|⟨hw,h⟩
      ·exact(biL (qPH hT s1 hw)).trans rfl
      ·cases h;exact(qp9 (qqh hT s1 hw)).trans ((biR (qqh hT s1 hw)).trans rfl)
   ·rw[h3]at h;simp only[jAa]at h;refine(biS (paT hT hl h3)).trans ((brT rfl).trans ?_);have hc:=hpair 18 _ _ h (qaK hl);cases x with
    |ok e r=>exact(qp9 hc).trans ((biR hc).trans rfl)
    |bad r=>exact(biL hc).trans rfl
  ·rw[h2]at h;simp only[jAa]at h;refine(biS (paT hT hl h2)).trans ((brT rfl).trans ?_);have hc:=hpair 17 _ _ h (qaK hl);cases x with
   |ok e r=>exact(qp9 hc).trans ((biR hc).trans rfl)
   |bad r=>exact(biL hc).trans rfl
 ·rw[h1]at h;simp only[jAa]at h;refine(biS (paT hT hl h1)).trans ((brT rfl).trans ?_);have s0:=qaK hl;cases hn:numAt l.tail with
  |none=>
   rw[hn]at h;cases h;exact(qp9 (q5Q hT hb s0 hn)).trans ((biR (q5Q hT hb s0 hn)).trans rfl)
  |some v=>
   rw[hn]at h;cases h;exact(biL (zlT hT hb s0 hn)).trans rfl
def znZ(op:Int)(e:Ex)(o:Option qsq):Option qsq:=some (Sum.inl (op,0,[],[AV.agg [AV.int .i64 e.op,AV.int .i64 e.num,AV.str e.txt,AV.view 4 (EX e.args)],AV.agg [AV.int .i64 (gv (pl o)).fst,AV.int .i64 (gv (pl o)).snd.fst,AV.str (gv (pl o)).snd.snd.fst,AV.view 4 (gv (pl o)).snd.snd.snd.fst]],(gv (pl o)).snd.snd.snd.snd.fst,(gv (pl o)).snd.snd.snd.snd.snd))
def znE(o:Option qsq):Option qsq:=some (Sum.inr ((gv (pr o)).fst,(gv (pr o)).snd.fst,(gv (pr o)).snd.snd))
theorem zjI(hT:T.length<=1000000){n K:Nat}(ih:∀m l x,prs n m l=some x->l <:+ T->AtM T l x K m){k:Nat}(h2:k≠2)(hk:k<5){l:List Tok}{x:Rs}(h:(qdf (prs n (.bin (k+1)) l) fun e r=>prs n (.lp k e) r)=some x)(hl:l <:+ T):(qaj (K+1)).2.1 (k:Int) (ET T) (pos T l)=some (rsP T x):=by
 show(qhK (qaj K).1 (qaj K).2.1 (qaj K).2.2.1 (qaj K).2.2.2.1 (qaj K).2.2.2.2 (k:Int) (ET T) (pos T l)).ev=_;rw[qhK];refine(biS qd9).trans ((brF (by rw[jA5];simpa[lvs]using(by omega:¬(k:Int)=5))).trans ((brF (by simpa using(by omega:¬(k:Int)=2))).trans ?_));rcases qbu h with⟨r,hb,rfl⟩|⟨a,r,hb,h⟩
 ·have hc:=ih _ _ _ hb hl (by omega);rw[<-wr1 hk]at hc;exact(qp9 hc).trans ((biR hc).trans rfl)
 ·have hc:=ih _ _ _ hb hl (by omega);rw[<-wr1 hk]at hc;have s1:=qgK hb hl;have hloop:=ih _ _ _ h s1 hk false 0 0 [];refine(biL hc).trans ((biS (qg7 hT hk s1)).trans ?_);obtain⟨s,op,p,y4,y5,y6,e',(⟨r,rfl,rfl,hL⟩|⟨b,r,rfl,hG,hL⟩|⟨r,rfl,hG,hL⟩)⟩:=hloop
  ·cases s
   ·exact(ch2 hL).trans rfl
   ·exact(ch5 hL).trans rfl
  ·rw[<-wr1 hk]at hG;rw[rs2];cases s
   ·exact(ch0 hL).trans ((congrArg (znZ op e') hG).trans rfl)
   ·exact(ch3 hL).trans ((congrArg (znZ op e') hG).trans rfl)
  ·rw[<-wr1 hk]at hG;cases s
   ·exact(ch1 hL).trans ((congrArg znE hG).trans rfl)
   ·exact(ch4 hL).trans ((congrArg znE hG).trans rfl)
theorem zkL(hT:T.length<=1000000){n K:Nat}(ih:∀m l x,prs n m l=some x->l <:+ T->AtM T l x K m){l:List Tok}{x:Rs}(h:prs (n+1) .cmp l=some x)(hl:l <:+ T):AtM T l x K .cmp:=by
 intro hnot;rw[qu7]at h;have hk:2<5:=by decide
 show(qhK (qaj K).1 (qaj K).2.1 (qaj K).2.2.1 (qaj K).2.2.2.1 (qaj K).2.2.2.2 ((2:Nat):Int) (ET T) (pos T l)).ev=_;rw[qhK];refine(biS qd9).trans ((brF rfl).trans ((brT rfl).trans ((biS (zfC hT hl hnot)).trans ((brF rfl).trans ?_))));rcases qbu h with⟨r,hb,rfl⟩|⟨a,r,hb,h⟩
 ·have hc:=ih _ _ _ hb hl (by omega);exact(qp9 hc).trans ((biR hc).trans rfl)
 ·have hc:=ih _ _ _ hb hl (by omega);have s1:=qgK hb hl;have hloop:=ih _ _ _ h s1 hk false 0 0 [];refine(biL hc).trans ((biS (qg7 hT hk s1)).trans ?_);obtain⟨s,op,p,y4,y5,y6,e',(⟨r,rfl,rfl,hL⟩|⟨b,r,rfl,hG,hL⟩|⟨r,rfl,hG,hL⟩)⟩:=hloop
  ·cases s
   ·exact(ch2 hL).trans rfl
   ·exact(ch5 hL).trans rfl
  ·rw[<-wr1 hk]at hG;rw[rs2];cases s
   ·exact(ch0 hL).trans ((congrArg (znZ op e') hG).trans rfl)
   ·exact(ch3 hL).trans ((congrArg (znZ op e') hG).trans rfl)
  ·rw[<-wr1 hk]at hG;cases s
   ·exact(ch1 hL).trans ((congrArg znE hG).trans rfl)
   ·exact(ch4 hL).trans ((congrArg znE hG).trans rfl)
theorem zlV(hT:T.length<=1000000)(hb:∀t∈T,t.text.length<=1000000):∀n m l x,prs n m l=some x->l <:+ T-> ∀K,2*n<=K->AtM T l x K m:=by
 intro n
 induction n with
 |zero=>intro m l x h;cases h
 |succ n ih=>
  intro m l x h hl K hK;cases m with
  |lp k e=>exact zp9 hT (fun m l x h hl=>ih m l x h hl K (by omega)) h hl
  |cmp=>exact zkL hT (fun m l x h hl=>ih m l x h hl K (by omega)) h hl
  |ex=>
   obtain⟨K,rfl⟩:∃J,K=J+1:=⟨K-1,by omega⟩;exact zpQ hT (fun m l x h hl=>ih m l x h hl K (by omega)) h hl
  |neg=>
   obtain⟨K,rfl⟩:∃J,K=J+1:=⟨K-1,by omega⟩;exact zlF hT (fun m l x h hl=>ih m l x h hl K (by omega)) h hl
  |prim=>
   obtain⟨K,rfl⟩:∃J,K=J+1:=⟨K-1,by omega⟩;exact zfM hT hb ih (by omega) h hl
  |bin k=>
   obtain⟨K,rfl⟩:∃J,K=J+1:=⟨K-1,by omega⟩;intro hk5;rw[qoO]at h;cases h5:(k==5)
   ·rw[h5]at h;simp only[jA9]at h;have n5:k≠5:=by simpa using h5
    cases h2:(k==2)
    ·rw[h2]at h;exact zjI hT (fun m l x h hl=>ih m l x h hl K (by omega)) (by simpa using h2) (by omega) h hl
    ·rw[h2]at h;simp only[jAa]at h;have e2:k=2:=by simpa using h2
     subst e2;cases hi:isW [110,111,116] l
     ·rw[hi]at h;exact ih _ _ _ h hl K (by omega) hi
     ·rw[hi]at h;simp only[jAa]at h;show(qhK (qaj K).1 (qaj K).2.1 (qaj K).2.2.1 (qaj K).2.2.2.1 (qaj K).2.2.2.2 ((2:Nat):Int) (ET T) (pos T l)).ev=_;rw[qhK];refine(biS qd9).trans ((brF rfl).trans ((brT rfl).trans ((biS (paT hT hl hi)).trans ((brT rfl).trans ?_))));rcases qbu h with⟨r,hb2,rfl⟩|⟨a,r,hb2,h⟩
      ·have hc:=ih _ _ _ hb2 (qaK hl) K (by omega) (by omega);exact(qp9 hc).trans ((biR hc).trans rfl)
      ·have hc:=ih _ _ _ hb2 (qaK hl) K (by omega) (by omega);cases h;rw[rs1];exact(biL hc).trans rfl
   ·rw[h5]at h;simp only[jAa]at h;have e5:k=5:=by simpa using h5
    subst e5;show(qhK (qaj K).1 (qaj K).2.1 (qaj K).2.2.1 (qaj K).2.2.2.1 (qaj K).2.2.2.2 ((5:Nat):Int) (ET T) (pos T l)).ev=_;rw[qhK];exact(biS qd9).trans ((brT rfl).trans (zp4 (ih _ _ _ h hl K (by omega))))
theorem qOH(hT:T.length<=1000000)(hb:∀t∈T,t.text.length<=1000000){l:List Tok}{x:Rs}(h:Ev .ex l x)(hl:l <:+ T):qU5 (ET T) (pos T l)=some (rsP T x):=by
 obtain⟨n,hn⟩:=h;exact qdQ (n:=2*n) fun m hm=>zlV hT hb n .ex l x hn hl m hm
end
def zck(k f:Int):PaR:=(0,0,[],[],k,f)
noncomputable def exS(l:List Tok):Rs:=(qI9 (m:=.ex) rfl l).choose
theorem qpP(l:List Tok):Ev .ex l (exS l):=(qI9 (m:=.ex) rfl l).choose_spec
theorem zkS{l:List Tok}{x:Rs}(h:Ev .ex l x):exS l=x:=(qpP l).fn h
def qqv(T:List Tok)(k:Int):Rs->PaR
 | .ok e r=>bif qaO e==0 then(e.op,e.num,e.txt,EX e.args,pos T r,0)else zck k (qaO e)
 | .bad r=>zck (pos T r) 2
noncomputable def qL1(T:List Tok)(k:Int):PaR:=if k<0\/(T.length:Int)<k then zck k 2 else qqv T k (exS (T.drop k.toNat))
theorem qL4{T:List Tok}{k:Int}(h0:0<=k)(h1:k<=T.length):pos T (T.drop k.toNat)=k:=by
 unfold pos;rw[jB0];omega
theorem qFm{T:List Tok}(hT:T.length<=1000000)(hb:∀t∈T,t.text.length<=1000000)(k:Int):qbJ IP 157 [.view 3 (ET T),.int .i64 k] []=some (paF (qL1 T k)):=by
 have pc:=fun {r}=>@qY9 IP 157 209 56 202 (by kernel_rfl) (by kernel_rfl) rfl (ET T) k r
 unfold qL1;by_cases hk:k<0\/(T.length:Int)<k
 ·rw[jAr hk];refine pc ?_;simp only[qL0,jB2,jA5,jAr hk];rfl
 ·rw[jAm hk];have hp:=qL4 (T:=T) (k:=k) (by omega) (by omega);have hl:T.drop k.toNat <:+ T:=List.drop_suffix _ _;have hv:=qOH hT hb (qpP (T.drop k.toNat)) hl;have hgood:=(qpP (T.drop k.toNat)).good;rw[hp]at hv;have hc:=q9j (ET T,k) _ hv;refine pc ?_;simp only[qL0,jB2,jA5,jAm hk];revert hc hgood;generalize exS (T.drop k.toNat)=x;intro hgood hc;cases x with
  |bad r=>
   have hc':qbJ IP 209 [.ref 0 0 0] [(0,.box [.view 3 (ET T),.int .i64 k] false)]=some (.pan (.iface 202 (.agg [.int .i64 (pos T r)])),[(0,.box [.view 3 (ET T),.int .i64 (pos T r)] false)]):=hc;rw[hc'];rfl
  |ok e r=>
   have hc':qbJ IP 209 [.ref 0 0 0] [(0,.box [.view 3 (ET T),.int .i64 k] false)]=some (.ret (.agg [.int .i64 e.op,.int .i64 e.num,.str e.txt,.view 4 (EX e.args)]),[(0,.box [.view 3 (ET T),.int .i64 (pos T r)] false)]):=hc;have hn:e.nodes<=big:=by
    have h1:=hgood.2;have h2:=hl.length_le;simp only[wtM]at h1;simp only[big];omega
   have hv2:=qTA (e.op,e.num,e.txt,EX e.args) _ (qd7 hn);have hv':qbJ IP 56 [.agg [.int .i64 e.op,.int .i64 e.num,.str e.txt,.view 4 (EX e.args)]] []=some (.ret (.int .i64 (qaO e)),[]):=hv2;rw[hc'];simp only[hv',qqv];by_cases h0:qaO e=0
   ·rw[jAr h0,jB7.2 h0];rfl
   ·rw[jAm h0,jBj.2 h0];rfl
theorem q4m{T:List Tok}(hT:T.length<=1000000)(hb:∀t∈T,t.text.length<=1000000)(k:Int):paB IP 157 (ET T) k=true/\paV IP 157 (ET T) k=qL1 T k:=zlQ (qFm hT hb k)
end Go.Proofs.H16
namespace Go.Tk
open Go Go.Eng
def qoM(y:Int):Bool:=y%4==0&&(!(y%100==0)||y%400==0)
def mlS(y:Int)(m:Nat):Int:=if m=2 then(bif qoM y then 29 else 28)else if m=4\/m=6\/m=9\/m=11 then 30 else 31
def ylS(y:Int):Int:=bif qoM y then 366 else 365
def qbz:Nat->Int
 |0=>0
 |k+1=>qbz k+ylS (2000+k)
def qbA(y:Int):Nat->Int
 |0=>0
 |m+1=>qbA y m+mlS y (m+1)
theorem qpZ(y:Int)(m:Nat):28<=mlS y m/\mlS y m<=31:=by
 unfold mlS;cases qoM y<;>simp only[jAa,jA9]<;>(repeat' split)<;>omega
theorem qES(y:Int):365<=ylS y/\ylS y<=366:=by
 unfold ylS;cases qoM y<;>simp
theorem zeG(y:Int):qbA y 12=ylS y:=by
 simp only[qbA,mlS,ylS];cases qoM y<;>rfl
theorem qg0{a b:Nat}(h:a<=b):qbz a<=qbz b:=by
 induction b with
 |zero=>simp[Nat.le_zero.1 h]
 |succ b ih=>
  rcases jCb b a with h1|h1
  ·rw[show a=b+1 by omega];omega
  ·have:=qES (2000+b);have:=ih h1;simp only[qbz];omega
theorem qiI(y:Int){a b:Nat}(h:a<=b):qbA y a<=qbA y b:=by
 induction b with
 |zero=>simp[Nat.le_zero.1 h]
 |succ b ih=>
  rcases jCb b a with h1|h1
  ·rw[show a=b+1 by omega];omega
  ·have:=qpZ y (b+1);have:=ih h1;simp only[qbA];omega
theorem qFY:qbz 200=73049:=by decide +kernel
def IsCiv(n:Int)(c:Int×Int×Int):Prop:=∃k m:Nat,k<200/\m<12/\c.1=2000+k/\c.2.1=m+1/\1<=c.2.2/\c.2.2<=mlS c.1 (m+1)/\n=qbz k+qbA c.1 m+c.2.2-1
theorem IsCiv.year{n:Int}{k m:Nat}{y d:Int}(hm:m<12)(hy:y=2000+k)(h1:1<=d)(h2:d<=mlS y (m+1))(hn:n=qbz k+qbA y m+d-1):qbz k<=n/\n<qbz (k+1)/\qbA y m<=n-qbz k/\n-qbz k<qbA y (m+1):=by
 have c0:0<=qbA y m:=qiI y (jBa m);have c1:qbA y (m+1)<=qbA y 12:=qiI y hm;rw[zeG]at c1;have c2:qbA y (m+1)=qbA y m+mlS y (m+1):=rfl;have c3:qbz (k+1)=qbz k+ylS y:=by rw[hy];rfl
 omega
theorem qyp{f:Nat->Int}(hf:∀{a b:Nat},a<=b->f a<=f b){n:Int}{a b:Nat}(h1:f a<=n)(h2:n<f (a+1))(h3:f b<=n)(h4:n<f (b+1)):a=b:=by
 rcases Nat.lt_trichotomy a b with h|h|h
 ·have:=hf (show a+1<=b from h);omega
 ·exact h
 ·have:=hf (show b+1<=a from h);omega
theorem qoZ{f:Nat->Int}{n:Int}(h0:f 0<=n):∀{k:Nat},n<f k-> ∃a,a<k/\f a<=n/\n<f (a+1)
 |0,h=>by omega
 |k+1,h=>by
  rcases Int.lt_or_le n (f k)with h1|h1
  ·obtain⟨a,ha,h2⟩:=qoZ h0 h1;exact⟨a,by omega,h2⟩
  ·exact⟨k,by omega,h1,h⟩
theorem qMS{n:Int}{c c':Int×Int×Int}(h:IsCiv n c)(h':IsCiv n c'):c=c':=by
 obtain⟨y,mo,d⟩:=c;obtain⟨y',mo',d'⟩:=c';obtain⟨k,m,hk,hm,hy,hmo,h1,h2,hn⟩:=h;obtain⟨k',m',hk',hm',hy',hmo',h1',h2',hn'⟩:=h';simp only at hy hmo h1 h2 hn hy' hmo' h1' h2' hn';obtain⟨a1,a2,a3,a4⟩:=IsCiv.year hm hy h1 h2 hn;obtain⟨b1,b2,b3,b4⟩:=IsCiv.year hm' hy' h1' h2' hn';have hkk:k=k':=qyp (f:=qbz) qg0 a1 a2 b1 b2;subst hkk;have hyy:y=y':=by omega
 subst hyy;have hmm:m=m':=qyp (f:=qbA y) (qiI y) a3 a4 b3 b4;subst hmm;have e1:mo=mo':=by omega
 have e2:d=d':=by omega
 rw[e1,e2]
theorem qwS{n:Int}(h0:0<=n)(h1:n<=73048):∃c,IsCiv n c:=by
 obtain⟨k,hk,b1,b2⟩:=qoZ (f:=qbz) (n:=n) h0 (k:=200) (by rw[qFY];omega);have e:qbz (k+1)=qbz k+ylS (2000+k):=rfl;obtain⟨m,hm,c1,c2⟩:=qoZ (f:=qbA (2000+k)) (n:=n-qbz k) (by show(0:Int)<=_;omega) (k:=12) (by rw[zeG];omega);have e2:qbA (2000+k) (m+1)=qbA (2000+k) m+mlS (2000+k) (m+1):=rfl;exact⟨(2000+k,m+1,n-qbz k-qbA (2000+k) m+1),k,m,hk,hm,rfl,rfl,by simp only;omega,by simp only;omega,by simp only;omega⟩
noncomputable def qdT(n:Int):Int×Int×Int:=if h:0<=n/\n<=73048 then(qwS h.1 h.2).choose else(0,0,0)
theorem qsN{n:Int}(h0:0<=n)(h1:n<=73048):IsCiv n (qdT n):=by
 unfold qdT;rw[dif_pos ⟨h0,h1⟩];exact(qwS h0 h1).choose_spec
def qit(y m d:Int):Option Int:=if 2000<=y/\y<=2199/\1<=m/\m<=12/\1<=d/\d<=mlS y m.toNat then some (qbz (y-2000).toNat+qbA y (m-1).toNat+d-1)else none
theorem q9m{y m d n:Int}(h:qit y m d=some n):IsCiv n (y,m,d):=by
 unfold qit at h;split at h
 ·rename_i hc;obtain⟨h1,h2,h3,h4,h5,h6⟩:=hc;cases h;refine⟨(y-2000).toNat,(m-1).toNat,by omega,by omega,by simp only;omega,by simp only;omega,h5,?_,rfl⟩;rw[show(m-1).toNat+1=m.toNat by omega];exact h6
 ·cases h
theorem q9O{y m d n:Int}(h:IsCiv n (y,m,d)):qit y m d=some n:=by
 obtain⟨k,j,hk,hj,hy,hm,h1,h2,hn⟩:=h;simp only at hy hm h1 h2 hn;have e1:(y-2000).toNat=k:=by omega
 have e2:(m-1).toNat=j:=by omega
 have e3:m.toNat=j+1:=by omega
 unfold qit;rw[e1,e2,e3,jAr ⟨by omega,by omega,by omega,by omega,h1,h2⟩,hn]
theorem qKs{n:Int}{c:Int×Int×Int}(h:IsCiv n c):0<=n/\n<=73048:=by
 obtain⟨y,mo,d⟩:=c;obtain⟨k,m,hk,hm,hy,hmo,h1,h2,hn⟩:=h;simp only at hy hmo h1 h2 hn;obtain⟨a1,a2,a3,a4⟩:=IsCiv.year hm hy h1 h2 hn;have b0:0<=qbz k:=qg0 (jBa k);have b1:qbz (k+1)<=qbz 200:=qg0 hk;rw[qFY]at b1;omega
theorem qTT{y m d n:Int}(h:qit y m d=some n):qdT n=(y,m,d):=by
 have hi:=q9m h;have hv:=qKs hi;exact qMS (qsN hv.1 hv.2) hi
theorem zeA{n:Int}(h0:0<=n)(h1:n<=73048):qit (qdT n).1 (qdT n).2.1 (qdT n).2.2=some n:=q9O (qsN h0 h1)
theorem zeB{n:Int}(h0:0<=n)(h1:n<=73048):(0<=(qdT n).1/\(qdT n).1<=9223372036854775807)/\(0<=(qdT n).2.1/\(qdT n).2.1<=9223372036854775807)/\0<=(qdT n).2.2/\(qdT n).2.2<=9223372036854775807:=by
 obtain⟨k,m,hk,hm,hy,hmo,g1,g2,hn⟩:=qsN h0 h1;have:=qpZ (qdT n).1 (m+1);omega
end Go.Tk
namespace Go.Proofs.H16
open Go Go.Eng Go.Tk
set_option maxRecDepth 20000
theorem qVZ{y:Int}(h:0<=y):(br (y.tmod 4==0) (br (y.tmod 100 != 0) (some true) (some (y.tmod 400==0))) (some false))=some (qoM y):=by
 rw[Int.tmod_eq_emod_of_nonneg h,Int.tmod_eq_emod_of_nonneg h,Int.tmod_eq_emod_of_nonneg h];unfold qoM;cases(y%4==0)<;>cases h2:(y%100==0)<;>simp only[br_true,br_false,bne,h2,Bool.not_true,Bool.not_false,jBm,Bool.false_and,Bool.true_or,Bool.false_or]
theorem q2l(n:Int):(br (decide (n>=0)) (some (decide (n<=73048))) (some false))=some (decide (n>=0)&&decide (n<=73048)):=by cases decide (n>=0)<;>rfl
theorem m12{m:Nat}(h1:1<=m)(h2:m<=12):m=1\/m=2\/m=3\/m=4\/m=5\/m=6\/m=7\/m=8\/m=9\/m=10\/m=11\/m=12:=by omega
theorem qqi{x:Int}(h1:-1000000000<=x)(h2:x<=1000000000):IntKind.i64.wrap x=x:=wrap64 (by omega) (by omega)
theorem qG4{y:Int}(h:0<=y):qom y=some (qoM y):=by
 rw[qOe,qrT];exact(biS (qVZ h)).trans rfl
theorem qgq{y:Int}(h:0<=y){m:Nat}(h1:1<=m)(h2:m<=12):qiQ y (m:Int)=some (mlS y m):=by
 rw[qNG,qrl];by_cases hm:m=2
 ·subst hm;rw[qG4 h];refine(biS (v:=qoM y) rfl).trans ?_;cases hl:qoM y
  ·refine(brF rfl).trans ?_;show some (28:Int)=some (mlS y 2);unfold mlS;rw[hl];rfl
  ·refine(brT rfl).trans ?_;show some (29:Int)=some (mlS y 2);unfold mlS;rw[hl];rfl
 ·have hb:((m:Int)==2)=false:=by rw[jBj];omega
  refine(biS (v:=false) (by rw[hb];rfl)).trans ((brF rfl).trans ?_);rcases m12 h1 h2 with rfl|rfl|rfl|rfl|rfl|rfl|rfl|rfl|rfl|rfl|rfl|rfl
  ·rfl
  ·exact absurd rfl hm
  all_goals rfl
def zuz(x0:Int):Int:=bif decide (x0>2100)then IntKind.i64.wrap (IntKind.i64.wrap (365*IntKind.i64.wrap (x0-2000))+IntKind.i64.wrap (IntKind.i64.wrap ((IntKind.i64.wrap (IntKind.i64.wrap (x0-2000)+3)).tdiv 4)-1))
 else IntKind.i64.wrap (IntKind.i64.wrap (365*IntKind.i64.wrap (x0-2000))+IntKind.i64.wrap ((IntKind.i64.wrap (IntKind.i64.wrap (x0-2000)+3)).tdiv 4))
theorem zcl:((List.range 201).all fun k=>zuz (2000+(k:Nat))==qbz k)=true:=by decide +kernel
theorem qiT{k:Nat}(h:k<=200):qmb (2000+(k:Int))=some (qbz k):=by
 have:=jAb.1 zcl k (jBq.2 (by omega));rw[jB7]at this;rw[qNX,qrC,<-this];unfold zuz;cases decide ((2000+(k:Int))>2100)<;>rfl
theorem qlF{k:Nat}(h:k<=200):0<=qbz k/\qbz k<=73049:=by
 have h1:=qg0 (jBa k);have h2:=qg0 h;rw[qFY]at h2;exact⟨h1,h2⟩
theorem qjr(y:Int){m:Nat}(h:m<=12):0<=qbA y m/\qbA y m<=366:=by
 have h1:=qiI y (jBa m);have h2:=qiI y h;rw[zeG]at h2;have:=qES y;exact⟨h1,by omega⟩
theorem zp8{y:Int}(h:0<=y){M:Nat}(hM:M<12):∀(k j:Nat) (a:Int),j+k=M->0<=a->a<=100000+qbA y j->qaf (fun v=>(qqF v).ev) (y,((M+1:Nat):Int),a,((j+1:Nat):Int))=some (0,y,((M+1:Nat):Int),a+(qbA y M-qbA y j),((M+1:Nat):Int)):=by
 intro k
 induction k with
 |zero=>
  intro j a hj h0 h1;have e:j=M:=by omega
  subst e;rw[qag (j:=0) ?_]
  ·rw[show a+(qbA y j-qbA y j)=a by omega]
  ·show(qin y ((j+1:Nat):Int) a ((j+1:Nat):Int)).ev=_;rw[qin];exact(brF (by simp)).trans rfl
 |succ k ih=>
  intro j a hj h0 h1;have hc:=qjr y (m:=j+1) (by omega);have hm:=qpZ y (j+1);have e1:qbA y (j+1)=qbA y j+mlS y (j+1):=rfl;rw[qao (v':=(y,((M+1:Nat):Int),a+mlS y (j+1),((j+1+1:Nat):Int))) ?_]
  ·rw[ih (j+1) _ (by omega) (by omega) (by omega),show a+mlS y (j+1)+(qbA y M-qbA y (j+1))=a+(qbA y M-qbA y j) by omega]
  ·show(qin y ((M+1:Nat):Int) a ((j+1:Nat):Int)).ev=_;rw[qin];refine(brT (jA8 (by omega))).trans ((biS (qgq h (by omega) (by omega))).trans ?_);show some (Rd.next (y,((M+1:Nat):Int),IntKind.i64.wrap (a+mlS y (j+1)),IntKind.i64.wrap (((j+1:Nat):Int)+1)))=_;rw[qqi (by omega) (by omega),qqi (by omega) (by omega)];rfl
def qwr(y m d:Int):Int×Int:=match qit y m d with
 |some n=>(n,0)
 |none=>(0,1)
theorem qjJ{y m d:Int}(h:¬(2000<=y/\y<=2199/\1<=m/\m<=12/\1<=d/\d<=mlS y m.toNat)):qwr y m d=(0,1):=by
 unfold qwr qit;rw[jAm h]
theorem qTS{k M:Nat}{d:Int}(hk:k<200)(hM:M<12)(h1:1<=d)(h2:d<=mlS (2000+k) (M+1)):qwr (2000+k) ((M+1:Nat):Int) d=(qbz k+qbA (2000+k) M+d-1,0):=by
 have:=q9O (y:=2000+k) (m:=((M+1:Nat):Int)) (d:=d) (n:=qbz k+qbA (2000+k) M+d-1) ⟨k,M,hk,hM,rfl,by simp,h1,h2,rfl⟩;unfold qwr;rw[this]
theorem qHa(y m d:Int):qtC y m d=some (qwr y m d):=by
 rw[qOv,qsf];by_cases hy:2000<=y/\y<=2199
 ·have b0:br (decide (y<2000)) (some true) (some (decide (y>2199)))=some false:=by rw[jAe (by omega),jAe (by omega)];rfl
  refine(biS b0).trans ?_;by_cases hm:1<=m/\m<=12
  ·have b1:br false (some true) (some (decide (m<1)))=some false:=by rw[jAe (by omega)];rfl
   have b2:br false (some true) (some (decide (m>12)))=some false:=by rw[jAe (by omega)];rfl
   refine(biS b1).trans ((biS b2).trans ?_);obtain⟨k,rfl⟩:∃k:Nat,y=2000+k:=⟨(y-2000).toNat,by omega⟩;obtain⟨M,rfl⟩:∃M:Nat,m=((M+1:Nat):Int):=⟨(m-1).toNat,by omega⟩;have hlen:=qgq (y:=2000+k) (by omega) (m:=M+1) (by omega) (by omega);by_cases hd:1<=d
   ·have b3:br false (some true) (some (decide (d<1)))=some false:=by rw[jAe (by omega)];rfl
    refine(biS b3).trans ?_;rw[hlen];refine(biS (v:=decide (d>mlS (2000+k) (M+1))) rfl).trans ?_;by_cases hd2:d<=mlS (2000+k) (M+1)
    ·have hm:=qpZ (2000+k) (M+1);have hb:=qlF (k:=k) (by omega);have hc:=qjr (2000+k) (m:=M) (by omega);refine(brF (jAe (by omega))).trans ((biS (qiT (by omega))).trans ?_);rw[qTS (by omega) (by omega) hd hd2];have e:IntKind.i64.wrap (IntKind.i64.wrap (qbz k+d)-1)=qbz k+d-1:=by
      rw[qqi (x:=qbz k+d) (by omega) (by omega),qqi (by omega) (by omega)]
     have hl:=zp8 (y:=2000+k) (by omega) (M:=M) (by omega) M 0 (qbz k+d-1) (by omega) (by omega) (by show _<=100000+(0:Int);omega);refine(biS (v:=(2000+(k:Int),((M+1:Nat):Int),qbz k+d-1+(qbA (2000+k) M-qbA (2000+k) 0),((M+1:Nat):Int))) ?_).trans ?_
     ·rw[e,qxQ];show pj 0 (qaf _ (2000+(k:Int),((M+1:Nat):Int),qbz k+d-1,((0+1:Nat):Int)))=_;rw[hl];rfl
     ·show some (qbz k+d-1+(qbA (2000+k) M-qbA (2000+k) 0),(0:Int))=_;rw[show qbA (2000+(k:Int)) 0=0 from rfl,show qbz k+d-1+(qbA (2000+(k:Int)) M-0)=qbz k+qbA (2000+(k:Int)) M+d-1 by omega]
    ·rw[qjJ fun h=>hd2 (by have:=h.2.2.2.2.2;rw[show((M+1:Nat):Int).toNat=M+1 by omega]at this;exact this)];exact(brT (jA8 (by omega))).trans rfl
   ·have b3:br false (some true) (some (decide (d<1)))=some true:=by rw[jA8 (by omega)];rfl
    rw[qjJ fun h=>hd h.2.2.2.2.1];exact(biS b3).trans ((biS (v:=true) rfl).trans ((brT rfl).trans rfl))
  ·rw[qjJ fun h=>hm ⟨h.2.2.1,h.2.2.2.1⟩];have:∃c,br false (some true) (some (decide (m<1)))=some c/\br c (some true) (some (decide (m>12)))=some true:=by
    by_cases h1:m<1
    ·exact⟨true,by rw[jA8 h1];rfl,rfl⟩
    ·exact⟨false,by rw[jAe h1];rfl,by rw[jA8 (by omega)];rfl⟩
   obtain⟨c,c1,c2⟩:=this;exact(biS c1).trans ((biS c2).trans ((biS (v:=true) rfl).trans ((biS (v:=true) rfl).trans ((brT rfl).trans rfl))))
 ·rw[qjJ fun h=>hy ⟨h.1,h.2.1⟩];have b0:br (decide (y<2000)) (some true) (some (decide (y>2199)))=some true:=by
   by_cases h1:y<2000
   ·rw[jA8 h1];rfl
   ·rw[jAe h1,jA8 (by omega)];rfl
  exact(biS b0).trans ((biS (v:=true) rfl).trans ((biS (v:=true) rfl).trans ((biS (v:=true) rfl).trans ((biS (v:=true) rfl).trans ((brT rfl).trans rfl)))))
theorem qtj(n:Int):qjR n=some (decide (n>=0)&&decide (n<=73048)):=by
 rw[qw5,qnQ];exact(biS (q2l n)).trans rfl
theorem zll{n:Int}{k:Nat}(hk:k<200)(h1:qbz k<=n)(h2:n<qbz (k+1)):∀(j a:Nat),a+j=k->qaf (fun v=>(qqB v).ev) (n,2000+(a:Int))=some (0,n,2000+(k:Int)):=by
 have hn:0<=n/\n<=73048:=by
  have q1:=qlF (k:=k) (by omega);have q2:=qlF (k:=k+1) (by omega);omega
 intro j
 induction j with
 |zero=>
  intro a ha;have e:a=k:=by omega
  subst e;refine qag ?_;show(qif n (2000+(a:Int))).ev=_;rw[qif,qqi (x:=2000+(a:Int)+1) (by omega) (by omega),show 2000+(a:Int)+1=2000+((a+1:Nat):Int) by omega];exact(biS (qiT (k:=a+1) (by omega))).trans ((brF (jAe (show ¬qbz (a+1)<=n by omega))).trans rfl)
 |succ j ih=>
  intro a ha;have hb:=qg0 (show a+1<=k by omega);rw[qao (v':=(n,2000+((a+1:Nat):Int))) ?_]
  ·exact ih (a+1) (by omega)
  ·show(qif n (2000+(a:Int))).ev=_;rw[qif,qqi (x:=2000+(a:Int)+1) (by omega) (by omega),show 2000+(a:Int)+1=2000+((a+1:Nat):Int) by omega];exact(biS (qiT (k:=a+1) (by omega))).trans ((brT (jA8 (show qbz (a+1)<=n by omega))).trans rfl)
theorem zlm{y r:Int}(hy:0<=y){M:Nat}(hM:M<12)(h1:qbA y M<=r)(h2:r<qbA y (M+1)):∀(k j:Nat),j+k=M->qaf (fun v=>(qqC v).ev) (r-qbA y j,y,((j+1:Nat):Int))=some (0,r-qbA y M,y,((M+1:Nat):Int)):=by
 have hr:0<=r/\r<=366:=by
  have q1:=qjr y (m:=M) (by omega);have q2:=qjr y (m:=M+1) (by omega);omega
 intro k
 induction k with
 |zero=>
  intro j hj;have e:j=M:=by omega
  subst e;have e1:qbA y (j+1)=qbA y j+mlS y (j+1):=rfl;refine qag ?_;show(qig (r-qbA y j) y ((j+1:Nat):Int)).ev=_;rw[qig];exact(biS (qgq hy (by omega) (by omega))).trans ((brF (jAe (by omega))).trans rfl)
 |succ k ih=>
  intro j hj;have hc:=qiI y (show j+1<=M by omega);have hc0:=qjr y (m:=j) (by omega);have hm:=qpZ y (j+1);have e1:qbA y (j+1)=qbA y j+mlS y (j+1):=rfl;rw[qao (v':=(r-qbA y (j+1),y,((j+1+1:Nat):Int))) ?_]
  ·exact ih (j+1) (by omega)
  ·show(qig (r-qbA y j) y ((j+1:Nat):Int)).ev=_;rw[qig];refine(biS (qgq hy (by omega) (by omega))).trans ((brT (jA8 (by omega))).trans ((biS (qgq hy (by omega) (by omega))).trans ?_));show some (Rd.next (IntKind.i64.wrap (r-qbA y j-mlS y (j+1)),y,IntKind.i64.wrap (((j+1:Nat):Int)+1)))=_;rw[qqi (by omega) (by omega),qqi (by omega) (by omega),show r-qbA y j-mlS y (j+1)=r-qbA y (j+1) by omega];rfl
theorem qTq:∀a:Nat,qbz a<=366*a
 |0=>by decide
 |a+1=>by
  have:=qTq a;have:=qES (2000+a);simp only[qbz];omega
theorem qGL(n:Int):qti n=some (qdT n):=by
 rw[qNW,qrB];refine(biS (qtj n)).trans ?_;by_cases hn:0<=n/\n<=73048
 ·have hv:(decide (n>=0)&&decide (n<=73048))=true:=by rw[jA8 hn.1,jA8 hn.2];rfl
  refine(brF (by rw[hv];rfl)).trans ?_;obtain⟨k,M,hk,hM,hy,hmo,h1,h2,he⟩:=qsN hn.1 hn.2;obtain⟨a1,a2,a3,a4⟩:=IsCiv.year hM hy h1 h2 he;have hciv:qdT n=(2000+(k:Int),((M+1:Nat):Int),n-qbz k-qbA (2000+(k:Int)) M+1):=by
   rw[hy]at he;refine Prod.ext hy (Prod.ext (by rw[hmo];simp) ?_);show(qdT n).2.2=n-qbz k-qbA (2000+(k:Int)) M+1;omega
  rw[hciv];rw[hy]at a3 a4;have hg:n.tdiv 366=((n.toNat / 366:Nat):Int):=by
   rw[Int.tdiv_eq_ediv_of_nonneg hn.1];omega
  have hgk:n.toNat / 366<=k:=by
   have q:=qTq (n.toNat / 366);rcases jCb k (n.toNat / 366)with hlt|hge
   ·have:=qg0 (show k+1<=n.toNat / 366 from hlt);omega
   ·exact hge
  have e1:IntKind.i64.wrap (2000+IntKind.i64.wrap (n.tdiv 366))=2000+((n.toNat / 366:Nat):Int):=by
   rw[hg,qqi (x:=((n.toNat / 366:Nat):Int)) (by omega) (by omega),qqi (by omega) (by omega)]
  have hl0:=zll hk a1 a2 (k-n.toNat / 366) (n.toNat / 366) (by omega);refine(biS (v:=(n,2000+(k:Int))) ?_).trans ?_
  ·rw[e1,qxv,hl0];rfl
  ·refine(biS (qiT (k:=k) (by omega))).trans ?_;have hl1:=zlm (y:=2000+(k:Int)) (r:=n-qbz k) (by omega) hM a3 a4 M 0 (by omega);have hb:=qlF (k:=k) (by omega);have hc:=qjr (2000+(k:Int)) (m:=M) (by omega);refine(biS (v:=(n-qbz k-qbA (2000+(k:Int)) M,2000+(k:Int),((M+1:Nat):Int))) ?_).trans ?_
   ·rw[qxw];show pj 0 (qaf _ (IntKind.i64.wrap (n-qbz k),2000+(k:Int),((0+1:Nat):Int)))=_;rw[qqi (by omega) (by omega)];have e0:n-qbz k-qbA (2000+(k:Int)) 0=n-qbz k:=by show n-qbz k-0=_;omega
    rw[e0]at hl1;rw[hl1];rfl
   ·show some (2000+(k:Int),((M+1:Nat):Int),IntKind.i64.wrap (n-qbz k-qbA (2000+(k:Int)) M+1))=_;rw[qqi (by omega) (by omega)]
 ·have hv:(decide (n>=0)&&decide (n<=73048))=false:=by
   by_cases h0:n>=0
   ·rw[jAe (p:=n<=73048) (by omega),Bool.and_false]
   ·rw[jAe h0];rfl
  refine(brT (by rw[hv];rfl)).trans ?_;unfold qdT;rw[dif_neg hn];rfl
end Go.Proofs.H16
namespace Go.Tk
open Go Go.Eng
set_option maxRecDepth 20000
structure Tr where
 (from_ ppm:Int)
def Tr.av(x:Tr):AV:=.agg [.int .i64 x.from_,.int .i64 x.ppm]
abbrev ETr(l:List Tr):List AV:=l.map Tr.av
abbrev zuL:List CS:=[CS.int IntKind.i64,CS.int IntKind.i64]
theorem zvb(h:Tr):qqc zuL (qai h.av)=true:=rfl
theorem zn1{l:List Tr}{n:Nat}(h:n<l.length):qaH zuL (ETr l) (n:Int)=true:=qgF zvb h
theorem zn3{l:List Tr}{n:Nat}(h:n<l.length):intOf (cellAt (ETr l) (n:Int) 0)=l[n].from_:=by rw[qaF h];rfl
theorem zn4{l:List Tr}{n:Nat}(h:n<l.length):intOf (cellAt (ETr l) (n:Int) 1)=l[n].ppm:=by rw[qaF h];rfl
structure Cu where
 (code:Bs) (digits:Int)
def Cu.av(x:Cu):AV:=.agg [.str x.code,.int .i64 x.digits]
abbrev EC(l:List Cu):List AV:=l.map Cu.av
theorem hkC(h:Cu):qqc ksV (qai h.av)=true:=rfl
theorem okC{l:List Cu}{n:Nat}(h:n<l.length):qaH ksV (EC l) (n:Int)=true:=qgF hkC h
structure Cal where
 (name:Bs) (wk hol:List AV)
def Cal.av(x:Cal):AV:=.agg [.str x.name,.view 1 x.wk,.view 1 x.hol]
abbrev EK(l:List Cal):List AV:=l.map Cal.av
structure Fe where
 (name:Bs) (event:Int) (when_ amount:Ex)
def Fe.av(x:Fe):AV:=.agg [.str x.name,.int .i64 x.event,.int .i64 x.when_.op,.int .i64 x.when_.num,.str x.when_.txt,.view 4 (EX x.when_.args),.int .i64 x.amount.op,.int .i64 x.amount.num,.str x.amount.txt,.view 4 (EX x.amount.args)]
abbrev EF(l:List Fe):List AV:=l.map Fe.av
abbrev ksF:List CS:=[CS.str,CS.int .i64,CS.int .i64,CS.int .i64,CS.str,CS.slice 4,CS.int .i64,CS.int .i64,CS.str,CS.slice 4]
theorem hkF(h:Fe):qqc ksF (qai h.av)=true:=rfl
theorem okF{l:List Fe}{n:Nat}(h:n<l.length):qaH ksF (EF l) (n:Int)=true:=qgF hkF h
theorem qf0{l:List Fe}{n:Nat}(h:n<l.length):strOf (cellAt (EF l) (n:Int) 0)=l[n].name:=by rw[qaF h];rfl
theorem qf1{l:List Fe}{n:Nat}(h:n<l.length):intOf (cellAt (EF l) (n:Int) 1)=l[n].event:=by rw[qaF h];rfl
theorem qf2{l:List Fe}{n:Nat}(h:n<l.length):intOf (cellAt (EF l) (n:Int) 2)=l[n].when_.op:=by rw[qaF h];rfl
theorem qf3{l:List Fe}{n:Nat}(h:n<l.length):intOf (cellAt (EF l) (n:Int) 3)=l[n].when_.num:=by rw[qaF h];rfl
theorem qf4{l:List Fe}{n:Nat}(h:n<l.length):strOf (cellAt (EF l) (n:Int) 4)=l[n].when_.txt:=by rw[qaF h];rfl
theorem qf5{l:List Fe}{n:Nat}(h:n<l.length):qaq (cellAt (EF l) (n:Int) 5)=EX l[n].when_.args:=by rw[qaF h];rfl
theorem qf6{l:List Fe}{n:Nat}(h:n<l.length):intOf (cellAt (EF l) (n:Int) 6)=l[n].amount.op:=by rw[qaF h];rfl
theorem qf7{l:List Fe}{n:Nat}(h:n<l.length):intOf (cellAt (EF l) (n:Int) 7)=l[n].amount.num:=by rw[qaF h];rfl
theorem qf8{l:List Fe}{n:Nat}(h:n<l.length):strOf (cellAt (EF l) (n:Int) 8)=l[n].amount.txt:=by rw[qaF h];rfl
theorem qf9{l:List Fe}{n:Nat}(h:n<l.length):qaq (cellAt (EF l) (n:Int) 9)=EX l[n].amount.args:=by rw[qaF h];rfl
structure Ru where
 (name:Bs) (window:Int) (amount:Ex)
def Ru.av(x:Ru):AV:=.agg [.str x.name,.int .i64 x.window,.int .i64 x.amount.op,.int .i64 x.amount.num,.str x.amount.txt,.view 4 (EX x.amount.args)]
abbrev ER(l:List Ru):List AV:=l.map Ru.av
abbrev ksR:List CS:=[CS.str,CS.int .i64,CS.int .i64,CS.int .i64,CS.str,CS.slice 4]
theorem hkR(h:Ru):qqc ksR (qai h.av)=true:=rfl
theorem okR{l:List Ru}{n:Nat}(h:n<l.length):qaH ksR (ER l) (n:Int)=true:=qgF hkR h
theorem qr0{l:List Ru}{n:Nat}(h:n<l.length):strOf (cellAt (ER l) (n:Int) 0)=l[n].name:=by rw[qaF h];rfl
theorem qr1{l:List Ru}{n:Nat}(h:n<l.length):intOf (cellAt (ER l) (n:Int) 1)=l[n].window:=by rw[qaF h];rfl
theorem qr2{l:List Ru}{n:Nat}(h:n<l.length):intOf (cellAt (ER l) (n:Int) 2)=l[n].amount.op:=by rw[qaF h];rfl
theorem qr3{l:List Ru}{n:Nat}(h:n<l.length):intOf (cellAt (ER l) (n:Int) 3)=l[n].amount.num:=by rw[qaF h];rfl
theorem qr4{l:List Ru}{n:Nat}(h:n<l.length):strOf (cellAt (ER l) (n:Int) 4)=l[n].amount.txt:=by rw[qaF h];rfl
theorem qr5{l:List Ru}{n:Nat}(h:n<l.length):qaq (cellAt (ER l) (n:Int) 5)=EX l[n].amount.args:=by rw[qaF h];rfl
structure In where
 (tiers:List Tr) (marg:Bool) (basis mode:Int) (keep:Bool)
structure Pr where
 (name cur cal:Bs) (from_ every over tax:Int) (cr de:In) (fees:List Fe) (rules:List Ru)
theorem qfN(a b:Bool):br a (some true) (some b)=some (a||b):=by cases a<;>rfl
theorem q9c(a b:Bool):br a (some b) (some false)=some (a&&b):=by cases a<;>rfl
def qlB{α:Type}(eq:α->α->Bool)(a b:List α)(i:Nat):Bool:=match a[i]?,b[i]? with
 |some x,some y=>!eq x y
 |_,_=>false
def eqT(x y:Tr):Bool:=x.from_==y.from_&&(x.ppm==y.ppm&&true)
def qjw(a b:In):Bool:=bif a.tiers.length==b.tiers.length then !(List.range a.tiers.length).any (qlB eqT a.tiers b.tiers)&&((a.marg==b.marg)&&((a.basis==b.basis)&&((a.mode==b.mode)&&(a.keep==b.keep))))else false
mutual
def qeS:Ex->Ex->Bool
 | .mk o n s l,.mk o' n' s' l'=>(o==o')&&((n==n')&&((s==s')&&qyo l l'))
def qyo:List Ex->List Ex->Bool
 | [],[]=>true
 |x::l,y::m=>qeS x y&&qyo l m
 |_,_=>false
end
def qja{α:Type}(eq:α->α->Bool)(a b:List α):Bool:=bif a.length==b.length then !(List.range a.length).any (qlB eq a b)else false
theorem q4A(p:Nat->Bool)(n:Nat):(List.range (n+1)).any p=(p 0||(List.range n).any fun i=>p (i+1)):=by
 rw[List.range_succ_eq_map,List.any_cons,List.any_map];rfl
theorem qkm:∀a b:List Ex,qyo a b=qja qeS a b
 | [],[]=>rfl
 | [],y::m=>by simp[qyo,qja]
 |x::l,[]=>by simp[qyo,qja]
 |x::l,y::m=>by
  rw[qyo,qkm l m];have h0:qlB qeS (x::l) (y::m) 0= !qeS x y:=by simp[qlB]
  have hs:(fun i=>qlB qeS (x::l) (y::m) (i+1))=qlB qeS l m:=by funext i;simp[qlB]
  simp only[qja,jA0,q4A,h0,hs];by_cases h:l.length=m.length
  ·simp[h]
  ·have e1:(l.length==m.length)=false:=by simpa using h
   have e2:(l.length+1==m.length+1)=false:=by simpa using h
   rw[e1,e2];simp
def qhc(x y:Fe):Bool:=(x.name==y.name)&&((x.event==y.event)&&(qeS x.when_ y.when_&&qeS x.amount y.amount))
def qhd(x y:Ru):Bool:=(x.name==y.name)&&((x.window==y.window)&&qeS x.amount y.amount)
def qp5(p q:Pr):Bool:=bif (!(p.name==q.name))||((!(p.cur==q.cur))||((!(p.cal==q.cal))||((p.from_ != q.from_)||((p.every != q.every)||((p.over != q.over)||(p.tax != q.tax))))))then false else
 bif !qjw p.cr q.cr || !qjw p.de q.de then false else qja qhc p.fees q.fees&&qja qhd p.rules q.rules
theorem qoX{α:Type}{eq:α->α->Bool}{l:List α}(h:∀x∈l,eq x x=true):qja eq l l=true:=by
 have:(List.range l.length).any (qlB eq l l)=false:=by
  rw[List.any_eq_false];intro i hi;have hi':i<l.length:=by simpa using hi
  simp[qlB,jAh hi',h _ (jAi hi')]
 simp[qja,this]
theorem qyn:∀e:Ex,qeS e e=true:=by
 intro e
 induction e using Ex.ind with
 |h o n s l ih=>rw[qeS,qkm,qoX ih];simp
theorem qIg(x:Fe):qhc x x=true:=by simp[qhc,qyn]
theorem qIj(x:Ru):qhd x x=true:=by simp[qhd,qyn]
theorem qIi(x:In):qjw x x=true:=by
 have:(List.range x.tiers.length).any (qlB eqT x.tiers x.tiers)=false:=by
  rw[List.any_eq_false];intro i hi;have hi':i<x.tiers.length:=by simpa using hi
  simp[qlB,jAh hi',eqT]
 simp[qjw,this]
theorem qmB(p:Pr):qp5 p p=true:=by
 simp[qp5,qIi,qoX (eq:=qhc) fun x _=>qIg x,qoX (eq:=qhd) fun x _=>qIj x]
end Go.Tk
namespace Go.Tk
open Go Go.Eng
inductive Pz (α:Type) where
 |bad (r:List Tok) (e:Int)
 |ok (a:α) (r:List Tok)
def Pz.bnd{α β:Type}(x:Pz α)(f:α->List Tok->Pz β):Pz β:=match x with
 | .bad r e=>.bad r e
 | .ok a r=>f a r
def qc2(s:Bs)(l:List Tok):Pz Unit:=bif isW s l then .ok () l.tail else .bad l 2
def qcA:List Bs->List Tok->Pz Unit
 | [],l=>.ok () l
 |s::ss,l=>(qc2 s l).bnd fun _ l=>qcA ss l
def qcZ(k:Int):List Tok->Pz Bs
 | []=>.bad [] 2
 |t::r=>bif t.kind==k then .ok t.text r else .bad (t::r) 2
def quz(l:List Tok):Pz Int:=match numAt l with
 |some n=>.ok n l.tail
 |none=>.bad l 2
def qng:List Tok->Pz Int
 | []=>.bad [] 2
 |t::r=>bif t.kind==3&&(qbm t.text).2==0 then .ok (qbm t.text).1 r else .bad (t::r) 2
def qgS:Nat->List Bs->List Tok->Pz Int
 |_,[],l=>.bad l 2
 |i,s::ss,l=>bif isW s l then .ok ((i+1:Nat):Int) l.tail else qgS (i+1) ss l
def qlD(l:List Tok):Pz Tr:=(quz l).bnd fun a l=>(qc2 [58] l).bnd fun _ l=>(qng l).bnd fun p l=>(qc2 [59] l).bnd fun _ l=>.ok ⟨a,p⟩ l
def qcV:Nat->List Tr->List Tok->Pz (List Tr)
 |0,_,l=>.bad l 2
 |n+1,acc,l=>bif isW [36] l then(qlD l.tail).bnd fun t l=>qcV n (acc++[t]) l else .ok acc l
def qgj:List Bs:=[[97,99,116,51,54,48],[97,99,116,51,54,53],[97,99,116,117,97,108],[116,104,105,114,116,121]]
def qgE:List Bs:=[[100,111,119,110],[117,112],[102,108,111,111,114],[99,101,105,108],[104,97,108,102,95,117,112],[104,97,108,102,95,101,118,101,110]]
def qdh:List Bs:=[[109,111,110,116,104],[100,101,98,105,116],[114,101,116,117,114,110],[99,108,111,115,101]]
def qck:List Bs:=[[115,105,110,103,108,101],[100,97,105,108,121],[109,111,110,116,104,108,121]]
noncomputable def qGm(exS:List Tok->Rs)(l:List Tok):Pz Ex:=match exS l with
 | .bad r=>.bad r 2
 | .ok e r=>bif qaO e==0 then .ok e r else .bad l (qaO e)
def qsK(s:Bs):Option Bs:=if s.length=3/\s.all (at8 fun c=>decide (c>=97)&&decide (c<=122))=true then some (s.map fun c=>c-32)else none
def qgl(l:List Tok):Pz Bs:=(qcZ 1 l).bnd fun s r=>match qsK s with
 |some c=>.ok c r
 |none=>.bad l 2
def qI1(day:Int->Int->Int->Option Int)(l:List Tok):Pz Int:=(quz l).bnd fun y r=>(qc2 [47] r).bnd fun _ r=>(quz r).bnd fun m r=>(qc2 [47] r).bnd fun _ r=>(quz r).bnd fun d r=>match day y m d with
 |some n=>.ok n r
 |none=>.bad l 1
def qKr(w:Bs)(l:List Tok):Pz In:=(qc2 w l).bnd fun _ r=>(qgS 0 [[119,104,111,108,101],[109,97,114,103,105,110,97,108]] r).bnd fun k r=>(qgS 0 qgj r).bnd fun b r=>(qgS 0 qgE r).bnd fun m r=>(qgS 0 [[100,114,111,112],[107,101,101,112]] r).bnd fun q r=>(qc2 [123] r).bnd fun _ r=>
 (qcV (r.length+1) [] r).bnd fun ts r=>(qc2 [125] r).bnd fun _ r=>.ok ⟨ts,k==2,b,m,q==2⟩ r
noncomputable def qHb(exS:List Tok->Rs)(l:List Tok):Pz Fe:=(qcZ 1 l).bnd fun n r=>(qgS 0 qdh r).bnd fun e r=>(qc2 [119,104,101,110] r).bnd fun _ r=>(qGm exS r).bnd fun w r=>(qc2 [97,109,111,117,110,116,95,111,102] r).bnd fun _ r=>(qGm exS r).bnd fun a r=>(qc2 [59] r).bnd fun _ r=>.ok ⟨n,e,w,a⟩ r
noncomputable def qi9(exS:List Tok->Rs)(l:List Tok):Pz Ru:=(qcZ 1 l).bnd fun n r=>(qgS 0 qck r).bnd fun w r=>(qGm exS r).bnd fun a r=>(qc2 [59] r).bnd fun _ r=>.ok ⟨n,w,a⟩ r
noncomputable def qdU{α:Type}(w:Bs)(f:List Tok->Pz α):Nat->List α->List Tok->Pz (List α)
 |0,_,l=>.bad l 2
 |n+1,acc,l=>bif isW w l then(f l.tail).bnd fun x r=>qdU w f n (acc++[x]) r else .ok acc l
noncomputable def qhG(exS:List Tok->Rs)(day:Int->Int->Int->Option Int)(l:List Tok):Pz Pr:=
 (qc2 [112,114,111,100,117,99,116] l).bnd fun _ r=>(qcZ 1 r).bnd fun nm r=>(qcA [[123],[99,117,114,114,101,110,99,121]] r).bnd fun _ r=>(qgl r).bnd fun cu r=>(qcA [[59],[99,97,108,101,110,100,97,114]] r).bnd fun _ r=>(qcZ 1 r).bnd fun ca r=>
 (qcA [[59],[102,114,111,109]] r).bnd fun _ r=>(qI1 day r).bnd fun fr r=>(qcA [[59],[101,118,101,114,121]] r).bnd fun _ r=>(quz r).bnd fun ev r=>(qcA [[59],[111,118,101,114,100,114,97,102,116],[36]] r).bnd fun _ r=>(quz r).bnd fun ov r=>
 (qcA [[59],[116,97,120]] r).bnd fun _ r=>(qng r).bnd fun tx r=>(qc2 [59] r).bnd fun _ r=>(qKr [99,114,101,100,105,116] r).bnd fun cr r=>(qKr [100,101,98,105,116] r).bnd fun de r=>
 (qdU [102,101,101] (qHb exS) (r.length+1) [] r).bnd fun fs r=>(qdU [108,105,109,105,116] (qi9 exS) (r.length+1) [] r).bnd fun rs r=>(qc2 [125] r).bnd fun _ r=>
 match r with
 | []=>.ok ⟨nm,cu,ca,fr,ev,ov,tx,cr,de,fs,rs⟩ []
 |t::r=>.bad (t::r) 2
def lnT(n:Int)(l:List (Int×Bs)):List Tok:=l.map fun x=>⟨x.1,n,x.2⟩
def qpX(s:Bs):Bs:=s.map fun c=>c+32
def qwu(l:List Bs)(n:Int):Bs:=(l[(n-1).toNat]?).getD []
def qpC(n:Int)(t:Tr):List Tok:=lnT n [(4,[36]),(2,Lib.itoa t.from_),(4,[58]),(3,qiu t.ppm.toNat),(4,[59])]
def qcU:Int->List Tr->List Tok
 |_,[]=>[]
 |n,t::l=>qpC n t++qcU (n+1) l
def inT(w:Bs)(n:Int)(x:In):List Tok:=
 lnT n [(5,w),(5,bif x.marg then[109,97,114,103,105,110,97,108]else[119,104,111,108,101]),(5,qwu qgj x.basis),(5,qwu qgE x.mode),(5,bif x.keep then[107,101,101,112]else[100,114,111,112]),(4,[123])]++(qcU (n+1) x.tiers++lnT (n+1+x.tiers.length) [(4,[125])])
def exT(n:Int)(e:Ex):List Tok:=(wrB e).map fun t=>⟨t.kind,n,t.text⟩
def feT(n:Int)(x:Fe):List Tok:=lnT n [(5,[102,101,101]),(1,x.name),(5,qwu qdh x.event),(5,[119,104,101,110])]++(exT n x.when_++(lnT n [(5,[97,109,111,117,110,116,95,111,102])]++(exT n x.amount++lnT n [(4,[59])])))
def ruT(n:Int)(x:Ru):List Tok:=lnT n [(5,[108,105,109,105,116]),(1,x.name),(5,qwu qck x.window)]++(exT n x.amount++lnT n [(4,[59])])
def qcB{α:Type}(f:Int->α->List Tok):Int->List α->List Tok
 |_,[]=>[]
 |n,x::l=>f n x++qcB f (n+1) l
def qdS(civ:Int->Int×Int×Int)(p:Pr):List Tok:=
 lnT 1 [(5,[112,114,111,100,117,99,116]),(1,p.name),(4,[123])]++(lnT 2 [(5,[99,117,114,114,101,110,99,121]),(1,qpX p.cur),(4,[59])]++(lnT 3 [(5,[99,97,108,101,110,100,97,114]),(1,p.cal),(4,[59])] ++
 (lnT 4 [(5,[102,114,111,109]),(2,Lib.itoa (civ p.from_).1),(4,[47]),(2,Lib.itoa (civ p.from_).2.1),(4,[47]),(2,Lib.itoa (civ p.from_).2.2),(4,[59])] ++
 (lnT 5 [(5,[101,118,101,114,121]),(2,Lib.itoa p.every),(4,[59])]++(lnT 6 [(5,[111,118,101,114,100,114,97,102,116]),(4,[36]),(2,Lib.itoa p.over),(4,[59])]++(lnT 7 [(5,[116,97,120]),(3,qiu p.tax.toNat),(4,[59])] ++
 (inT [99,114,101,100,105,116] 8 p.cr++(inT [100,101,98,105,116] (10+p.cr.tiers.length) p.de ++
 (qcB feT (12+p.cr.tiers.length+p.de.tiers.length) p.fees++(qcB ruT (12+p.cr.tiers.length+p.de.tiers.length+p.fees.length) p.rules ++
 lnT (12+p.cr.tiers.length+p.de.tiers.length+p.fees.length+p.rules.length) [(4,[125])]))))))))))
end Go.Tk
namespace Go.Tk
open Go Go.Eng
def kt(t:Tok):Int×Bs:=(t.kind,t.text)
def Lk(l l':List Tok):Prop:=l.map kt=l'.map kt
theorem Lk.refl(l:List Tok):Lk l l:=rfl
theorem Lk.tail{l l':List Tok}(h:Lk l l'):Lk l.tail l'.tail:=by
 unfold Lk at h ⊢;rw[List.map_tail,List.map_tail,h]
theorem Lk.nil{l':List Tok}(h:Lk [] l'):l'= []:=by
 unfold Lk at h;cases l' with
 |nil=>rfl
 |cons t l=>cases h
theorem Lk.cons{t:Tok}{l l':List Tok}(h:Lk (t::l) l'):∃u r,l'=u::r/\t.kind=u.kind/\t.text=u.text/\Lk l r:=by
 unfold Lk at h;cases l' with
 |nil=>cases h
 |cons u r=>
  simp only[jAs,jC5,kt,jAd]at h;exact⟨u,r,rfl,h.1.1,h.1.2,h.2⟩
theorem Lk.isW{l l':List Tok}(h:Lk l l')(s:Bs):isW s l=isW s l':=by
 cases l with
 |nil=>rw[h.nil]
 |cons t l=>
  obtain⟨u,r,rfl,h1,h2,_⟩:=h.cons;simp only[Tk.isW,h1,h2]
theorem Lk.numAt{l l':List Tok}(h:Lk l l'):numAt l=numAt l':=by
 cases l with
 |nil=>rw[h.nil]
 |cons t l=>
  obtain⟨u,r,rfl,h1,h2,_⟩:=h.cons;simp only[Tk.numAt,h1,h2]
theorem Lk.opAt{l l':List Tok}(h:Lk l l')(k:Nat):opAt k l=opAt k l':=by
 unfold Tk.opAt;have:(fun x:Bs×Int=>Tk.isW x.1 l)=fun x=>Tk.isW x.1 l':=by funext x;exact h.isW x.1
 rw[this]
def RR:Option Rs->Option Rs->Prop
 |none,none=>True
 |some (.bad r),some (.bad r')=>Lk r r'
 |some (.ok e r),some (.ok e' r')=>e=e'/\Lk r r'
 |_,_=>False
theorem qgk{o o':Option Rs}{f f':Ex->List Tok->Option Rs}(h:RR o o')(hf:∀e r r',Lk r r'->RR (f e r) (f' e r')):RR (qdf o f) (qdf o' f'):=by
 cases o with
 |none=>
  cases o' with
  |none=>trivial
  |some y=>cases h
 |some x=>
  cases o' with
  |none=>cases x<;>cases h
  |some y=>
   cases x with
   |bad r=>
    cases y with
    |bad r'=>exact h
    |ok e r'=>cases h
   |ok e r=>
    cases y with
    |bad r'=>cases h
    |ok e' r'=>
     obtain⟨rfl,h⟩:=h;exact hf _ _ _ h
theorem qlz{s:Bs}{r r':List Tok}{f f':List Tok->Option Rs}(h:Lk r r')(hf:∀r r',Lk r r'->RR (f r) (f' r')):RR (qbZ s r f) (qbZ s r' f'):=by
 unfold qbZ;rw[h.isW s];cases isW s r'
 ·exact h
 ·exact hf _ _ h.tail
theorem qLZ{op:Int}{p p':List Tok->Option Rs}(hp:∀r r',Lk r r'->RR (p r) (p' r')){r r':List Tok}(h:Lk r r'):RR (qeD op p r) (qeD op p' r'):=by
 unfold qeD;exact qlz h fun r r' h=>qgk (hp _ _ h) fun a r r' h=>qlz h fun r r' h=>qgk (hp _ _ h) fun b r r' h=>qlz h fun r r' h=>⟨rfl,h⟩
theorem q5n{l l':List Tok}(h:Lk l l'):RR (some (qgT l)) (some (qgT l')):=by
 cases l with
 |nil=>rw[h.nil];exact Lk.refl []
 |cons t r=>
  obtain⟨u,r',rfl,h1,h2,h3⟩:=h.cons;have hn:=h.numAt;unfold qgT;simp only[hn,h1,h2];cases u.kind==1
  ·cases u.kind==3
   ·simp only[jA9];cases numAt (u::r')with
    |none=>exact h
    |some n=>exact⟨rfl,h3⟩
   ·simp only[jA9,jAa];cases(qbm u.text).2==0
    ·exact h
    ·exact⟨rfl,h3⟩
  ·exact⟨rfl,h3⟩
theorem zfP:∀(n:Nat) (m:Md) (l l':List Tok),Lk l l'->RR (prs n m l) (prs n m l'):=by
 intro n
 induction n with
 |zero=>intro m l l' _;trivial
 |succ n ih=>
  intro m l l' h;cases m with
  |ex=>
   rw[qyf,qyf,h.isW];cases isW [105,102] l'
   ·exact ih _ _ _ h
   ·exact qgk (ih _ _ _ h.tail) fun a r r' h=>qlz h fun r r' h=>qgk (ih _ _ _ h) fun b r r' h=>qlz h fun r r' h=>qgk (ih _ _ _ h) fun c r r' h=>⟨rfl,h⟩
  |bin k=>
   rw[qoO,qoO,h.isW];cases k==5
   ·cases k==2
    ·exact qgk (ih _ _ _ h) fun e r r' h=>ih _ _ _ h
    ·cases isW [110,111,116] l'
     ·exact ih _ _ _ h
     ·exact qgk (ih _ _ _ h.tail) fun a r r' h=>⟨rfl,h⟩
   ·exact ih _ _ _ h
  |cmp=>
   rw[qu7,qu7];exact qgk (ih _ _ _ h) fun e r r' h=>ih _ _ _ h
  |lp k e=>
   rw[qyg,qyg,h.opAt];cases opAt k l'==0
   ·refine qgk (ih _ _ _ h.tail) fun b r r' h=>?_
    cases k==2
    ·exact ih _ _ _ h
    ·exact⟨rfl,h⟩
   ·exact⟨rfl,h⟩
  |neg=>
   rw[qoP,qoP,h.isW];cases isW [45] l'
   ·exact ih _ _ _ h
   ·exact qgk (ih _ _ _ h.tail) fun a r r' h=>⟨rfl,h⟩
  |prim=>
   rw[qk4,qk4,h.isW,h.isW,h.isW,h.isW,h.tail.numAt];cases isW [36] l'
   ·cases isW [109,105,110] l'
    ·cases isW [109,97,120] l'
     ·cases isW [40] l'
      ·exact q5n h
      ·exact qgk (ih _ _ _ h.tail) fun e r r' h=>qlz h fun r r' h=>⟨rfl,h⟩
     ·exact qLZ (fun r r' h=>ih _ _ _ h) h.tail
    ·exact qLZ (fun r r' h=>ih _ _ _ h) h.tail
   ·simp only[jAa];cases numAt l'.tail with
    |none=>exact h.tail
    |some v=>exact⟨rfl,h.tail.tail⟩
theorem Ev.lines{m:Md}{l l' r:List Tok}{e:Ex}(h:Ev m l (.ok e r))(hl:Lk l l'):∃r',Ev m l' (.ok e r')/\Lk r r':=by
 obtain⟨n,hn⟩:=h;have:=zfP n m l l' hl;rw[hn]at this;cases hq:prs n m l' with
 |none=>rw[hq]at this;cases this
 |some y=>
  rw[hq]at this;cases y with
  |bad r'=>cases this
  |ok e' r'=>
   obtain⟨rfl,h⟩:=this;exact⟨r',⟨n,hq⟩,h⟩
end Go.Tk
namespace Go.Tk
open Go Go.Eng
theorem qPE{l a b:List Tok}(ha:a <:+ l)(hb:b <:+ l)(h:a.length=b.length):a=b:=by
 obtain⟨p,rfl⟩:=ha;obtain⟨q,hq⟩:=hb;exact(List.append_inj' hq h.symm).2.symm
theorem Lk.len{l l':List Tok}(h:Lk l l'):l.length=l'.length:=by
 have:=congrArg List.length h;simpa using this
theorem Lk.app{a a' b:List Tok}(h:Lk a a'):Lk (a++b) (a'++b):=by
 unfold Lk at h ⊢;rw[jCi,jCi,h]
theorem zkR(n:Int){e:Ex}(he:e.allX qaN=true){rest:List Tok}(hs:stopL 0 rest):Ev .ex (exT n e++rest) (.ok e rest):=by
 have hk:Lk (wrB e++rest) (exT n e++rest):=by
  refine Lk.app ?_;unfold Lk exT;rw[List.map_map];rfl
 obtain⟨r',h1,h2⟩:=(zsi he hs).lines hk;have hg:=h1.good;have:r'=rest:=qPE hg.1 (List.suffix_append _ _) h2.len.symm;rw[this]at h1;exact h1
theorem qbd(s:Bs)(n:Int)(r:List Tok)(k:Int)(hk:qcC s=k):qc2 s (⟨k,n,s⟩::r)= .ok () r:=by
 unfold qc2;rw[show isW s (⟨k,n,s⟩::r)=true by simp[isW,hk]];rfl
theorem qoN{v:Int}(n:Int)(r:List Tok)(h0:0<=v)(h1:v<=9223372036854775807):quz (⟨2,n,Lib.itoa v⟩::r)= .ok v r:=by
 unfold quz;rw[show numAt (⟨2,n,Lib.itoa v⟩::r)=some v by simp only[numAt];exact qh6 h0 h1];rfl
theorem qnJ(k n:Int)(s:Bs)(r:List Tok):qcZ k (⟨k,n,s⟩::r)= .ok s r:=by simp[qcZ]
theorem qAh(n:Int)(r:List Tok):∀(ws:List Bs) (i j:Nat) (s:Bs),(∀w∈ws,qcC w=5)->ws[j]? = some s->(∀i'<j,ws[i']? ≠ some s)->qgS i ws (⟨5,n,s⟩::r)= .ok ((i+j+1:Nat):Int) r
 | [],_,_,_,_,h,_=>by simp at h
 |w::ws,i,0,s,hk,h,_=>by
  simp only[List.getElem?_cons_zero,jA7]at h;subst h;simp only[qgS];rw[show isW w (⟨5,n,w⟩::r)=true by simp[isW,hk w (by simp)]];rfl
 |w::ws,i,j+1,s,hk,h,hn=>by
  simp only[qgS];have hne:w≠s:=fun he=>hn 0 (by omega) (by simp[he])
  rw[show isW w (⟨5,n,s⟩::r)=false by simp[isW];intro h;exact absurd h.symm hne];simp only[jA9];rw[qAh n r ws (i+1) j s (fun w hw=>hk w (by simp[hw])) (by simpa using h) (fun i' hi=>by
   have:=hn (i'+1) (by omega);simpa using this)]
  congr 1
  omega
theorem qMa{v:Int}(n:Int)(r:List Tok)(h0:0<=v)(h1:v<=1000000):qng (⟨3,n,qiu v.toNat⟩::r)= .ok v r:=by
 simp only[qng];rw[qAs (by omega)];have e:((v.toNat:Nat):Int)=v:=by omega
 rw[e];rfl
def qkB(t:Tr):Prop:=0<=t.from_/\t.from_<=9223372036854775807/\0<=t.ppm/\t.ppm<=1000000
theorem q6o{t:Tr}(h:qkB t)(n:Int)(r:List Tok):qlD ((qpC n t++r).tail)= .ok t r:=by
 obtain⟨h0,h1,h2,h3⟩:=h;unfold qlD qpC lnT;simp only[jAs,jCe,jAk,jAx,jB3];rw[qoN n _ h0 h1];simp only[Pz.bnd];rw[qbd [58] n _ 4 rfl];simp only[Pz.bnd];rw[qMa n _ h2 h3];simp only[Pz.bnd];rw[qbd [59] n _ 4 rfl]
theorem qEJ:∀(ts:List Tr) (k:Nat) (n:Int) (acc:List Tr) (r:List Tok),(∀t∈ts,qkB t)->isW [36] r=false->ts.length<k->qcV k acc (qcU n ts++r)= .ok (acc++ts) r
 | [],k+1,n,acc,r,_,hr,_=>by
  simp only[qcU,jAx,qcV,hr,jA9,jC6]
 |t::ts,k+1,n,acc,r,h,hr,hk=>by
  have e:qcU n (t::ts)++r=qpC n t++(qcU (n+1) ts++r):=by simp[qcU]
  rw[e];have hd:isW [36] (qpC n t++(qcU (n+1) ts++r))=true:=by
   unfold qpC lnT;rfl
  simp only[qcV,hd,jAa];rw[q6o (h t (by simp))];simp only[Pz.bnd];rw[qEJ ts k (n+1) (acc++[t]) r (fun t ht=>h t (by simp[ht])) hr (by simp at hk;omega)];simp
 |_,0,_,_,_,_,_,hk=>by omega
theorem qpD:∀(ts:List Tr) (n:Int),(qcU n ts).length=5*ts.length
 | [],_=>rfl
 |t::ts,n=>by
  rw[qcU,jA2,qpD ts];simp only[qpC,lnT,jA5,jA0,jA4];omega
theorem qAb(n:Int)(r:List Tok)(ws:List Bs)(hk:∀w∈ws,qcC w=5)(hd:∀i j,i<j->j<ws.length->ws[i]? ≠ ws[j]?){b:Int}(h1:1<=b)(h2:b<=ws.length):qgS 0 ws (⟨5,n,qwu ws b⟩::r)= .ok b r:=by
 have hlt:(b-1).toNat<ws.length:=by omega
 have hg:ws[(b-1).toNat]? = some (qwu ws b):=by
  unfold qwu;rw[jAh hlt];rfl
 rw[qAh n r ws 0 (b-1).toNat (qwu ws b) hk hg (fun i' hi=>by rw[<-hg];exact hd _ _ hi hlt)]
 congr 1
 omega
def zva(ws:List Bs):Bool:=(List.range ws.length).all fun j=>(List.range j).all fun i=>ws[i]? != ws[j]?
theorem qI5{ws:List Bs}(h:zva ws=true):∀i j,i<j->j<ws.length->ws[i]? ≠ ws[j]?:=by
 intro i j hij hj;have h1:=jAb.1 h j (jBq.2 hj);have h2:=jAb.1 h1 i (jBq.2 hij);simpa using h2
theorem q4D(n:Int)(r:List Tok){b:Int}(h1:1<=b)(h2:b<=4):qgS 0 qgj (⟨5,n,qwu qgj b⟩::r)= .ok b r:=qAb n r qgj (by decide +kernel) (qI5 (by decide +kernel)) h1 h2
theorem q5y(n:Int)(r:List Tok){b:Int}(h1:1<=b)(h2:b<=6):qgS 0 qgE (⟨5,n,qwu qgE b⟩::r)= .ok b r:=qAb n r qgE (by decide +kernel) (qI5 (by decide +kernel)) h1 h2
theorem qUb(n:Int)(r:List Tok){b:Int}(h1:1<=b)(h2:b<=4):qgS 0 qdh (⟨5,n,qwu qdh b⟩::r)= .ok b r:=qAb n r qdh (by decide +kernel) (qI5 (by decide +kernel)) h1 h2
theorem qPJ(n:Int)(r:List Tok){b:Int}(h1:1<=b)(h2:b<=3):qgS 0 qck (⟨5,n,qwu qck b⟩::r)= .ok b r:=qAb n r qck (by decide +kernel) (qI5 (by decide +kernel)) h1 h2
theorem q2h(n:Int)(r:List Tok)(a b:Bs)(ha:qcC a=5)(hb:qcC b=5)(hab:a≠b)(x:Bool):∃k,qgS 0 [a,b] (⟨5,n,bif x then b else a⟩::r)= .ok k r/\(k==2)=x:=by
 have hk:∀w∈ [a,b],qcC w=5:=by simp[ha,hb]
 cases x
 ·exact⟨1,qAh n r [a,b] 0 0 a hk rfl (fun i h=>by omega),rfl⟩
 ·refine⟨2,qAh n r [a,b] 0 1 b hk rfl (fun i h=>?_),rfl⟩;have:i=0:=by omega
  subst this;simpa using hab
def q9G(x:In):Prop:=(∀t∈x.tiers,qkB t)/\1<=x.basis/\x.basis<=4/\1<=x.mode/\x.mode<=6
theorem q9J{x:In}(h:q9G x)(w:Bs)(hw:qcC w=5)(n:Int)(r:List Tok):qKr w (inT w n x++r)= .ok x r:=by
 obtain⟨h1,h2,h3,h4,h5⟩:=h;unfold qKr inT;rw[jAf,jAf];unfold lnT;simp only[jAs,jCe,jAk,jAx];rw[qbd w n _ 5 hw];simp only[Pz.bnd];obtain⟨k,e1,e2⟩:=q2h n (⟨5,n,qwu qgj x.basis⟩::⟨5,n,qwu qgE x.mode⟩::⟨5,n,bif x.keep then[107,101,101,112]else[100,114,111,112]⟩::⟨4,n,[123]⟩::(qcU (n+1) x.tiers++⟨4,n+1+x.tiers.length,[125]⟩::r)) [119,104,111,108,101] [109,97,114,103,105,110,97,108] (by decide +kernel) (by decide +kernel) (by decide) x.marg;rw[e1];simp only[];rw[q4D n _ h2 h3];simp only[];rw[q5y n _ h4 h5];simp only[];obtain⟨q,e3,e4⟩:=q2h n (⟨4,n,[123]⟩::(qcU (n+1) x.tiers++⟨4,n+1+x.tiers.length,[125]⟩::r)) [100,114,111,112] [107,101,101,112] (by decide +kernel) (by decide +kernel) (by decide) x.keep;rw[e3];simp only[];rw[qbd [123] n _ 4 rfl];simp only[];rw[qEJ x.tiers _ (n+1) [] (⟨4,n+1+x.tiers.length,[125]⟩::r) h1 (by rfl) (by
  rw[jA2,qpD];omega)]
 simp only[jAx];rw[qbd [125] _ _ 4 rfl];simp only[e2,e4]
theorem qEE(n:Int)(r:List Tok):stopL 0 (⟨4,n,[59]⟩::r):=qls fun k hk _=>by
 match k,hk with
 |0,_|1,_|2,_|3,_|4,_=>rfl
theorem qIt(n:Int)(r:List Tok):stopL 0 (⟨5,n,[97,109,111,117,110,116,95,111,102]⟩::r):=qls fun k hk _=>by
 match k,hk with
 |0,_|1,_|2,_|3,_|4,_=>rfl
section
variable {exS:List Tok->Rs} (hE:∀(n:Int) (e:Ex) (rest:List Tok),qaO e=0->stopL 0 rest->exS (exT n e++rest)= .ok e rest)
include hE
theorem qGn(n:Int){e:Ex}{rest:List Tok}(h:qaO e=0)(hs:stopL 0 rest):qGm exS (exT n e++rest)= .ok e rest:=by
 unfold qGm;rw[hE n e rest h hs];simp[h]
def zeW(x:Fe):Prop:=1<=x.event/\x.event<=4/\qaO x.when_=0/\qaO x.amount=0
def zfY(x:Ru):Prop:=1<=x.window/\x.window<=3/\qaO x.amount=0
theorem zeX{x:Fe}(h:zeW x)(n:Int)(r:List Tok):qHb exS ((feT n x++r).tail)= .ok x r:=by
 obtain⟨h1,h2,h3,h4⟩:=h;unfold qHb feT lnT;simp only[jAs,jCe,jAk,jAx,jAf,jB3];rw[qnJ];simp only[Pz.bnd];rw[qUb n _ h1 h2];simp only[];rw[qbd [119,104,101,110] n _ 5 (by decide +kernel)];simp only[];rw[qGn hE n h3 (qIt n _)];simp only[];rw[qbd [97,109,111,117,110,116,95,111,102] n _ 5 (by decide +kernel)];simp only[];rw[qGn hE n h4 (qEE n _)];simp only[];rw[qbd [59] n _ 4 rfl]
theorem q59{x:Ru}(h:zfY x)(n:Int)(r:List Tok):qi9 exS ((ruT n x++r).tail)= .ok x r:=by
 obtain⟨h1,h2,h3⟩:=h;unfold qi9 ruT lnT;simp only[jAs,jCe,jAk,jAx,jAf,jB3];rw[qnJ];simp only[Pz.bnd];rw[qPJ n _ h1 h2];simp only[];rw[qGn hE n h3 (qEE n _)];simp only[];rw[qbd [59] n _ 4 rfl]
omit hE
theorem qz3{α:Type}{w:Bs}{f:List Tok->Pz α}{g:Int->α->List Tok}{ok:α->Prop}(hf:∀x n r,ok x->f ((g n x++r).tail)= .ok x r)(hw:∀x n r,isW w (g n x++r)=true):∀(xs:List α) (k:Nat) (n:Int) (acc:List α) (r:List Tok),(∀x∈xs,ok x)->isW w r=false->xs.length<k->qdU w f k acc (qcB g n xs++r)= .ok (acc++xs) r
 | [],k+1,n,acc,r,_,hr,_=>by
  simp only[qcB,jAx,qdU,hr,jA9,jC6]
 |x::xs,k+1,n,acc,r,h,hr,hk=>by
  have e:qcB g n (x::xs)++r=g n x++(qcB g (n+1) xs++r):=by simp[qcB]
  rw[e];simp only[qdU,hw,jAa];rw[hf x n _ (h x (by simp))];simp only[Pz.bnd];rw[qz3 hf hw xs k (n+1) (acc++[x]) r (fun y hy=>h y (by simp[hy])) hr (by simp at hk;omega)];simp
 |_,0,_,_,_,_,_,hk=>by omega
theorem qj6{α:Type}{g:Int->α->List Tok}(hg:∀n x,1<=(g n x).length):∀(xs:List α) (n:Int),xs.length<=(qcB g n xs).length
 | [],_=>jBa _
 |x::xs,n=>by
  have h1:=hg n x;have h2:=qj6 hg xs (n+1);rw[qcB,jA2,jA0];omega
end
structure PrOk (civ:Int->Int×Int×Int) (day:Int->Int->Int->Option Int) (p:Pr):Prop where
 cur:qsK (qpX p.cur)=some p.cur
 y0:0<=(civ p.from_).1/\(civ p.from_).1<=9223372036854775807
 m0:0<=(civ p.from_).2.1/\(civ p.from_).2.1<=9223372036854775807
 d0:0<=(civ p.from_).2.2/\(civ p.from_).2.2<=9223372036854775807
 day:day (civ p.from_).1 (civ p.from_).2.1 (civ p.from_).2.2=some p.from_
 every:0<=p.every/\p.every<=9223372036854775807
 over:0<=p.over/\p.over<=9223372036854775807
 tax:0<=p.tax/\p.tax<=1000000
 cr:q9G p.cr
 de:q9G p.de
 fees:∀x∈p.fees,zeW x
 rules:∀x∈p.rules,zfY x
theorem q5V{exS:List Tok->Rs}(hE:∀(n:Int) (e:Ex) (rest:List Tok),qaO e=0->stopL 0 rest->exS (exT n e++rest)= .ok e rest){civ:Int->Int×Int×Int}{day:Int->Int->Int->Option Int}{p:Pr}(h:PrOk civ day p):qhG exS day (qdS civ p)= .ok p []:=by
 unfold qhG qdS lnT;simp only[jAs,jCe,jAk,jAx];rw[qbd [112,114,111,100,117,99,116] _ _ 5 (by decide +kernel)];simp only[Pz.bnd];rw[qnJ];simp only[Pz.bnd];simp only[qcA];rw[qbd [123] _ _ 4 rfl];simp only[Pz.bnd];rw[qbd [99,117,114,114,101,110,99,121] _ _ 5 (by decide +kernel)];simp only[Pz.bnd];unfold qgl;rw[qnJ];simp only[Pz.bnd,h.cur];rw[qbd [59] _ _ 4 rfl];simp only[Pz.bnd];rw[qbd [99,97,108,101,110,100,97,114] _ _ 5 (by decide +kernel)];simp only[Pz.bnd];rw[qnJ];simp only[Pz.bnd];rw[qbd [59] _ _ 4 rfl];simp only[Pz.bnd];rw[qbd [102,114,111,109] _ _ 5 (by decide +kernel)];simp only[Pz.bnd];unfold qI1;rw[qoN _ _ h.y0.1 h.y0.2];simp only[Pz.bnd];rw[qbd [47] _ _ 4 rfl];simp only[Pz.bnd];rw[qoN _ _ h.m0.1 h.m0.2];simp only[Pz.bnd];rw[qbd [47] _ _ 4 rfl];simp only[Pz.bnd];rw[qoN _ _ h.d0.1 h.d0.2];simp only[Pz.bnd,h.day];rw[qbd [59] _ _ 4 rfl];simp only[Pz.bnd];rw[qbd [101,118,101,114,121] _ _ 5 (by decide +kernel)];simp only[Pz.bnd];rw[qoN _ _ h.every.1 h.every.2];simp only[Pz.bnd];rw[qbd [59] _ _ 4 rfl];simp only[Pz.bnd];rw[qbd [111,118,101,114,100,114,97,102,116] _ _ 5 (by decide +kernel)];simp only[Pz.bnd];rw[qbd [36] _ _ 4 rfl];simp only[Pz.bnd];rw[qoN _ _ h.over.1 h.over.2];simp only[Pz.bnd];rw[qbd [59] _ _ 4 rfl];simp only[Pz.bnd];rw[qbd [116,97,120] _ _ 5 (by decide +kernel)];simp only[Pz.bnd];rw[qMa _ _ h.tax.1 h.tax.2];simp only[Pz.bnd];rw[qbd [59] _ _ 4 rfl];simp only[Pz.bnd];rw[q9J h.cr _ (by decide +kernel)];simp only[Pz.bnd];rw[q9J h.de _ (by decide +kernel)];simp only[Pz.bnd];have hfee:∀(n:Int) (x:Fe),1<=(feT n x).length:=fun n x=>by simp only[feT,lnT,jA2,jA5,jA0];omega
 have hrul:∀(n:Int) (x:Ru),1<=(ruT n x).length:=fun n x=>by simp only[ruT,lnT,jA2,jA5,jA0];omega
 have hnf:∀(n:Int) (rs:List Ru) (m:Int),isW [102,101,101] (qcB ruT n rs++[⟨4,m,[125]⟩])=false:=fun n rs m=>by
  cases rs with
  |nil=>rfl
  |cons x rs=>rfl
 rw[qz3 (ok:=zeW) (f:=qHb exS) (g:=feT) (fun x n r hx=>zeX hE hx n r) (fun x n r=>rfl) p.fees _ _ [] _ h.fees (hnf _ _ _) (by
  have:=qj6 hfee p.fees (12+p.cr.tiers.length+p.de.tiers.length);simp only[jA2];omega)]
 simp only[jAx];rw[qz3 (ok:=zfY) (f:=qi9 exS) (g:=ruT) (fun x n r hx=>q59 hE hx n r) (fun x n r=>rfl) p.rules _ _ [] _ h.rules (by rfl) (by
  have:=qj6 hrul p.rules (12+p.cr.tiers.length+p.de.tiers.length+p.fees.length);simp only[jA2];omega)]
 simp only[jAx];rw[qbd [125] _ _ 4 rfl]
end Go.Tk
namespace Go.Tk
open Go Go.Eng
theorem qat{α β:Type}{x:Pz α}{f:α->List Tok->Pz β}{b:β}{r:List Tok}(h:x.bnd f= .ok b r):∃a r',x= .ok a r'/\f a r'= .ok b r:=by
 cases x with
 |bad r e=>cases h
 |ok a r'=>exact⟨a,r',rfl,h⟩
theorem quA{l r:List Tok}{v:Int}(h:quz l= .ok v r):0<=v/\v<=9223372036854775807:=by
 unfold quz at h;cases hn:numAt l with
 |none=>rw[hn]at h;cases h
 |some n=>
  rw[hn]at h;cases h;cases l with
  |nil=>cases hn
  |cons t l=>
   simp only[numAt]at hn;cases hk:(t.kind==2)
   ·rw[hk]at hn;cases hn
   ·rw[hk]at hn;simp only[jAa,qj9]at hn;cases hi:qgR t.text
    ·rw[hi]at hn;cases hn
    ·have hg:=qjZ hi;rw[hi,hg]at hn;by_cases hb:9223372036854775808<=qa7 0 t.text
     ·rw[jA8 hb]at hn;cases hn
     ·rw[jAe hb]at hn;cases hn;omega
theorem qIa{l r:List Tok}{v:Int}(h:qng l= .ok v r):0<=v/\v<=1000000:=by
 cases l with
 |nil=>cases h
 |cons t l=>
  simp only[qng]at h;cases hk:(t.kind==3&&(qbm t.text).2==0)
  ·rw[hk]at h;cases h
  ·rw[hk]at h;cases h;simp only[jA1,jB7]at hk;obtain⟨h1,h2,_⟩:=q5P hk.2;exact⟨h1,h2⟩
theorem qDN:∀{ws:List Bs} {i:Nat} {l r:List Tok} {k:Int},qgS i ws l= .ok k r->(i+1:Int)<=k/\k<=i+ws.length
 | [],i,l,r,k,h=>by cases h
 |w::ws,i,l,r,k,h=>by
  simp only[qgS]at h;cases hw:isW w l
  ·rw[hw]at h;have:=qDN h;simp only[jA0];omega
  ·rw[hw]at h;cases h;simp only[jA0];omega
theorem qUg{exS:List Tok->Rs}{l r:List Tok}{e:Ex}(h:qGm exS l= .ok e r):qaO e=0:=by
 unfold qGm at h;cases hx:exS l with
 |bad r=>rw[hx]at h;cases h
 |ok f r'=>
  rw[hx]at h;cases hv:(qaO f==0)
  ·simp only[hv]at h;cases h
  ·simp only[hv]at h;cases h;simpa using hv
theorem zg5{l r:List Tok}{t:Tr}(h:qlD l= .ok t r):qkB t:=by
 unfold qlD at h;obtain⟨a,r1,h1,h⟩:=qat h;obtain⟨_,r2,_,h⟩:=qat h;obtain⟨p,r3,h3,h⟩:=qat h;obtain⟨_,r4,_,h⟩:=qat h;cases h;exact⟨(quA h1).1,(quA h1).2,(qIa h3).1,(qIa h3).2⟩
theorem qMn:∀{n:Nat} {acc ts:List Tr} {l r:List Tok},qcV n acc l= .ok ts r->(∀t∈acc,qkB t)-> ∀t∈ts,qkB t
 |0,_,_,_,_,h,_=>by cases h
 |n+1,acc,ts,l,r,h,ha=>by
  simp only[qcV]at h;cases hw:isW [36] l
  ·rw[hw]at h;cases h;exact ha
  ·rw[hw]at h;obtain⟨t,r',h1,h⟩:=qat h;refine qMn h fun x hx=>?_
   rcases jAo.1 hx with hx|hx
   ·exact ha x hx
   ·simp only[jAt]at hx;subst hx;exact zg5 h1
theorem qHX{α:Type}{w:Bs}{f:List Tok->Pz α}{ok:α->Prop}(hf:∀l x r,f l= .ok x r->ok x):∀{n:Nat} {acc xs:List α} {l r:List Tok},qdU w f n acc l= .ok xs r->(∀x∈acc,ok x)-> ∀x∈xs,ok x
 |0,_,_,_,_,h,_=>by cases h
 |n+1,acc,xs,l,r,h,ha=>by
  simp only[qdU]at h;cases hw:isW w l
  ·rw[hw]at h;cases h;exact ha
  ·rw[hw]at h;obtain⟨t,r',h1,h⟩:=qat h;refine qHX hf h fun x hx=>?_
   rcases jAo.1 hx with hx|hx
   ·exact ha x hx
   ·simp only[jAt]at hx;subst hx;exact hf _ _ _ h1
theorem zli{w:Bs}{l r:List Tok}{x:In}(h:qKr w l= .ok x r):q9G x:=by
 unfold qKr at h;obtain⟨_,r1,_,h⟩:=qat h;obtain⟨k,r2,_,h⟩:=qat h;obtain⟨b,r3,hb,h⟩:=qat h;obtain⟨m,r4,hm,h⟩:=qat h;obtain⟨q,r5,_,h⟩:=qat h;obtain⟨_,r6,_,h⟩:=qat h;obtain⟨ts,r7,ht,h⟩:=qat h;obtain⟨_,r8,_,h⟩:=qat h;cases h;have h1:=qDN hb;have h2:=qDN hm;simp only[qgj,qgE,jA0,jA4]at h1 h2;have a1:1<=b:=by omega
 have a2:b<=4:=by omega
 have a3:1<=m:=by omega
 have a4:m<=6:=by omega
 exact⟨qMn ht (fun _ h=>nomatch h),a1,a2,a3,a4⟩
theorem zk1{exS:List Tok->Rs}{l r:List Tok}{x:Fe}(h:qHb exS l= .ok x r):zeW x:=by
 unfold qHb at h;obtain⟨n,r1,_,h⟩:=qat h;obtain⟨e,r2,he,h⟩:=qat h;obtain⟨_,r3,_,h⟩:=qat h;obtain⟨w,r4,hw,h⟩:=qat h;obtain⟨_,r5,_,h⟩:=qat h;obtain⟨a,r6,ha,h⟩:=qat h;obtain⟨_,r7,_,h⟩:=qat h;cases h;have h1:=qDN he;simp only[qdh,jA0,jA4]at h1;have a1:1<=e:=by omega
 have a2:e<=4:=by omega
 exact⟨a1,a2,qUg hw,qUg ha⟩
theorem zf0{exS:List Tok->Rs}{l r:List Tok}{x:Ru}(h:qi9 exS l= .ok x r):zfY x:=by
 unfold qi9 at h;obtain⟨n,r1,_,h⟩:=qat h;obtain⟨e,r2,he,h⟩:=qat h;obtain⟨a,r3,ha,h⟩:=qat h;obtain⟨_,r4,_,h⟩:=qat h;cases h;have h1:=qDN he;simp only[qck,jA0,jA4]at h1;have a1:1<=e:=by omega
 have a2:e<=3:=by omega
 exact⟨a1,a2,qUg ha⟩
theorem qTG{s c:Bs}(h:qsK s=some c):qpX c=s:=by
 unfold qsK at h;split at h
 ·cases h;unfold qpX;rw[List.map_map];refine(jBr fun x _=>?_).trans (List.map_id s);simp
 ·cases h
theorem zeD{l r:List Tok}{c:Bs}(h:qgl l= .ok c r):qsK (qpX c)=some c:=by
 unfold qgl at h;obtain⟨s,r1,_,h⟩:=qat h;split at h
 ·rename_i c' hc;cases h;rw[qTG hc,hc]
 ·cases h
theorem zkM{day:Int->Int->Int->Option Int}{l r:List Tok}{n:Int}(h:qI1 day l= .ok n r):∃y m d,day y m d=some n/\(0<=y/\y<=9223372036854775807)/\(0<=m/\m<=9223372036854775807)/\(0<=d/\d<=9223372036854775807):=by
 unfold qI1 at h;obtain⟨y,r1,hy,h⟩:=qat h;obtain⟨_,r2,_,h⟩:=qat h;obtain⟨m,r3,hm,h⟩:=qat h;obtain⟨_,r4,_,h⟩:=qat h;obtain⟨d,r5,hd,h⟩:=qat h;split at h
 ·rename_i k hk;cases h;exact⟨y,m,d,hk,quA hy,quA hm,quA hd⟩
 ·cases h
theorem zfN{exS:List Tok->Rs}{day:Int->Int->Int->Option Int}{civ:Int->Int×Int×Int}(hday:∀y m d n,day y m d=some n->civ n=(y,m,d)){l r:List Tok}{p:Pr}(h:qhG exS day l= .ok p r):PrOk civ day p:=by
 unfold qhG at h;obtain⟨_,r0,ha0,h⟩:=qat h;obtain⟨nm,r1,hnm,h⟩:=qat h;obtain⟨_,r2,ha1,h⟩:=qat h;obtain⟨cu,r3,hcu,h⟩:=qat h;obtain⟨_,r4,ha2,h⟩:=qat h;obtain⟨ca,r5,hca,h⟩:=qat h;obtain⟨_,r6,ha3,h⟩:=qat h;obtain⟨fr,r7,hfr,h⟩:=qat h;obtain⟨_,r8,ha4,h⟩:=qat h;obtain⟨ev,r9,hev,h⟩:=qat h;obtain⟨_,r10,ha5,h⟩:=qat h;obtain⟨ov,r11,hov,h⟩:=qat h;obtain⟨_,r12,ha6,h⟩:=qat h;obtain⟨tx,r13,htx,h⟩:=qat h;obtain⟨_,r14,ha7,h⟩:=qat h;obtain⟨cr,r15,hcr,h⟩:=qat h;obtain⟨de,r16,hde,h⟩:=qat h;obtain⟨fs,r17,hfs,h⟩:=qat h;obtain⟨rs,r18,hrs,h⟩:=qat h;obtain⟨_,r19,ha8,h⟩:=qat h;split at h
 ·cases h;obtain⟨y,m,d,hd,hy,hm,hdd⟩:=zkM hfr;have hc:=hday y m d fr hd;exact { cur:=zeD hcu,y0:=by rw[hc];exact hy,m0:=by rw[hc];exact hm,d0:=by rw[hc];exact hdd,day:=by rw[hc];exact hd,every:=quA hev,over:=quA hov,tax:=qIa htx,cr:=zli hcr,de:=zli hde,fees:=qHX (fun _ _ _ h=>zk1 h) hfs (fun _ h=>nomatch h),rules:=qHX (fun _ _ _ h=>zf0 h) hrs (fun _ h=>nomatch h) }
 ·cases h
end Go.Tk

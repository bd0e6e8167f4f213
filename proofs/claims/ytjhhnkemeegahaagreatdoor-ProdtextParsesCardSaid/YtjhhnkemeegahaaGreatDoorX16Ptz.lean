/- Definitions of products: what the document's reader comes to. -/
import Derived.Test.YtjhhnkemeegahaaGreatDoorX16Pvf
set_option linter.all false
namespace Go.Proofs.H16
open Go Go.Eng Go.Tk
set_option maxRecDepth 20000
section
variable {T:List Tok}
theorem zdF{ws:List Bs}(hs:ws.length<=1000)(hk:∀w∈ws,qcu w=5){p:PS}(hp:p.Ok T):∀(k n:Nat),n+k=ws.length ->
  (∃j,∃h:j<ws.length,ql1 ws[j] p=true/\qae (fun v=>(qgO v).ev) (ES ws,(n:Int),(stR T p).1,(stR T p).2.1,(stR T p).2.2,0,0)=some (0,ES ws,(j:Int),(stR T p).1,(stR T p).2.1,(stR T p).2.2,0,0)/\ ∀l,p= .good l->qfC n (ws.drop n) l= .ok ((j+1:Nat):Int) l.tail) \/
  (qae (fun v=>(qgO v).ev) (ES ws,(n:Int),(stR T p).1,(stR T p).2.1,(stR T p).2.2,0,0)=some (1,ES ws,(ws.length:Int),(stR T p).1,(stR T p).2.1,(stR T p).2.2,0,0)/\ ∀l,p= .good l->qfC n (ws.drop n) l= .bad l 2):=by
 intro k
 induction k with
 |zero=>
  intro n hn;have e:n=ws.length:=by omega
  subst e;refine .inr ⟨qaf ?_,fun l _=>by rw[jC0];rfl⟩;show(qdZ (ES ws) (ws.length:Int) _ _ _ _ _).ev=_;rw[qdZ];exact(brF (by simp)).trans rfl
 |succ k ih=>
  intro n hn;have h:n<ws.length:=by omega
  have e:ws.drop n=ws[n]::ws.drop (n+1):=(jC8 h).symm;have hw:=hk _ (jAi h);have hlt:decide ((n:Int)<((ES ws).length:Int))=true:=by rw[jA5];exact qa0 h
  cases ha:ql1 ws[n] p
  ·have hst:(fun v=>(qgO v).ev) (ES ws,(n:Int),(stR T p).1,(stR T p).2.1,(stR T p).2.2,0,0)=some (.next (ES ws,((n+1:Nat):Int),(stR T p).1,(stR T p).2.1,(stR T p).2.2,0,0)):=by
    show(qdZ (ES ws) (n:Int) (stR T p).1 (stR T p).2.1 (stR T p).2.2 0 0).ev=_;rw[qdZ];refine(brT hlt).trans ((brT (qC0 h)).trans ?_);rw[qs0 h];refine(biS (qmz hw hp)).trans ?_;rw[<-qat h (by simp only[big];omega)];exact(brF ha).trans rfl
   rw[qaq hst];have hz:∀l,p= .good l->qfC n (ws.drop n) l=qfC (n+1) (ws.drop (n+1)) l:=by
    rintro l rfl;rw[e];have:isW ws[n] l=false:=ha;simp only[qfC,this,jA9]
   rcases ih (n+1) (by omega)with⟨j,hj,h2,h3,h4⟩|⟨h3,h4⟩
   ·exact .inl ⟨j,hj,h2,h3,fun l hl=>(hz l hl).trans (h4 l hl)⟩
   ·exact .inr ⟨h3,fun l hl=>(hz l hl).trans (h4 l hl)⟩
  ·refine .inl ⟨n,h,ha,qaf ?_,?_⟩
   ·show(qdZ (ES ws) (n:Int) (stR T p).1 (stR T p).2.1 (stR T p).2.2 0 0).ev=_;rw[qdZ];refine(brT hlt).trans ((brT (qC0 h)).trans ?_);rw[qs0 h];exact(biS (qmz hw hp)).trans ((brT ha).trans rfl)
   ·rintro l rfl;rw[e];have:isW ws[n] l=true:=ha;simp only[qfC,this,jAa]
theorem qnZ(hT:T.length<=1000000){ws:List Bs}(hs:ws.length<=1000)(hk:∀w∈ws,qcu w=5){p:PS}(hp:p.Ok T):∃v p',qdt (stR T p).1 (stR T p).2.1 (stR T p).2.2 (ES ws)=some ((stR T p').1,(stR T p').2.1,(stR T p').2.2,v)/\Does T (qfC 0 ws) Eq p v p':=by
 rw[qMd,qqN,qwc];rcases zdF hs hk hp ws.length 0 (by omega)with⟨j,hj,h2,h3,h4⟩|⟨h3,h4⟩
 ·have h3':qae (fun v=>(qgO v).ev) (ES ws,0,(stR T p).1,(stR T p).2.1,(stR T p).2.2,0,0)=some (0,ES ws,(j:Int),(stR T p).1,(stR T p).2.1,(stR T p).2.2,0,0):=h3;cases p with
  |bad q e a=>cases h2
  |good l=>
   have hi:isW ws[j] l=true:=h2;obtain⟨t,l',rfl⟩:=qbt hi;have hz:=h4 _ rfl;refine⟨((j+1:Nat):Int),.good l',(biS (v:=(ES ws,(j:Int),(stR T (.good (t::l'))).1,(stR T (.good (t::l'))).2.1,(stR T (.good (t::l'))).2.2,0,0)) ?_).trans ?_,qaI hp,?_⟩
   ·rw[h3'];rfl
   ·show some (ET T,IntKind.i64.wrap (pos T (t::l')+1),(0:Int),IntKind.i64.wrap ((j:Int)+1))=_;rw[qbL hp hT,qat hj (by simp only[big];omega)];rfl
   ·dsimp only;rw[show qfC 0 ws (t::l')=_ from hz];exact⟨rfl,rfl⟩
 ·have h3':qae (fun v=>(qgO v).ev) (ES ws,0,(stR T p).1,(stR T p).2.1,(stR T p).2.2,0,0)=some (1,ES ws,(ws.length:Int),(stR T p).1,(stR T p).2.1,(stR T p).2.2,0,0):=h3;refine⟨0,qFl (T:=T) 2 p,(biN ?_).trans ((biS (v:=(ES ws,(ws.length:Int),(stR T p).1,(stR T p).2.1,(stR T p).2.2,0,0)) ?_).trans ((biS (qKh 2 hp)).trans rfl)),qpq hp (by decide),?_⟩
  ·rw[h3'];rfl
  ·rw[h3'];rfl
  ·cases p with
   |bad q e a=>exact⟨a,rfl⟩
   |good l=>
    have hz:=h4 l rfl;dsimp only;rw[show qfC 0 ws l=_ from hz];exact⟨_,rfl⟩
theorem qjE(hT:T.length<=1000000){s:Bs}{k:Int}(hk:qcu s=k){p:PS}(hp:p.Ok T):∃p',qaM (stR T p).1 (stR T p).2.1 (stR T p).2.2 k s=some (stR T p')/\Does T (qcJ s) (fun _ (_:Unit)=>True) p () p':=⟨_,qcI hT hk hp,qnb s hp⟩
theorem qXx(hT:T.length<=1000000){p:PS}(hp:p.Ok T):∃p',qcy (stR T p).1 (stR T p).2.1 (stR T p).2.2=some (stR T p')/\Does T (qcJ [59]) (fun _ (_:Unit)=>True) p () p':=⟨_,qkl hT hp,qnb [59] hp⟩
theorem zqj(hT:T.length<=1000000)(hv:∀t∈T,qaP t=true){p:PS}(hp:p.Ok T):∃v p',qrS (stR T p).1 (stR T p).2.1 (stR T p).2.2=some ((stR T p').1,(stR T p').2.1,(stR T p').2.2,v)/\Does T (qEd qiQ) Eq p v p':=by
 obtain⟨y,p1,h1,D1⟩:=qkm hT hv hp;obtain⟨p2,h2,D2⟩:=qjE hT (s:=[47]) (k:=4) rfl D1.ok;obtain⟨m,p3,h3,D3⟩:=qkm hT hv D2.ok;obtain⟨p4,h4,D4⟩:=qjE hT (s:=[47]) (k:=4) rfl D3.ok;obtain⟨d,p5,h5,D5⟩:=qkm hT hv D4.ok;have K4:=D5.stuck;have K3:=D4.stuck.trans K4;have K2:=D3.stuck.trans K3;have K1:=D2.stuck.trans K2;have D:Does T q7n (fun c (v:Int×Int×Int)=>c=v) p (y,m,d) p5:=D1.bnd K1 D5.ok fun y' e1=>D2.bnd K2 D5.ok fun _ _=>D3.bnd K3 D5.ok fun m' e2=>D4.bnd K4 D5.ok fun _ _=>D5.map fun d' e3=>by rw[e1,e2,e3]
 rw[qLF];have pre:∀{x},(DT.br ((stR T p5).2.2 != 0) (.at (((stR T p5).1,(stR T p5).2.1,(stR T p5).2.2,0):qw8)) (.bi (qlG y m d) (fun y5=>.br (y5.snd != 0) (.bi (qbN (stR T p5).1 (stR T p5).2.1 (stR T p5).2.2 (stR T p).2.1 1) (fun y6=>.at (y6.fst,y6.snd.fst,y6.snd.snd,0)) .no) (.at ((stR T p5).1,(stR T p5).2.1,(stR T p5).2.2,y5.fst))) .no)).ev=x->(qm1 (stR T p).1 (stR T p).2.1 (stR T p).2.2).ev=x:=fun hx=>by
  rw[qm1];exact(biS h1).trans ((biS h2).trans ((biS h3).trans ((biS h4).trans ((biS h5).trans hx))))
 have E2:=D.2;have stop:∀{q:List Tok} {e k:Int},p5= .bad q e k->(DT.br ((stR T p5).2.2 != 0) (.at (((stR T p5).1,(stR T p5).2.1,(stR T p5).2.2,0):qw8)) (.bi (qlG y m d) (fun y5=>.br (y5.snd != 0) (.bi (qbN (stR T p5).1 (stR T p5).2.1 (stR T p5).2.2 (stR T p).2.1 1) (fun y6=>.at (y6.fst,y6.snd.fst,y6.snd.snd,0)) .no) (.at ((stR T p5).1,(stR T p5).2.1,(stR T p5).2.2,y5.fst))) .no)).ev=some ((stR T p5).1,(stR T p5).2.1,(stR T p5).2.2,0):=by
  intro q e k h5;have:=D5.ok;subst h5;exact(brT (ql9 this.1)).trans rfl
 cases p with
 |bad q e a=>
  obtain⟨k',hk'⟩:=E2;exact⟨0,p5,pre (stop hk'),D5.ok,k',hk'⟩
 |good l=>
  dsimp only at E2;have hz:=qxC l;cases h5z:q7n l with
  |bad q e=>
   rw[h5z]at E2 hz;obtain⟨k',hk'⟩:=E2;refine⟨0,p5,pre (stop hk'),D5.ok,?_⟩;dsimp only;rw[hz];exact⟨k',hk'⟩
  |ok c r=>
   rw[h5z]at E2;obtain⟨rfl,rfl⟩:=E2;cases hd:qiQ y m d with
   |some n=>
    have hr:qu0 y m d=(n,0):=by unfold qu0;rw[hd]
    refine⟨n,.good r,pre ?_,D5.ok,?_⟩
    ·refine(brF rfl).trans ((biS (qsu y m d)).trans ?_);rw[hr];exact(brF rfl).trans rfl
    ·dsimp only;rw[qAY h5z hd];exact⟨rfl,rfl⟩
   |none=>
    have hr:qu0 y m d=(0,1):=by unfold qu0;rw[hd]
    refine⟨0,.bad l 1 (pos T r),pre ?_,⟨by decide,hp⟩,?_⟩
    ·refine(brF rfl).trans ((biS (qsu y m d)).trans ?_);rw[hr];exact(brT rfl).trans ((biS (qmy 1 (q:=l) (p:=.good r) D5.ok)).trans rfl)
    ·dsimp only;rw[qAX h5z hd];exact⟨_,rfl⟩
theorem qXu(hT:T.length<=1000000)(hv:∀t∈T,qaP t=true){p:PS}(hp:p.Ok T):∃v p',qet (stR T p).1 (stR T p).2.1 (stR T p).2.2=some ((stR T p').1,(stR T p').2.1,(stR T p').2.2,v.1,v.2.1,v.2.2.1,v.2.2.2)/\Does T (qA4 exS) VEx p v p':=by
 rw[qLs];cases p with
 |bad q e a=>exact⟨(0,0,[],[]),.bad q e a,by rw[qkL];exact(brT (ql9 hp.1)).trans rfl,hp,a,rfl⟩
 |good l=>
  have hb:∀t∈T,t.text.length<=1000000:=fun t ht=>by have:=(qd0 (hv t ht)).1;omega
  have hlen':l.length<=T.length:=List.IsSuffix.length_le hp;have hpos:¬(pos T l<0\/(T.length:Int)<pos T l):=by unfold pos;omega
  have hS:qKa T (pos T l)=qpv T (pos T l) (exS l):=by
   unfold qKa;rw[jAm hpos,qHl hp]
  have h1:=qE1 hT hb (pos T l);rw[hS]at h1;have hgood:=(qoR l).good;have go:∀{x},(DT.br ((qpv T (pos T l) (exS l)).2.2.2.2.2 != 0) (.bi (qbN (ET T) (pos T l) 0 (qpv T (pos T l) (exS l)).2.2.2.2.1 (qpv T (pos T l) (exS l)).2.2.2.2.2) (fun y1=>.at ((y1.fst,y1.snd.fst,y1.snd.snd,0,0,[],[]):qC7)) .no)
    (.at (ET T,(qpv T (pos T l) (exS l)).2.2.2.2.1,0,(qpv T (pos T l) (exS l)).1,(qpv T (pos T l) (exS l)).2.1,(qpv T (pos T l) (exS l)).2.2.1,(qpv T (pos T l) (exS l)).2.2.2.1))).ev=x->(qkL (ET T) (pos T l) 0).ev=x:=fun hx=>by
   rw[qkL];exact(brF rfl).trans ((biS h1).trans hx)
  cases hx:exS l with
  |bad r=>
   have hz:=qHw hx;rw[hx]at hgood go;have hr:r <:+ T:=List.IsSuffix.trans hgood hp;refine⟨(0,0,[],[]),.bad r 2 (pos T l),go ((brT rfl).trans ((biS (qmy 2 (q:=r) (p:=.good l) hp)).trans rfl)),⟨by decide,hr⟩,?_⟩;dsimp only;rw[hz];exact⟨_,rfl⟩
  |ok e r=>
   have hz:=qSh hx;rw[hx]at hgood go;have hr:r <:+ T:=List.IsSuffix.trans hgood.1 hp;cases h0:(qaJ e==0)
   ·have hx1:qpv T (pos T l) (.ok e r)=zaK (pos T l) (qaJ e):=by rw[qyO,h0];rfl
    rw[hx1]at go;refine⟨(0,0,[],[]),.bad l (qaJ e) (pos T l),go ((brT (by show(qaJ e != 0)=true;rw[bne,h0];rfl)).trans ((biS (qmy (qaJ e) (q:=l) (p:=.good l) hp)).trans rfl)),⟨by simpa using h0,hp⟩,?_⟩;dsimp only;rw[hz,h0];exact⟨_,rfl⟩
   ·have hx1:qpv T (pos T l) (.ok e r)=(e.op,e.num,e.txt,EX e.args,pos T r,0):=by rw[qyO,h0];rfl
    rw[hx1]at go;refine⟨(e.op,e.num,e.txt,EX e.args),.good r,go ((brF rfl).trans rfl),hr,?_⟩;dsimp only;rw[hz,h0];exact⟨rfl,rfl⟩
theorem zqM{s:Bs}{l:List Tok}(hi:isW s l=true):qph (T:=T) s (.good l)= .good l.tail:=by rw[qoL,hi];rfl
abbrev Mr:=Int×Int×Bool×Int×Int×Bool×Bool×Int×Int×Bool
abbrev ki0(s:StR)(m:Mr):qem:=.inl (s.1,s.2.1,s.2.2,m)
abbrev ki1(s:StR)(m:Mr)(A:List AV):qem:=.inr (s.1,s.2.1,s.2.2,m.1,m.2.1,m.2.2.1,m.2.2.2.1,m.2.2.2.2.1,m.2.2.2.2.2.1,m.2.2.2.2.2.2.1,m.2.2.2.2.2.2.2.1,m.2.2.2.2.2.2.2.2.1,m.2.2.2.2.2.2.2.2.2,A)
noncomputable abbrev stK:=fun v=>(qzj v).ev
theorem qZK{p:PS}(hp:p.Ok T)(ha:ql1 [36] p=false)(m:Mr):qae stK (ki0 (stR T p) m)=some (0,ki0 (stR T p) m)/\ ∀A,qae stK (ki1 (stR T p) m A)=some (1,ki1 (stR T p) m A):=by
 have hacc:=qmz (s:=[36]) (k:=4) rfl hp;rw[ha]at hacc;refine⟨qaf ?_,fun A=>qaf ?_⟩
 ·show(qjV (stR T p).1 (stR T p).2.1 (stR T p).2.2 _ _ _ _ _ _ _ _ _ _).ev=_;rw[qjV];exact(biS hacc).trans ((brF rfl).trans rfl)
 ·show(qjW (stR T p).1 (stR T p).2.1 (stR T p).2.2 _ _ _ _ _ _ _ _ _ _ A).ev=_;rw[qjW];exact(biS hacc).trans ((brF rfl).trans rfl)
theorem zej(hT:T.length<=1000000)(hv:∀t∈T,qaP t=true)(m:Mr){l:List Tok}(hl:l <:+ T)(hi:isW [36] l=true):∃a p',Does T qi2 (fun t v=>v=Tr.av t) (.good l.tail) a p'/\qae stK (ki0 (stR T (.good l)) m)=qae stK (ki1 (stR T p') m [a])/\ ∀A,A.length<=1000000->qae stK (ki1 (stR T (.good l)) m A)=qae stK (ki1 (stR T p') m (A++[a])):=by
 have hn:=qmz (T:=T) (s:=[36]) (k:=4) rfl (p:=.good l) hl;rw[show ql1 [36] (.good l)=true from hi]at hn;have he:=qcI hT (s:=[36]) (k:=4) rfl (p:=.good l) hl;rw[zqM hi]at he;obtain⟨a,p1,h1,D1⟩:=qkm hT hv (p:=.good l.tail) (qaI hl);obtain⟨p2,h2,D2⟩:=qjE hT (s:=[58]) (k:=4) rfl D1.ok;obtain⟨b,p3,h3,D3⟩:=q8X hT hv D2.ok;obtain⟨p4,h4,D4⟩:=qjE hT (s:=[59]) (k:=4) rfl D3.ok;have K3:=D4.stuck;have K2:=D3.stuck.trans K3;have K1:=D2.stuck.trans K2;refine⟨trA a b,p4,D1.bnd K1 D4.ok fun a' e1=>D2.bnd K2 D4.ok fun _ _=>D3.bnd K3 D4.ok fun b' e2=>D4.map fun _ _=>by rw[e1,e2];rfl,qaq ?_,fun A hA=>qaq ?_⟩
 ·show(qjV (stR T (.good l)).1 (stR T (.good l)).2.1 (stR T (.good l)).2.2 _ _ _ _ _ _ _ _ _ _).ev=_;rw[qjV];exact(biS hn).trans ((brT rfl).trans ((biS he).trans ((biS h1).trans ((biS h2).trans ((biS h3).trans ((biS h4).trans rfl))))))
 ·show(qjW (stR T (.good l)).1 (stR T (.good l)).2.1 (stR T (.good l)).2.2 _ _ _ _ _ _ _ _ _ _ A).ev=_;rw[qjW];exact(biS hn).trans ((brT rfl).trans ((biS he).trans ((biS h1).trans ((biS h2).trans ((biS h3).trans ((biS h4).trans ((brT (qdB (by simp only[lim,Prod.i,Prod.h,Prod.f];omega))).trans rfl)))))))
theorem quP:∀(n:Nat) (acc:List Tr) (l:List Tok),qcs n acc l=qdi [36] qi2 n acc l
 |0,_,_=>rfl
 |n+1,acc,l=>by
  simp only[qcs,qdi];cases isW [36] l
  ·rfl
  ·simp only[jAa]
   congr 1
   funext t r
   exact quP n _ _
theorem qE5:qg2=some (ES qiO):=by rw[qMe,qqO];rfl
theorem qE6:qg3=some (ES qiV):=by rw[qMf,qqP];rfl
theorem qr8:qjj=some (ES qfL):=by rw[qLV,qqv];rfl
theorem qih:qgZ=some (ES qdD):=by rw[qLG,qqg];rfl
theorem qCF{a b:Bs}(h:a≠b){p p':PS}{k:Int}(D:Does T (qfC 0 [b,a]) Eq p k p'):Does T (qfC 0 [a,b]) (fun j (v:Bool)=>v=(j==2)) p (k==1) p':=by
 refine Does.congr (z:=fun l=>(qfC 0 [b,a] l).bnd fun k r=>.ok (3-k) r) (D.map fun j hj=>?_) fun l _=>(q3H h l).symm
 subst hj;by_cases h1:j=1
 ·subst h1;rfl
 ·have e1:(j==1)=false:=by simpa using h1
  have e2:(3-j==2)=false:=by rw[jBj];omega
  rw[e1,e2]
theorem qwJ(hT:T.length<=1000000)(hv:∀t∈T,qaP t=true){w:Bs}(hw:qcu w=5){p:PS}(hp:p.Ok T):∃v p',qvK (stR T p).1 (stR T p).2.1 (stR T p).2.2 w=some ((stR T p').1,(stR T p').2.1,(stR T p').2.2,v.1,v.2.1,v.2.2.1,v.2.2.2.1,v.2.2.2.2)/\Does T (qCZ w) VIn p v p':=by
 obtain⟨p1,h1,D1⟩:=qjE hT hw hp;obtain⟨k,p2,h2,D2⟩:=qnZ hT (ws:=[[109,97,114,103,105,110,97,108],[119,104,111,108,101]]) (by decide) (by decide) D1.ok;obtain⟨b,p3,h3,D3⟩:=qnZ hT (ws:=qiO) (by decide) (by decide) D2.ok;obtain⟨mo,p4,h4,D4⟩:=qnZ hT (ws:=qiV) (by decide) (by decide) D3.ok;obtain⟨q,p5,h5,D5⟩:=qnZ hT (ws:=[[107,101,101,112],[100,114,111,112]]) (by decide) (by decide) D4.ok;obtain⟨p6,h6,D6⟩:=qjE hT (s:=[123]) (k:=4) rfl D5.ok
 let m:Mr:=(0,0,false,0,0,false,k==1,b,mo,q==1)
 obtain⟨p7,A,D7,a7,hL⟩:=qir hT (st:=stK) (fun p=>ki0 (stR T p) m) (fun p A=>ki1 (stR T p) m A) (w:=[36]) (f:=qi2) (av:=Tr.av) (fun p hp ha=>(qZK hp ha m).1) (fun p A hp ha=>(qZK hp ha m).2 A) (fun l hl hi=>zej hT hv m hl hi) (fun l x r h=>by have:=qzo h;omega) D6.ok;have D7':Does T (fun r=>qcs (r.length+1) [] r) (fun ts (v:List AV)=>v=ETr ts) p6 A p7:=D7.congr fun l _=>(quP _ _ _).symm
 obtain⟨p8,h8,D8⟩:=qjE hT (s:=[125]) (k:=4) rfl D7.ok;have S2:=qCF (T:=T) (by decide) D2;have S5:=qCF (T:=T) (by decide) D5;have K7:=D8.stuck;have K6:=D7.stuck.trans K7;have K5:=D6.stuck.trans K6;have K4:=D5.stuck.trans K5;have K3:=D4.stuck.trans K4;have K2:=D3.stuck.trans K3;have K1:=D2.stuck.trans K2;refine⟨(A,k==1,b,mo,q==1),p8,?_,D1.bnd K1 D8.ok fun _ _=>S2.bnd K2 D8.ok fun k' e2=>D3.bnd K3 D8.ok fun b' e3=>D4.bnd K4 D8.ok fun m' e4=>S5.bnd K5 D8.ok fun q' e5=>D6.bnd K6 D8.ok fun _ _=>D7'.bnd K7 D8.ok fun ts e7=>D8.map fun _ _=>by rw[e2,e3,e4,e5,e7]⟩;rw[qSU,qAp];refine(biS h1).trans ((biS h2).trans ((biS qE5).trans ((biS h3).trans ((biS qE6).trans ((biS h4).trans ((biS h5).trans ((biS h6).trans ?_)))))));rcases hL with⟨hL,rfl⟩|hL
 ·refine(biS (v:=ki0 (stR T p7) m) ?_).trans ((biS h8).trans rfl);rw[qmo];show pj 0 (qae stK (ki0 (stR T p6) m))=_;rw[hL];rfl
 ·refine(biN ?_).trans ((biS (v:=ki1 (stR T p7) m A) ?_).trans ((biS h8).trans rfl))
  ·rw[qmo];show pj 0 (qae stK (ki0 (stR T p6) m))=_;rw[hL];rfl
  ·rw[qmo];show pj 1 (qae stK (ki0 (stR T p6) m))=_;rw[hL];rfl
end
end Go.Proofs.H16
namespace Go.Proofs.H16
open Go Go.Eng Go.Tk
set_option maxRecDepth 20000
abbrev Rn:Type:=Int×Int×List UInt8×List UInt8×List UInt8×Int×Int×Int×Int×Bool×Int×Int×Bool×Bool×Int×Int×Bool×List UInt8×List UInt8×List UInt8×Int×Int×Int×Int×List AV×Bool×Int×Int×Bool×List AV×Bool×Int×Int×Bool
abbrev zuX(r:Rn)(F:List AV):Int×Int×List UInt8×List UInt8×List UInt8×Int×Int×Int×Int×Bool×Int×Int×Bool×Bool×Int×Int×Bool×List UInt8×List UInt8×List UInt8×Int×Int×Int×Int×List AV×Bool×Int×Int×Bool×List AV×Bool×Int×Int×Bool×List AV:=(r.1,r.2.1,r.2.2.1,r.2.2.2.1,r.2.2.2.2.1,r.2.2.2.2.2.1,r.2.2.2.2.2.2.1,r.2.2.2.2.2.2.2.1,r.2.2.2.2.2.2.2.2.1,r.2.2.2.2.2.2.2.2.2.1,r.2.2.2.2.2.2.2.2.2.2.1,r.2.2.2.2.2.2.2.2.2.2.2.1,r.2.2.2.2.2.2.2.2.2.2.2.2.1,r.2.2.2.2.2.2.2.2.2.2.2.2.2.1,r.2.2.2.2.2.2.2.2.2.2.2.2.2.2.1,r.2.2.2.2.2.2.2.2.2.2.2.2.2.2.2.1,r.2.2.2.2.2.2.2.2.2.2.2.2.2.2.2.2.1,r.2.2.2.2.2.2.2.2.2.2.2.2.2.2.2.2.2.1,r.2.2.2.2.2.2.2.2.2.2.2.2.2.2.2.2.2.2.1,r.2.2.2.2.2.2.2.2.2.2.2.2.2.2.2.2.2.2.2.1,r.2.2.2.2.2.2.2.2.2.2.2.2.2.2.2.2.2.2.2.2.1,r.2.2.2.2.2.2.2.2.2.2.2.2.2.2.2.2.2.2.2.2.2.1,r.2.2.2.2.2.2.2.2.2.2.2.2.2.2.2.2.2.2.2.2.2.2.1,r.2.2.2.2.2.2.2.2.2.2.2.2.2.2.2.2.2.2.2.2.2.2.2.1,r.2.2.2.2.2.2.2.2.2.2.2.2.2.2.2.2.2.2.2.2.2.2.2.2.1,r.2.2.2.2.2.2.2.2.2.2.2.2.2.2.2.2.2.2.2.2.2.2.2.2.2.1,r.2.2.2.2.2.2.2.2.2.2.2.2.2.2.2.2.2.2.2.2.2.2.2.2.2.2.1,r.2.2.2.2.2.2.2.2.2.2.2.2.2.2.2.2.2.2.2.2.2.2.2.2.2.2.2.1,r.2.2.2.2.2.2.2.2.2.2.2.2.2.2.2.2.2.2.2.2.2.2.2.2.2.2.2.2.1,r.2.2.2.2.2.2.2.2.2.2.2.2.2.2.2.2.2.2.2.2.2.2.2.2.2.2.2.2.2.1,r.2.2.2.2.2.2.2.2.2.2.2.2.2.2.2.2.2.2.2.2.2.2.2.2.2.2.2.2.2.2.1,r.2.2.2.2.2.2.2.2.2.2.2.2.2.2.2.2.2.2.2.2.2.2.2.2.2.2.2.2.2.2.2.1,r.2.2.2.2.2.2.2.2.2.2.2.2.2.2.2.2.2.2.2.2.2.2.2.2.2.2.2.2.2.2.2.2.1,r.2.2.2.2.2.2.2.2.2.2.2.2.2.2.2.2.2.2.2.2.2.2.2.2.2.2.2.2.2.2.2.2.2,F)
abbrev zuY(r:Rn)(F U:List AV):Int×Int×List UInt8×List UInt8×List UInt8×Int×Int×Int×Int×Bool×Int×Int×Bool×Bool×Int×Int×Bool×List UInt8×List UInt8×List UInt8×Int×Int×Int×Int×List AV×Bool×Int×Int×Bool×List AV×Bool×Int×Int×Bool×List AV×List AV:=(r.1,r.2.1,r.2.2.1,r.2.2.2.1,r.2.2.2.2.1,r.2.2.2.2.2.1,r.2.2.2.2.2.2.1,r.2.2.2.2.2.2.2.1,r.2.2.2.2.2.2.2.2.1,r.2.2.2.2.2.2.2.2.2.1,r.2.2.2.2.2.2.2.2.2.2.1,r.2.2.2.2.2.2.2.2.2.2.2.1,r.2.2.2.2.2.2.2.2.2.2.2.2.1,r.2.2.2.2.2.2.2.2.2.2.2.2.2.1,r.2.2.2.2.2.2.2.2.2.2.2.2.2.2.1,r.2.2.2.2.2.2.2.2.2.2.2.2.2.2.2.1,r.2.2.2.2.2.2.2.2.2.2.2.2.2.2.2.2.1,r.2.2.2.2.2.2.2.2.2.2.2.2.2.2.2.2.2.1,r.2.2.2.2.2.2.2.2.2.2.2.2.2.2.2.2.2.2.1,r.2.2.2.2.2.2.2.2.2.2.2.2.2.2.2.2.2.2.2.1,r.2.2.2.2.2.2.2.2.2.2.2.2.2.2.2.2.2.2.2.2.1,r.2.2.2.2.2.2.2.2.2.2.2.2.2.2.2.2.2.2.2.2.2.1,r.2.2.2.2.2.2.2.2.2.2.2.2.2.2.2.2.2.2.2.2.2.2.1,r.2.2.2.2.2.2.2.2.2.2.2.2.2.2.2.2.2.2.2.2.2.2.2.1,r.2.2.2.2.2.2.2.2.2.2.2.2.2.2.2.2.2.2.2.2.2.2.2.2.1,r.2.2.2.2.2.2.2.2.2.2.2.2.2.2.2.2.2.2.2.2.2.2.2.2.2.1,r.2.2.2.2.2.2.2.2.2.2.2.2.2.2.2.2.2.2.2.2.2.2.2.2.2.2.1,r.2.2.2.2.2.2.2.2.2.2.2.2.2.2.2.2.2.2.2.2.2.2.2.2.2.2.2.1,r.2.2.2.2.2.2.2.2.2.2.2.2.2.2.2.2.2.2.2.2.2.2.2.2.2.2.2.2.1,r.2.2.2.2.2.2.2.2.2.2.2.2.2.2.2.2.2.2.2.2.2.2.2.2.2.2.2.2.2.1,r.2.2.2.2.2.2.2.2.2.2.2.2.2.2.2.2.2.2.2.2.2.2.2.2.2.2.2.2.2.2.1,r.2.2.2.2.2.2.2.2.2.2.2.2.2.2.2.2.2.2.2.2.2.2.2.2.2.2.2.2.2.2.2.1,r.2.2.2.2.2.2.2.2.2.2.2.2.2.2.2.2.2.2.2.2.2.2.2.2.2.2.2.2.2.2.2.2.1,r.2.2.2.2.2.2.2.2.2.2.2.2.2.2.2.2.2.2.2.2.2.2.2.2.2.2.2.2.2.2.2.2.2,F,U)
abbrev kRA(s:StR)(r:Rn):qen:=.inl (s.1,s.2.1,s.2.2,r)
abbrev kRB(s:StR)(r:Rn)(F:List AV):qen:=.inr (s.1,s.2.1,s.2.2,zuX r F)
abbrev zuP(s:StR)(r:Rn):qcM:=.inl (s.1,s.2.1,s.2.2,r)
abbrev zuL(s:StR)(r:Rn)(F:List AV):qcM:=.inr (.inl (s.1,s.2.1,s.2.2,zuX r F))
abbrev zuS(s:StR)(r:Rn)(U:List AV):qcM:=.inr (.inr (.inl (s.1,s.2.1,s.2.2,zuX r U)))
abbrev zuT(s:StR)(r:Rn)(F U:List AV):qcM:=.inr (.inr (.inr (s.1,s.2.1,s.2.2,zuY r F U)))
noncomputable abbrev stG:=fun v=>(qez v).ev
noncomputable abbrev stM:=fun v=>(qb7 v).ev
section
variable {T:List Tok}
theorem qCp(r:Rn){p:PS}(hp:p.Ok T)(ha:ql1 qu1 p=false):qae stG (kRA (stR T p) r)=some (0,kRA (stR T p) r)/\ ∀A,qae stG (kRB (stR T p) r A)=some (1,kRB (stR T p) r A):=by
 have hacc:=qmz (s:=qu1) (k:=5) (by decide) hp;rw[ha]at hacc;refine⟨qaf ?_,fun A=>qaf ?_⟩
 ·show(qez (kRA (stR T p) r)).ev=_;rw[qez];simp only[jBy,jBx];rw[quq];exact(biS hacc).trans ((brF rfl).trans rfl)
 ·show(qez (kRB (stR T p) r A)).ev=_;rw[qez];simp only[jBy,jBx];rw[qur];exact(biS hacc).trans ((brF rfl).trans rfl)
theorem qkq(r:Rn){p:PS}(hp:p.Ok T)(ha:ql1 qwq p=false):qae stM (zuP (stR T p) r)=some (0,zuP (stR T p) r)/\(∀F,qae stM (zuL (stR T p) r F)=some (1,zuL (stR T p) r F))/\(∀U,qae stM (zuS (stR T p) r U)=some (2,zuS (stR T p) r U))/\ ∀F U,qae stM (zuT (stR T p) r F U)=some (3,zuT (stR T p) r F U):=by
 have hacc:=qmz (s:=qwq) (k:=5) (by decide) hp;rw[ha]at hacc;refine⟨qaf ?_,fun F=>qaf ?_,fun U=>qaf ?_,fun F U=>qaf ?_⟩
 ·show(qb7 (zuP (stR T p) r)).ev=_;rw[qb7];simp only[jBy,jBx];rw[qus];exact(biS hacc).trans ((brF rfl).trans rfl)
 ·show(qb7 (zuL (stR T p) r F)).ev=_;rw[qb7];simp only[jBy,jBx];rw[qut];exact(biS hacc).trans ((brF rfl).trans rfl)
 ·show(qb7 (zuS (stR T p) r U)).ev=_;rw[qb7];simp only[jBy,jBx];rw[quu];exact(biS hacc).trans ((brF rfl).trans rfl)
 ·show(qb7 (zuT (stR T p) r F U)).ev=_;rw[qb7];simp only[jBy,jBx];rw[quv];exact(biS hacc).trans ((brF rfl).trans rfl)
theorem qZJ(hT:T.length<=1000000)(hv:∀t∈T,qaP t=true)(r:Rn){l:List Tok}(hl:l <:+ T)(hi:isW qu1 l=true):∃a p',Does T (qBi exS) (fun x v=>v=Fe.av x) (.good l.tail) a p'/\qae stG (kRA (stR T (.good l)) r)=qae stG (kRB (stR T p') r [a])/\ ∀A,A.length<=1000000->qae stG (kRB (stR T (.good l)) r A)=qae stG (kRB (stR T p') r (A++[a])):=by
 have hn:=qmz (T:=T) (s:=qu1) (k:=5) (by decide) (p:=.good l) hl;rw[show ql1 qu1 (.good l)=true from hi]at hn;have he:=qcI hT (s:=qu1) (k:=5) (by decide) (p:=.good l) hl;rw[zqM hi]at he;obtain⟨n,p1,h1,D1,_⟩:=qtK hT hv 1 (p:=.good l.tail) (qaI hl);obtain⟨e,p2,h2,D2⟩:=qnZ hT (ws:=qfL) (by decide) (by decide) D1.ok;obtain⟨p3,h3,D3⟩:=qjE hT (s:=[119,104,101,110]) (k:=5) (by decide) D2.ok;obtain⟨w,p4,h4,D4⟩:=qXu hT hv D3.ok;obtain⟨p5,h5,D5⟩:=qjE hT (s:=[97,109,111,117,110,116,95,111,102]) (k:=5) (by decide) D4.ok;obtain⟨a,p6,h6,D6⟩:=qXu hT hv D5.ok;obtain⟨p7,h7,D7⟩:=qXx hT D6.ok;have K6:=D7.stuck;have K5:=D6.stuck.trans K6;have K4:=D5.stuck.trans K5;have K3:=D4.stuck.trans K4;have K2:=D3.stuck.trans K3;have K1:=D2.stuck.trans K2;refine⟨.agg [.str n,.int .i64 e,.int .i64 w.1,.int .i64 w.2.1,.str w.2.2.1,.view 4 w.2.2.2,.int .i64 a.1,.int .i64 a.2.1,.str a.2.2.1,.view 4 a.2.2.2],p7,D1.bnd K1 D7.ok fun n' e1=>D2.bnd K2 D7.ok fun e' e2=>D3.bnd K3 D7.ok fun _ _=>D4.bnd K4 D7.ok fun w' e4=>D5.bnd K5 D7.ok fun _ _=>D6.bnd K6 D7.ok fun a' e6=>D7.map fun _ _=>by rw[e1,e2,e4,e6];rfl,qaq ?_,fun A hA=>qaq ?_⟩
 ·show(qez (kRA (stR T (.good l)) r)).ev=_;rw[qez];simp only[jBy,jBx];rw[quq];exact(biS hn).trans ((brT rfl).trans ((biS he).trans ((biS h1).trans ((biS qr8).trans ((biS h2).trans ((biS h3).trans ((biS h4).trans ((biS h5).trans ((biS h6).trans ((biS h7).trans rfl))))))))))
 ·show(qez (kRB (stR T (.good l)) r A)).ev=_;rw[qez];simp only[jBy,jBx];rw[qur];exact(biS hn).trans ((brT rfl).trans ((biS he).trans ((biS h1).trans ((biS qr8).trans ((biS h2).trans ((biS h3).trans ((biS h4).trans ((biS h5).trans ((biS h6).trans ((biS h7).trans ((brT (qdB (by simp only[lim,Prod.i,Prod.h,Prod.f];omega))).trans rfl)))))))))))
theorem qwN(hT:T.length<=1000000)(hv:∀t∈T,qaP t=true)(r:Rn){l:List Tok}(hl:l <:+ T)(hi:isW qwq l=true):∃a p',Does T (qha exS) (fun x v=>v=Ru.av x) (.good l.tail) a p'/\qae stM (zuP (stR T (.good l)) r)=qae stM (zuS (stR T p') r [a])/\(∀U,U.length<=1000000->qae stM (zuS (stR T (.good l)) r U)=qae stM (zuS (stR T p') r (U++[a]))) /\
  (∀F,qae stM (zuL (stR T (.good l)) r F)=qae stM (zuT (stR T p') r F [a]))/\ ∀F U,U.length<=1000000->qae stM (zuT (stR T (.good l)) r F U)=qae stM (zuT (stR T p') r F (U++[a])):=by
 have hn:=qmz (T:=T) (s:=qwq) (k:=5) (by decide) (p:=.good l) hl;rw[show ql1 qwq (.good l)=true from hi]at hn;have he:=qcI hT (s:=qwq) (k:=5) (by decide) (p:=.good l) hl;rw[zqM hi]at he;obtain⟨n,p1,h1,D1,_⟩:=qtK hT hv 1 (p:=.good l.tail) (qaI hl);obtain⟨w,p2,h2,D2⟩:=qnZ hT (ws:=qdD) (by decide) (by decide) D1.ok;obtain⟨a,p3,h3,D3⟩:=qXu hT hv D2.ok;obtain⟨p4,h4,D4⟩:=qXx hT D3.ok;have K3:=D4.stuck;have K2:=D3.stuck.trans K3;have K1:=D2.stuck.trans K2;refine⟨.agg [.str n,.int .i64 w,.int .i64 a.1,.int .i64 a.2.1,.str a.2.2.1,.view 4 a.2.2.2],p4,D1.bnd K1 D4.ok fun n' e1=>D2.bnd K2 D4.ok fun w' e2=>D3.bnd K3 D4.ok fun a' e3=>D4.map fun _ _=>by rw[e1,e2,e3];rfl,qaq ?_,fun U hU=>qaq ?_,fun F=>qaq ?_,fun F U hU=>qaq ?_⟩
 ·show(qb7 (zuP (stR T (.good l)) r)).ev=_;rw[qb7];simp only[jBy,jBx];rw[qus];exact(biS hn).trans ((brT rfl).trans ((biS he).trans ((biS h1).trans ((biS qih).trans ((biS h2).trans ((biS h3).trans ((biS h4).trans rfl)))))))
 ·show(qb7 (zuS (stR T (.good l)) r U)).ev=_;rw[qb7];simp only[jBy,jBx];rw[quu];exact(biS hn).trans ((brT rfl).trans ((biS he).trans ((biS h1).trans ((biS qih).trans ((biS h2).trans ((biS h3).trans ((biS h4).trans ((brT (qdB (by simp only[lim,Prod.i,Prod.h,Prod.f];omega))).trans rfl))))))))
 ·show(qb7 (zuL (stR T (.good l)) r F)).ev=_;rw[qb7];simp only[jBy,jBx];rw[qut];exact(biS hn).trans ((brT rfl).trans ((biS he).trans ((biS h1).trans ((biS qih).trans ((biS h2).trans ((biS h3).trans ((biS h4).trans rfl)))))))
 ·show(qb7 (zuT (stR T (.good l)) r F U)).ev=_;rw[qb7];simp only[jBy,jBx];rw[quv];exact(biS hn).trans ((brT rfl).trans ((biS he).trans ((biS h1).trans ((biS qih).trans ((biS h2).trans ((biS h3).trans ((biS h4).trans ((brT (qdB (by simp only[lim,Prod.i,Prod.h,Prod.f];omega))).trans rfl))))))))
noncomputable def qXq(l:List Tok):Pz Pr:=(qcJ [112,114,111,100,117,99,116] l).bnd fun _ r=>(qcO 1 r).bnd fun nm r=>(qct [[123],[99,117,114,114,101,110,99,121]] r).bnd fun _ r=>(qgq r).bnd fun cu r=>(qct [[59],[99,97,108,101,110,100,97,114]] r).bnd fun _ r=>(qcO 1 r).bnd fun ca r=>
 (qct [[59],[102,114,111,109]] r).bnd fun _ r=>(qEd qiQ r).bnd fun fr r=>(qct [[59],[101,118,101,114,121]] r).bnd fun _ r=>(qpc r).bnd fun ev r=>(qct [[59],[111,118,101,114,100,114,97,102,116],[36]] r).bnd fun _ r=>(qpc r).bnd fun ov r=>
 (qct [[59],[116,97,120]] r).bnd fun _ r=>(qkT r).bnd fun tx r=>(qcJ [59] r).bnd fun _ r=>(qCZ [99,114,101,100,105,116] r).bnd fun cr r=>(qCZ [100,101,98,105,116] r).bnd fun de r=>
 ((fun r=>qdi qu1 (qBi exS) (r.length+1) [] r) r).bnd fun fs r=>((fun r=>qdi qwq (qha exS) (r.length+1) [] r) r).bnd fun rs r=>(qcJ [125] r).bnd fun _ r=>.ok (⟨nm,cu,ca,fr,ev,ov,tx,cr,de,fs,rs⟩:Pr) r
theorem qXr(l:List Tok):qg8 exS qiQ l=(qXq l).bnd fun x r=>zn7 x r:=by
 rw[qCb];unfold qXq;simp only[qRC];rfl
def zun(s:StR)(v:PrV):qPX:=(s.1,s.2.1,s.2.2,v.1,v.2.1,v.2.2.1,v.2.2.2.1,v.2.2.2.2.1,v.2.2.2.2.2.1,v.2.2.2.2.2.2.1,v.2.2.2.2.2.2.2.1.1,v.2.2.2.2.2.2.2.1.2.1,v.2.2.2.2.2.2.2.1.2.2.1,v.2.2.2.2.2.2.2.1.2.2.2.1,v.2.2.2.2.2.2.2.1.2.2.2.2,v.2.2.2.2.2.2.2.2.1.1,v.2.2.2.2.2.2.2.2.1.2.1,v.2.2.2.2.2.2.2.2.1.2.2.1,v.2.2.2.2.2.2.2.2.1.2.2.2.1,v.2.2.2.2.2.2.2.2.1.2.2.2.2,v.2.2.2.2.2.2.2.2.2.1,v.2.2.2.2.2.2.2.2.2.2)
theorem qXw(hT:T.length<=1000000)(hv:∀t∈T,qaP t=true){p:PS}(hp:p.Ok T):∃v p',qBh (stR T p).1 (stR T p).2.1 (stR T p).2.2=some (zun (stR T p') v)/\Does T qXq VPr p v p':=by
 obtain⟨p0,h0,D0⟩:=qjE hT (s:=[112,114,111,100,117,99,116]) (k:=5) (by decide) hp;obtain⟨nm,p1,h1,D1,_⟩:=qtK hT hv 1 D0.ok;have h2a:=qcI hT (s:=[123]) (k:=4) (by decide) D1.ok;have h2b:=qcI hT (s:=[99,117,114,114,101,110,99,121]) (k:=5) (by decide) (qd8 (s:=[123]) D1.ok);have D2:=qdh (T:=T) [[123],[99,117,114,114,101,110,99,121]] D1.ok;obtain⟨cu,p3,h3,D3⟩:=zkl hT hv D2.ok;have h4a:=qkl hT D3.ok;have h4b:=qcI hT (s:=[99,97,108,101,110,100,97,114]) (k:=5) (by decide) (qd8 (s:=[59]) D3.ok);have D4:=qdh (T:=T) [[59],[99,97,108,101,110,100,97,114]] D3.ok;obtain⟨ca,p5,h5,D5,_⟩:=qtK hT hv 1 D4.ok;have h6a:=qkl hT D5.ok;have h6b:=qcI hT (s:=[102,114,111,109]) (k:=5) (by decide) (qd8 (s:=[59]) D5.ok);have D6:=qdh (T:=T) [[59],[102,114,111,109]] D5.ok;obtain⟨fr,p7,h7,D7⟩:=zqj hT hv D6.ok;have h8a:=qkl hT D7.ok;have h8b:=qcI hT (s:=[101,118,101,114,121]) (k:=5) (by decide) (qd8 (s:=[59]) D7.ok);have D8:=qdh (T:=T) [[59],[101,118,101,114,121]] D7.ok;obtain⟨ev,p9,h9,D9⟩:=qkm hT hv D8.ok;have h10a:=qkl hT D9.ok;have h10b:=qcI hT (s:=[111,118,101,114,100,114,97,102,116]) (k:=5) (by decide) (qd8 (s:=[59]) D9.ok);have h10c:=qcI hT (s:=[36]) (k:=4) (by decide) (qd8 (s:=[111,118,101,114,100,114,97,102,116]) (qd8 (s:=[59]) D9.ok));have D10:=qdh (T:=T) [[59],[111,118,101,114,100,114,97,102,116],[36]] D9.ok;obtain⟨ov,p11,h11,D11⟩:=qkm hT hv D10.ok;have h12a:=qkl hT D11.ok;have h12b:=qcI hT (s:=[116,97,120]) (k:=5) (by decide) (qd8 (s:=[59]) D11.ok);have D12:=qdh (T:=T) [[59],[116,97,120]] D11.ok;obtain⟨tx,p13,h13,D13⟩:=q8X hT hv D12.ok;obtain⟨p14,h14,D14⟩:=qXx hT D13.ok;obtain⟨cr,p15,h15,D15⟩:=qwJ hT hv (w:=[99,114,101,100,105,116]) (by decide) D14.ok;obtain⟨de,p16,h16,D16⟩:=qwJ hT hv (w:=[100,101,98,105,116]) (by decide) D15.ok
 let r:Rn:=(0,0,[],[],[],0,0,0,0,false,0,0,false,false,0,0,false,nm,cu,ca,fr,ev,ov,tx,cr.1,cr.2.1,cr.2.2.1,cr.2.2.2.1,cr.2.2.2.2,de.1,de.2.1,de.2.2.1,de.2.2.2.1,de.2.2.2.2)
 obtain⟨p17,F,D17,a17,hF⟩:=qir hT (st:=stG) (fun p=>kRA (stR T p) r) (fun p A=>kRB (stR T p) r A) (w:=qu1) (f:=qBi exS) (av:=Fe.av) (fun p hp ha=>(qCp r hp ha).1) (fun p A hp ha=>(qCp r hp ha).2 A) (fun l hl hi=>qZJ hT hv r hl hi) (fun l x r h=>qS5 h) D16.ok;have fin:∀(U:List AV) (p18:PS),Does T (fun r=>qdi qwq (qha exS) (r.length+1) [] r) (fun xs (v:List AV)=>v=xs.map Ru.av) p17 U p18-> ∃p19,qaM (stR T p18).1 (stR T p18).2.1 (stR T p18).2.2 4 [125]=some (stR T p19)/\p19.Ok T/\Does T qXq VPr p (nm,cu,ca,fr,ev,ov,tx,cr,de,F,U) p19:=by
  intro U p18 D18;obtain⟨p19,h19,D19⟩:=qjE hT (s:=[125]) (k:=4) rfl D18.ok;have ok:=D19.ok;refine⟨p19,h19,ok,?_⟩;have K18:=D19.stuck;have K17:=D18.stuck.trans K18;have K16:=D17.stuck.trans K17;have K15:=D16.stuck.trans K16;have K14:=D15.stuck.trans K15;have K13:=D14.stuck.trans K14;have K12:=D13.stuck.trans K13;have K11:=D12.stuck.trans K12;have K10:=D11.stuck.trans K11;have K9:=D10.stuck.trans K10;have K8:=D9.stuck.trans K9;have K7:=D8.stuck.trans K8;have K6:=D7.stuck.trans K7;have K5:=D6.stuck.trans K6;have K4:=D5.stuck.trans K5;have K3:=D4.stuck.trans K4;have K2:=D3.stuck.trans K3;have K1:=D2.stuck.trans K2;have K0:=D1.stuck.trans K1;exact D0.bnd K0 ok fun _ _=>D1.bnd K1 ok fun nm' e1=>D2.bnd K2 ok fun _ _=>D3.bnd K3 ok fun cu' e3=>D4.bnd K4 ok fun _ _=>D5.bnd K5 ok fun ca' e5=>D6.bnd K6 ok fun _ _=>D7.bnd K7 ok fun fr' e7=>D8.bnd K8 ok fun _ _=>D9.bnd K9 ok fun ev' e9=>D10.bnd K10 ok fun _ _=>D11.bnd K11 ok fun ov' e11=>
   D12.bnd K12 ok fun _ _=>D13.bnd K13 ok fun tx' e13=>D14.bnd K14 ok fun _ _=>D15.bnd K15 ok fun cr' e15=>D16.bnd K16 ok fun de' e16=>D17.bnd K17 ok fun fs' e17=>D18.bnd K18 ok fun rs' e18=>D19.map fun _ _=>by show _=_;rw[e1,e3,e5,e7,e9,e11,e13,e15,e16,e17,e18]
 rw[qS0,qAw];rcases hF with⟨hF,rfl⟩|hF
 ·obtain⟨p18,U,D18,a18,hL⟩:=qir hT (st:=stM) (fun p=>zuP (stR T p) r) (fun p A=>zuS (stR T p) r A) (w:=qwq) (f:=qha exS) (av:=Ru.av) (fun p hp ha=>(qkq r hp ha).1) (fun p A hp ha=>(qkq r hp ha).2.2.1 A) (fun l hl hi=>by
   obtain⟨a,p',D,q1,q2,_⟩:=qwN hT hv r hl hi;exact⟨a,p',D,q1,q2⟩) (fun l x r h=>qpz h) D17.ok
  obtain⟨p19,h19,hok,hD⟩:=fin U p18 D18;rcases hL with⟨hL,rfl⟩|hL
  ·refine⟨(nm,cu,ca,fr,ev,ov,tx,cr,de,[],[]),p19,?_,hD⟩;refine(biS h0).trans ((biS h1).trans ((biS h2a).trans ((biS h2b).trans ((biS h3).trans ((biS h4a).trans ((biS h4b).trans ((biS h5).trans ((biS h6a).trans ((biS h6b).trans ((biS h7).trans ((biS h8a).trans ((biS h8b).trans ((biS h9).trans ((biS h10a).trans ((biS h10b).trans ((biS h10c).trans ((biS h11).trans ((biS h12a).trans ((biS h12b).trans ((biS h13).trans ((biS h14).trans ((biS h15).trans ((biS h16).trans (?_))))))))))))))))))))))));refine(biS (v:=kRA (stR T p17) r) ?_).trans ?_
   ·rw[qgc];show pj 0 (qae stG (kRA (stR T p16) r))=_;rw[hF];rfl
   refine(biS (v:=zuP (stR T p18) r) ?_).trans ?_
   ·rw[qcC];show pj 0 (qae stM (zuP (stR T p17) r))=_;rw[hL];rfl
   exact(biS h19).trans rfl
  ·refine⟨(nm,cu,ca,fr,ev,ov,tx,cr,de,[],U),p19,?_,hD⟩;refine(biS h0).trans ((biS h1).trans ((biS h2a).trans ((biS h2b).trans ((biS h3).trans ((biS h4a).trans ((biS h4b).trans ((biS h5).trans ((biS h6a).trans ((biS h6b).trans ((biS h7).trans ((biS h8a).trans ((biS h8b).trans ((biS h9).trans ((biS h10a).trans ((biS h10b).trans ((biS h10c).trans ((biS h11).trans ((biS h12a).trans ((biS h12b).trans ((biS h13).trans ((biS h14).trans ((biS h15).trans ((biS h16).trans (?_))))))))))))))))))))))));refine(biS (v:=kRA (stR T p17) r) ?_).trans ?_
   ·rw[qgc];show pj 0 (qae stG (kRA (stR T p16) r))=_;rw[hF];rfl
   refine(biN ?_).trans ?_
   ·rw[qcC];show pj 0 (qae stM (zuP (stR T p17) r))=_;rw[hL];rfl
   refine(biN ?_).trans ?_
   ·rw[qcC];show pj 1 (qae stM (zuP (stR T p17) r))=_;rw[hL];rfl
   refine(biS (v:=zuS (stR T p18) r U) ?_).trans ?_
   ·rw[qcC];show pj 2 (qae stM (zuP (stR T p17) r))=_;rw[hL];rfl
   exact(biS h19).trans rfl
 ·obtain⟨p18,U,D18,a18,hL⟩:=qir hT (st:=stM) (fun p=>zuL (stR T p) r F) (fun p A=>zuT (stR T p) r F A) (w:=qwq) (f:=qha exS) (av:=Ru.av) (fun p hp ha=>(qkq r hp ha).2.1 F) (fun p A hp ha=>(qkq r hp ha).2.2.2 F A) (fun l hl hi=>by
   obtain⟨a,p',D,_,_,q1,q2⟩:=qwN hT hv r hl hi;exact⟨a,p',D,q1 F,q2 F⟩) (fun l x r h=>qpz h) D17.ok
  obtain⟨p19,h19,hok,hD⟩:=fin U p18 D18;rcases hL with⟨hL,rfl⟩|hL
  ·refine⟨(nm,cu,ca,fr,ev,ov,tx,cr,de,F,[]),p19,?_,hD⟩;refine(biS h0).trans ((biS h1).trans ((biS h2a).trans ((biS h2b).trans ((biS h3).trans ((biS h4a).trans ((biS h4b).trans ((biS h5).trans ((biS h6a).trans ((biS h6b).trans ((biS h7).trans ((biS h8a).trans ((biS h8b).trans ((biS h9).trans ((biS h10a).trans ((biS h10b).trans ((biS h10c).trans ((biS h11).trans ((biS h12a).trans ((biS h12b).trans ((biS h13).trans ((biS h14).trans ((biS h15).trans ((biS h16).trans (?_))))))))))))))))))))))));refine(biN ?_).trans ?_
   ·rw[qgc];show pj 0 (qae stG (kRA (stR T p16) r))=_;rw[hF];rfl
   refine(biS (v:=kRB (stR T p17) r F) ?_).trans ?_
   ·rw[qgc];show pj 1 (qae stG (kRA (stR T p16) r))=_;rw[hF];rfl
   refine(biN ?_).trans ?_
   ·rw[qcC];show pj 0 (qae stM (zuL (stR T p17) r F))=_;rw[hL];rfl
   refine(biS (v:=zuL (stR T p18) r F) ?_).trans ?_
   ·rw[qcC];show pj 1 (qae stM (zuL (stR T p17) r F))=_;rw[hL];rfl
   exact(biS h19).trans rfl
  ·refine⟨(nm,cu,ca,fr,ev,ov,tx,cr,de,F,U),p19,?_,hD⟩;refine(biS h0).trans ((biS h1).trans ((biS h2a).trans ((biS h2b).trans ((biS h3).trans ((biS h4a).trans ((biS h4b).trans ((biS h5).trans ((biS h6a).trans ((biS h6b).trans ((biS h7).trans ((biS h8a).trans ((biS h8b).trans ((biS h9).trans ((biS h10a).trans ((biS h10b).trans ((biS h10c).trans ((biS h11).trans ((biS h12a).trans ((biS h12b).trans ((biS h13).trans ((biS h14).trans ((biS h15).trans ((biS h16).trans (?_))))))))))))))))))))))));refine(biN ?_).trans ?_
   ·rw[qgc];show pj 0 (qae stG (kRA (stR T p16) r))=_;rw[hF];rfl
   refine(biS (v:=kRB (stR T p17) r F) ?_).trans ?_
   ·rw[qgc];show pj 1 (qae stG (kRA (stR T p16) r))=_;rw[hF];rfl
   refine(biN ?_).trans ?_
   ·rw[qcC];show pj 0 (qae stM (zuL (stR T p17) r F))=_;rw[hL];rfl
   refine(biN ?_).trans ?_
   ·rw[qcC];show pj 1 (qae stM (zuL (stR T p17) r F))=_;rw[hL];rfl
   refine(biN ?_).trans ?_
   ·rw[qcC];show pj 2 (qae stM (zuL (stR T p17) r F))=_;rw[hL];rfl
   refine(biS (v:=zuT (stR T p18) r F U) ?_).trans ?_
   ·rw[qcC];show pj 3 (qae stM (zuL (stR T p17) r F))=_;rw[hL];rfl
   exact(biS h19).trans rfl
theorem q8W{q:List Tok}(hT:T.length<=1000000):qnv (ET T) (pos T q)=some (qBG T (T.length-q.length)):=by
 rw[qLX,qqx];by_cases h0:T.length=0
 ·have hn:T= []:=jAy.1 h0;subst hn;rfl
 ·have hne:(((ET T).length:Int)==0)=false:=by rw[jA5,jBj];omega
  have hw:IntKind.i64.wrap (((ET T).length:Int)-1)=((T.length-1:Nat):Int):=by
   rw[jA5,wrap64 (by omega) (by omega)];omega
  have hmin:(if IntKind.i64.wrap (((ET T).length:Int)-1)<pos T q then IntKind.i64.wrap (((ET T).length:Int)-1)else pos T q)=((min (T.length-q.length) (T.length-1):Nat):Int):=by
   rw[hw];unfold pos;split<;>omega
  refine(brF hne).trans ?_;rw[hmin];refine(brT (okT (by omega))).trans ?_;rw[qs8 (by omega)];rfl
end
theorem qE4(s:Bs):qsh s=some (zj4 (prV (qNV s).1) (qNV s).2):=by
 rw[qMc,qqM];refine(biS (qrK s)).trans ?_;unfold qNV qpe;cases he:((qbr s).2.2 != 0)
 ·refine(brF rfl).trans ?_;have h0:(qbr s).2.2=0:=by simpa using he
  obtain⟨hv,hl,_⟩:=qGE h0;generalize (qbr s).1=T at hv hl;have hT:T.length<=1000000:=by omega
  have hst:stR T (.good T)=(ET T,0,0):=by
   show(ET T,pos T T,(0:Int))=_;unfold pos;rw[Nat.sub_self];rfl
  obtain⟨v,p',h1,D⟩:=qXw hT hv (p:=.good T) (jCa T);rw[hst]at h1;refine(biS h1).trans ?_;have D2:=D.2;dsimp only at D2;simp only[jA9];have hz:=qXr T;cases hw:qXq T with
  |bad q e=>
   rw[hw]at D2 hz;obtain⟨k,rfl⟩:=D2;rw[show qg8 exS qiQ T= .bad q e from hz];refine(biS (v:=false) (by show br (e==0) _ _=_;rw[qAL D.ok.1];rfl)).trans ((brF rfl).trans ((brT (ql9 D.ok.1)).trans ((biS (q8W hT)).trans rfl)))
  |ok x r=>
   rw[hw]at D2 hz;obtain⟨hx,rfl⟩:=D2;subst hx;cases r with
   |nil=>
    rw[show qg8 exS qiQ T= .ok x []from hz];refine(biS (v:=false) ?_).trans ((brF rfl).trans ((brF rfl).trans rfl));show br ((0:Int)==0) (some (decide (pos T []<((ET T).length:Int)))) _=_;rw[qJP];rfl
   |cons t r=>
    rw[show qg8 exS qiQ T= .bad (t::r) 2 from hz];refine(biS (v:=true) ?_).trans ((brT rfl).trans ((biS (qKh 2 (p:=.good (t::r)) D.ok)).trans ((brT rfl).trans ((biS (q8W (q:=t::r) hT)).trans rfl))));show br ((0:Int)==0) (some (decide (pos T (t::r)<((ET T).length:Int)))) _=_;rw[zm7 D.ok];rfl
 ·exact(brT rfl).trans rfl
theorem qT3{n:Nat}(h:n<=1000000):n<=big:=jAz h (by decide)
def FeW(x:Fe):Prop:=Wd x.when_/\Wd x.amount
structure PrW (p:Pr):Prop where
 crl:p.cr.tiers.length<=1000000
 del:p.de.tiers.length<=1000000
 fel:p.fees.length<=1000000
 rul:p.rules.length<=1000000
 fees:∀x∈p.fees,FeW x
 rules:∀x∈p.rules,Wd x.amount
theorem qvJ{a b:In}(ha:a.tiers.length<=1000000)(hb:b.tiers.length<=1000000):qsA (ETr a.tiers) a.marg a.basis a.mode a.keep (ETr b.tiers) b.marg b.basis b.mode b.keep=some (qiW a b):=by
 rw[qSS,qAn,jA5,jA5,qiW];by_cases hl:a.tiers.length=b.tiers.length
 ·have e1:((a.tiers.length:Int) != (b.tiers.length:Int))=false:=by simp[hl]
  have e2:(a.tiers.length==b.tiers.length)=true:=by simp[hl]
  have hloop:∃w,qBv (0,ETr a.tiers,a.marg,a.basis,a.mode,a.keep,ETr b.tiers,b.marg,b.basis,b.mode,b.keep)=some (bif (List.range a.tiers.length).any (qkQ eqT a.tiers b.tiers)then 0 else 1,w):=by
   have h:=qgE (st:=fun v=>(qoC v).ev) (N:=a.tiers.length) (hd:=fun i=>((i:Int),ETr a.tiers,a.marg,a.basis,a.mode,a.keep,ETr b.tiers,b.marg,b.basis,b.mode,b.keep)) (jx:=fun _=>0) (qkQ eqT a.tiers b.tiers) 1 (fun i hn=>?_) ?_
   ·rw[qbm]at h;rw[qBw];exact⟨_,h⟩
   ·have hn':i<b.tiers.length:=by omega
    simp only[qoC,qup,jA5,qa0 hn,zsU hn,zsU hn',zsY hn,zsZ hn,zsY hn',zsZ hn',ev_br,ev_at,jAa,qat hn (qT3 ha),jB2,qkQ,jAh hn,jAh hn',eqT];cases(a.tiers[i].from_==b.tiers[i].from_&&(a.tiers[i].ppm==b.tiers[i].ppm&&true))<;>rfl
   ·simp[qoC,qup]
  obtain⟨w,h⟩:=hloop;rw[e1,e2,h,jAr rfl,jAr rfl,qi9,ev_bi_some,qi9,ev_bi_some,qi9,ev_bi_some,qi9,ev_bi_some,ev_br];simp only[bne];generalize (a.marg==b.marg)=q1;generalize (a.basis==b.basis)=q2;generalize (a.mode==b.mode)=q3;generalize (a.keep==b.keep)=q4;cases(List.range a.tiers.length).any (qkQ eqT a.tiers b.tiers)<;>cases q1<;>cases q2<;>cases q3<;>cases q4<;>rfl
 ·have e1:((a.tiers.length:Int) != (b.tiers.length:Int))=true:=by simp;omega
  have e2:(a.tiers.length==b.tiers.length)=false:=by simpa using hl
  rw[e1,e2,qi9,ev_bi_some,qi9,ev_bi_some,qi9,ev_bi_some,qi9,ev_bi_some,ev_br];rfl
theorem qAD:∀(e:Ex),Wd e-> ∀(f:Ex),Wd f-> ∀k,e.dep<=k->qej k e.op e.num e.txt (EX e.args) f.op f.num f.txt (EX f.args)=some (qew e f):=by
 intro e
 induction e using Ex.ind with
 |h o n s l ih=>
  intro hw f hf k hk;have hd:=Ex.dep_pos (.mk o n s l);obtain⟨k,rfl⟩:∃k',k=k'+1:=⟨k-1,by omega⟩;obtain⟨o',n',s',m⟩:=f;have hlen:l.length<=big:=hw.len;show(qq0 (qej k) o n s (EX l) o' n' s' (EX m)).ev=_;rw[qq0,jA5,jA5,qi9,ev_bi_some,qi9,ev_bi_some,qi9,ev_bi_some,ev_br,qew,qjN,qdj];by_cases hl:l.length=m.length
  ·have e1:((l.length:Int) != (m.length:Int))=false:=by simp[hl]
   have e2:(l.length==m.length)=true:=by simp[hl]
   have hloop:∃w,qs3 (qej k) (0,o,n,s,EX l,o',n',s',EX m)=some (bif (List.range l.length).any (qkQ qew l m)then 0 else 1,w):=by
    have h:=qgE (st:=fun v=>(qkG (qej k) v).ev) (N:=l.length) (hd:=fun i=>((i:Int),o,n,s,EX l,o',n',s',EX m)) (jx:=fun _=>0) (qkQ qew l m) 1 (fun i hn=>?_) ?_
    ·rw[qbm]at h;rw[qwi];exact⟨_,h⟩
    ·have hn':i<m.length:=by omega
     have hxd:=qRY (e:=.mk o n s l) (x:=l[i]) (jAi hn);have hv:=ih l[i] (jAi hn) (hw.arg (jAi hn)) m[i] (hf.arg (jAi hn')) k (by omega);simp only[Prod.f,Prod.h,qkG,qoz,jA5,qa0 hn,okX hn,okX hn',qx0 hn,qx1 hn,qx2 hn,qx3 hn,qx0 hn',qx1 hn',qx2 hn',qx3 hn',hv,ev_bi_some,ev_br,ev_at,jAa,qat hn hlen,qkQ,jAh hn,jAh hn'];cases qew l[i] m[i]<;>rfl
    ·simp[Prod.f,Prod.h,qkG,qoz]
   obtain⟨w,h⟩:=hloop;rw[e1,e2,h];simp only[bne];generalize (o==o')=q1;generalize (n==n')=q2;generalize (s==s')=q3;cases(List.range l.length).any (qkQ qew l m)<;>cases q1<;>cases q2<;>cases q3<;>rfl
  ·have e1:((l.length:Int) != (m.length:Int))=true:=by simp;omega
   have e2:(l.length==m.length)=false:=by simpa using hl
   rw[e1,e2];simp
theorem qlD{e f:Ex}(he:Wd e)(hf:Wd f):qnA e.op e.num e.txt (EX e.args) f.op f.num f.txt (EX f.args)=some (qew e f):=qdz (qAD e he f hf)
theorem qEC{l m:List Fe}(hlen:l.length<=1000000)(hl':∀x∈l,FeW x)(hm':∀x∈m,FeW x):qnp (EF l) (EF m)=some (qdj qgK l m):=by
 rw[qLr,qp3,qdj,jA5,jA5];by_cases hl:l.length=m.length
 ·have e1:((l.length:Int) != (m.length:Int))=false:=by simp[hl]
  have e2:(l.length==m.length)=true:=by simp[hl]
  have hloop:∃w,qsR (EF l,EF m,0)=some (bif (List.range l.length).any (qkQ qgK l m)then 0 else 1,w):=by
   have h:=qgE (st:=fun v=>(qku v).ev) (N:=l.length) (hd:=fun i=>(EF l,EF m,(i:Int))) (jx:=fun _=>0) (qkQ qgK l m) 1 (fun i hn=>?_) ?_
   ·rw[qbm]at h;rw[qvS];exact⟨_,h⟩
   ·have hn':i<m.length:=by omega
    simp only[qku,qoa,jA5,qa0 hn,okF hn,okF hn',qf0 hn,qf1 hn,qf2 hn,qf3 hn,qf4 hn,qf5 hn,qf6 hn,qf7 hn,qf8 hn,qf9 hn,qf0 hn',qf1 hn',qf2 hn',qf3 hn',qf4 hn',qf5 hn',qf6 hn',qf7 hn',qf8 hn',qf9 hn',qlD (hl' _ (jAi hn)).1 (hm' _ (jAi hn')).1,qlD (hl' _ (jAi hn)).2 (hm' _ (jAi hn')).2,ev_bi_some,ev_br,ev_at,jAa,qat hn (qT3 hlen),qkQ,jAh hn,jAh hn',qgK,bne];cases(l[i].name==m[i].name)<;>cases(l[i].event==m[i].event)<;>cases qew l[i].when_ m[i].when_<;>cases qew l[i].amount m[i].amount<;>rfl
   ·simp[qku,qoa]
  obtain⟨w,h⟩:=hloop;rw[e1,e2,h];cases(List.range l.length).any (qkQ qgK l m)<;>simp(decide:=true)
 ·have e1:((l.length:Int) != (m.length:Int))=true:=by simp;omega
  have e2:(l.length==m.length)=false:=by simpa using hl
  rw[e1,e2];rfl
abbrev HdS(p q:Pr)(i:Int):qd4:=(i,p.name,p.cur,p.cal,p.from_,p.every,p.over,p.tax,ETr p.cr.tiers,p.cr.marg,p.cr.basis,p.cr.mode,p.cr.keep,ETr p.de.tiers,p.de.marg,p.de.basis,p.de.mode,p.de.keep,EF p.fees,ER p.rules,
 q.name,q.cur,q.cal,q.from_,q.every,q.over,q.tax,ETr q.cr.tiers,q.cr.marg,q.cr.basis,q.cr.mode,q.cr.keep,ETr q.de.tiers,q.de.marg,q.de.basis,q.de.mode,q.de.keep,EF q.fees,ER q.rules)
theorem qFM{p q:Pr}(hp:PrW p)(hq:PrW q)(hl:p.rules.length=q.rules.length):∃w,qnS (HdS p q 0)=some (bif (List.range p.rules.length).any (qkQ qgL p.rules q.rules)then 0 else 1,w):=by
 have h:=qgE (st:=fun v=>(qkH v).ev) (N:=p.rules.length) (hd:=fun i=>HdS p q (i:Int)) (jx:=fun _=>0) (qkQ qgL p.rules q.rules) 1 (fun i hn=>?_) ?_
 ·rw[qbm]at h;rw[qwj];exact⟨_,h⟩
 ·have hn':i<q.rules.length:=by omega
  simp only[HdS,qkH,qoA,jA5,qa0 hn,okR hn,okR hn',qr0 hn,qr1 hn,qr2 hn,qr3 hn,qr4 hn,qr5 hn,qr0 hn',qr1 hn',qr2 hn',qr3 hn',qr4 hn',qr5 hn',qlD (hp.rules _ (jAi hn)) (hq.rules _ (jAi hn')),ev_bi_some,ev_br,ev_at,jAa,qat hn (qT3 hp.rul),qkQ,jAh hn,jAh hn',qgL,bne];cases(p.rules[i].name==q.rules[i].name)<;>cases(p.rules[i].window==q.rules[i].window)<;>cases qew p.rules[i].amount q.rules[i].amount<;>rfl
 ·simp[qkH,qoA]
theorem qFe{p q:Pr}(hp:PrW p)(hq:PrW q):qg6 p.name p.cur p.cal p.from_ p.every p.over p.tax (ETr p.cr.tiers) p.cr.marg p.cr.basis p.cr.mode p.cr.keep (ETr p.de.tiers) p.de.marg p.de.basis p.de.mode p.de.keep (EF p.fees) (ER p.rules)
  q.name q.cur q.cal q.from_ q.every q.over q.tax (ETr q.cr.tiers) q.cr.marg q.cr.basis q.cr.mode q.cr.keep (ETr q.de.tiers) q.de.marg q.de.basis q.de.mode q.de.keep (EF q.fees) (ER q.rules)=some (qo5 p q):=by
 have hR:∃b:Bool,qdj qgL p.rules q.rules=b:=⟨_,rfl⟩;rw[qMr,qq2,qvJ hp.crl hq.crl,qvJ hp.del hq.del,qEC hp.fel hp.fees hq.fees,qo5,jA5,jA5];have hz:∀b1 b2 b3 b4 b5 b6 b7:Bool,((((((!b1 || !b2) || !b3)||b4)||b5)||b6)||b7)=((!b1)||((!b2)||((!b3)||(b4||(b5||(b6||b7)))))):=by intro b1 b2 b3 b4 b5 b6 b7;simp only[Bool.or_assoc]
 rw[<-hz,qi9,ev_bi_some,qi9,ev_bi_some,qi9,ev_bi_some,qi9,ev_bi_some,qi9,ev_bi_some,qi9,ev_bi_some,ev_br,ev_bi_some,sm_some,sm_some,gv_some,gv_some];have hloop:p.rules.length=q.rules.length-> ∃w,qnS (HdS p q 0)=some (bif (List.range p.rules.length).any (qkQ qgL p.rules q.rules)then 0 else 1,w):=qFM hp hq;simp only[HdS]at hloop;generalize ((((((!(p.name==q.name) || !(p.cur==q.cur)) || !(p.cal==q.cal))||(p.from_ != q.from_))||(p.every != q.every))||(p.over != q.over))||(p.tax != q.tax))=z;generalize qiW p.cr q.cr=b8;generalize qiW p.de q.de=b9;generalize qdj qgK p.fees q.fees=b10;cases z
 ·cases b8
  ·rfl
  ·cases b9
   ·rfl
   ·cases b10
    ·rfl
    ·rw[qdj];by_cases hl:p.rules.length=q.rules.length
     ·have e1:((p.rules.length:Int) != (q.rules.length:Int))=false:=by simp[hl]
      have e2:(p.rules.length==q.rules.length)=true:=by simp[hl]
      obtain⟨w,h⟩:=hloop hl;rw[e1,e2,h];cases(List.range p.rules.length).any (qkQ qgL p.rules q.rules)<;>rfl
     ·have e1:((p.rules.length:Int) != (q.rules.length:Int))=true:=by simp;omega
      have e2:(p.rules.length==q.rules.length)=false:=by simpa using hl
      rw[e1,e2];rfl
 ·rfl
theorem quV{e:Ex}(h:qaJ e=0):e.nodes<=big/\Wd e:=by
 have:=(qna h).1;have hb:e.nodes<=big:=by simp only[big];omega
 exact⟨hb,zll hb⟩
theorem zj0:PrW znb:=⟨by decide,by decide,by decide,by decide,fun x hx=>by simp[znb]at hx,fun x hx=>by simp[znb]at hx⟩
theorem qXk(s:Bs):PrW (qNV s).1:=by
 unfold qNV;cases h:(qpe exS s).1 with
 |none=>exact zj0
 |some p=>
  unfold qpe at h;cases hb:((qbr s).2.2 != 0)
  ·rw[hb,jA9]at h;have h0:(qbr s).2.2=0:=by simpa using hb
   have hT:=(qGE h0).2.1;cases hz:qg8 exS qiQ (qbr s).1 with
   |ok q r=>
    rw[hz]at h;cases h;obtain⟨⟨c1,c2,c3,c4⟩,f1,f2⟩:=zea qSf hz;exact⟨by show p.cr.tiers.length<=_;omega,by show p.de.tiers.length<=_;omega,by show p.fees.length<=_;omega,by show p.rules.length<=_;omega,fun x hx=>⟨(quV (f1 x hx).1).2,(quV (f1 x hx).2).2⟩,fun x hx=>(quV (f2 x hx)).2⟩
   |bad r e=>rw[hz]at h;cases h
  ·rw[hb,jAa]at h;cases h
theorem qMA(s:Bs):qHB s=some true:=by
 rw[qSH,qAc];by_cases hl:(s.length:Int)>3000
 ·exact(brT (jA8 hl)).trans ((biS qsk).trans rfl)
 ·have hS:=qFe (qXk s) (qXk s);rw[qGi]at hS;refine(brF (jAe hl)).trans ((biS (qEs s)).trans ((biS (qE4 s)).trans ((biS (v:=true) ?_).trans ((biS (v:=true) ?_).trans ((biS (v:=true) ?_).trans rfl)))))
  ·show br ((qNV s).2.1==(qNV s).2.1) (some ((qNV s).2.2==(qNV s).2.2)) (some false)=some true;rw[beq_self_eq_true,beq_self_eq_true];rfl
  ·simp only[zj4,prV];rw[hS];rfl
  ·rw[qsk];rfl
end Go.Proofs.H16

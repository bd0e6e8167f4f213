/- Definitions of products: what the program reads. -/
import Derived.Test.YtjhhnkemeegahaaGreatDoorCvA
set_option linter.all false
namespace Go.Proofs.H16
open Go Go.Eng Go.Tk
set_option maxRecDepth 20000
theorem qir{T:List Tok}(hT:T.length<=1000000){τ α:Type}{st:τ->Option (Rd τ)}(h0:PS->τ)(h1:PS->List AV->τ){w:Bs}{f:List Tok->Pz α}{av:α->AV}{j0 j1:Nat}
  (stop0:∀p,p.Ok T->ql1 w p=false->qae st (h0 p)=some (j0,h0 p)) (stop1:∀p A,p.Ok T->ql1 w p=false->qae st (h1 p A)=some (j1,h1 p A))
  (next:∀l,l <:+ T->isW w l=true-> ∃a p',Does T f (fun x v=>v=av x) (.good l.tail) a p'/\qae st (h0 (.good l))=qae st (h1 p' [a])/\ ∀A,A.length<=1000000->qae st (h1 (.good l) A)=qae st (h1 p' (A++[a])))
  (hlen:∀l x r,f l= .ok x r->r.length<=l.length) {p:PS} (hp:p.Ok T) :
  ∃p' A,Does T (fun r=>qdi w f (r.length+1) [] r) (fun xs (v:List AV)=>v=xs.map av) p A p'/\ql1 w p'=false/\(qae st (h0 p)=some (j0,h0 p')/\A= []\/qae st (h0 p)=some (j1,h1 p' A)):=by
 have loop:∀(n:Nat) (l:List Tok) (acc:List α),l <:+ T->l.length<n->acc.length+l.length<=1000000-> ∃p' A,Does T (qdi w f n acc) (fun xs (v:List AV)=>v=xs.map av) (.good l) A p'/\ql1 w p'=false/\qae st (h1 (.good l) (acc.map av))=some (j1,h1 p' A):=by
  intro n
  induction n with
  |zero=>intro l acc _ h;omega
  |succ n ih=>
   intro l acc hl hn hb;cases hi:isW w l
   ·refine⟨.good l,acc.map av,⟨hl,?_⟩,hi,stop1 (.good l) _ hl hi⟩;dsimp only;simp only[qdi,hi,jA9];exact⟨trivial,trivial⟩
   ·obtain⟨a,p',D,_,hnx⟩:=next l hl hi
    have hnx:=hnx (acc.map av) (by rw[jA5];omega);have D2:=D.2;dsimp only at D2;have hz:qdi w f (n+1) acc l=(f l.tail).bnd fun t l=>qdi w f n (acc++[t]) l:=by simp only[qdi,hi,jAa]
    cases ht:f l.tail with
    |bad q e=>
     rw[ht]at D2 hz;obtain⟨k,rfl⟩:=D2;refine⟨.bad q e k,_,⟨D.ok,?_⟩,rfl,hnx.trans (stop1 _ _ D.ok rfl)⟩;dsimp only;rw[hz];exact⟨k,rfl⟩
    |ok t r=>
     rw[ht]at D2 hz;obtain⟨hab,rfl⟩:=D2;have hlen:=hlen _ _ _ ht;have htl:l.tail.length+1=l.length:=(qoF hi).2;obtain⟨p2,A,D3,zuI,zuK⟩:=ih r (acc++[t]) D.ok (by omega) (by rw[jA2];simp only[jA0,jA4];omega);refine⟨p2,A,⟨D3.ok,?_⟩,zuI,?_⟩
     ·dsimp only;rw[hz];exact D3.2
     ·rw[hnx,<-zuK,hab,jCi];rfl
 cases p with
 |bad q e k=>exact⟨.bad q e k,[],⟨hp,k,rfl⟩,rfl,.inl ⟨stop0 _ hp rfl,rfl⟩⟩
 |good l=>
  cases hi:isW w l
  ·refine⟨.good l,[],⟨hp,?_⟩,hi,.inl ⟨stop0 (.good l) hp hi,rfl⟩⟩;dsimp only;simp only[qdi,hi,jA9];exact⟨rfl,trivial⟩
  ·obtain⟨a,p',D,hnx,_⟩:=next l hp hi
   have D2:=D.2;dsimp only at D2;have hz:qdi w f (l.length+1) [] l=(f l.tail).bnd fun t r=>qdi w f l.length ([]++[t]) r:=by simp only[qdi,hi,jAa]
   cases ht:f l.tail with
   |bad q e=>
    rw[ht]at D2 hz;obtain⟨k,rfl⟩:=D2;refine⟨.bad q e k,_,⟨D.ok,?_⟩,rfl,.inr (hnx.trans (stop1 _ _ D.ok rfl))⟩;dsimp only;rw[hz];exact⟨k,rfl⟩
   |ok t r=>
    rw[ht]at D2 hz;obtain⟨hab,rfl⟩:=D2;have hlen:=hlen _ _ _ ht;have htl:l.tail.length+1=l.length:=(qoF hi).2;have hTl:l.length<=T.length:=List.IsSuffix.length_le hp;obtain⟨p2,A,D3,zuI,zuK⟩:=loop l.length r [t] D.ok (by omega) (by simp only[jA0,jA4];omega);refine⟨p2,A,⟨D3.ok,?_⟩,zuI,.inr ?_⟩
    ·dsimp only;rw[hz];exact D3.2
    ·rw[hnx,<-zuK,hab];rfl
abbrev Rm:Type:=List UInt8×List UInt8×List UInt8×Int×Int×Int×Int×Bool×Int×Int×Bool×Bool×Int×Int×Bool×List UInt8×List UInt8×List UInt8×Int×Int×Int×Int×List AV×Bool×Int×Int×Bool×List AV×Bool×Int×Int×Bool
abbrev zuM(r:Rm)(F:List AV):List UInt8×List UInt8×List UInt8×Int×Int×Int×Int×Bool×Int×Int×Bool×Bool×Int×Int×Bool×List UInt8×List UInt8×List UInt8×Int×Int×Int×Int×List AV×Bool×Int×Int×Bool×List AV×Bool×Int×Int×Bool×List AV:=(r.1,r.2.1,r.2.2.1,r.2.2.2.1,r.2.2.2.2.1,r.2.2.2.2.2.1,r.2.2.2.2.2.2.1,r.2.2.2.2.2.2.2.1,r.2.2.2.2.2.2.2.2.1,r.2.2.2.2.2.2.2.2.2.1,r.2.2.2.2.2.2.2.2.2.2.1,r.2.2.2.2.2.2.2.2.2.2.2.1,r.2.2.2.2.2.2.2.2.2.2.2.2.1,r.2.2.2.2.2.2.2.2.2.2.2.2.2.1,r.2.2.2.2.2.2.2.2.2.2.2.2.2.2.1,r.2.2.2.2.2.2.2.2.2.2.2.2.2.2.2.1,r.2.2.2.2.2.2.2.2.2.2.2.2.2.2.2.2.1,r.2.2.2.2.2.2.2.2.2.2.2.2.2.2.2.2.2.1,r.2.2.2.2.2.2.2.2.2.2.2.2.2.2.2.2.2.2.1,r.2.2.2.2.2.2.2.2.2.2.2.2.2.2.2.2.2.2.2.1,r.2.2.2.2.2.2.2.2.2.2.2.2.2.2.2.2.2.2.2.2.1,r.2.2.2.2.2.2.2.2.2.2.2.2.2.2.2.2.2.2.2.2.2.1,r.2.2.2.2.2.2.2.2.2.2.2.2.2.2.2.2.2.2.2.2.2.2.1,r.2.2.2.2.2.2.2.2.2.2.2.2.2.2.2.2.2.2.2.2.2.2.2.1,r.2.2.2.2.2.2.2.2.2.2.2.2.2.2.2.2.2.2.2.2.2.2.2.2.1,r.2.2.2.2.2.2.2.2.2.2.2.2.2.2.2.2.2.2.2.2.2.2.2.2.2.1,r.2.2.2.2.2.2.2.2.2.2.2.2.2.2.2.2.2.2.2.2.2.2.2.2.2.2.1,r.2.2.2.2.2.2.2.2.2.2.2.2.2.2.2.2.2.2.2.2.2.2.2.2.2.2.2.1,r.2.2.2.2.2.2.2.2.2.2.2.2.2.2.2.2.2.2.2.2.2.2.2.2.2.2.2.2.1,r.2.2.2.2.2.2.2.2.2.2.2.2.2.2.2.2.2.2.2.2.2.2.2.2.2.2.2.2.2.1,r.2.2.2.2.2.2.2.2.2.2.2.2.2.2.2.2.2.2.2.2.2.2.2.2.2.2.2.2.2.2.1,r.2.2.2.2.2.2.2.2.2.2.2.2.2.2.2.2.2.2.2.2.2.2.2.2.2.2.2.2.2.2.2,F)
abbrev zuU(r:Rm)(F U:List AV):List UInt8×List UInt8×List UInt8×Int×Int×Int×Int×Bool×Int×Int×Bool×Bool×Int×Int×Bool×List UInt8×List UInt8×List UInt8×Int×Int×Int×Int×List AV×Bool×Int×Int×Bool×List AV×Bool×Int×Int×Bool×List AV×List AV:=(r.1,r.2.1,r.2.2.1,r.2.2.2.1,r.2.2.2.2.1,r.2.2.2.2.2.1,r.2.2.2.2.2.2.1,r.2.2.2.2.2.2.2.1,r.2.2.2.2.2.2.2.2.1,r.2.2.2.2.2.2.2.2.2.1,r.2.2.2.2.2.2.2.2.2.2.1,r.2.2.2.2.2.2.2.2.2.2.2.1,r.2.2.2.2.2.2.2.2.2.2.2.2.1,r.2.2.2.2.2.2.2.2.2.2.2.2.2.1,r.2.2.2.2.2.2.2.2.2.2.2.2.2.2.1,r.2.2.2.2.2.2.2.2.2.2.2.2.2.2.2.1,r.2.2.2.2.2.2.2.2.2.2.2.2.2.2.2.2.1,r.2.2.2.2.2.2.2.2.2.2.2.2.2.2.2.2.2.1,r.2.2.2.2.2.2.2.2.2.2.2.2.2.2.2.2.2.2.1,r.2.2.2.2.2.2.2.2.2.2.2.2.2.2.2.2.2.2.2.1,r.2.2.2.2.2.2.2.2.2.2.2.2.2.2.2.2.2.2.2.2.1,r.2.2.2.2.2.2.2.2.2.2.2.2.2.2.2.2.2.2.2.2.2.1,r.2.2.2.2.2.2.2.2.2.2.2.2.2.2.2.2.2.2.2.2.2.2.1,r.2.2.2.2.2.2.2.2.2.2.2.2.2.2.2.2.2.2.2.2.2.2.2.1,r.2.2.2.2.2.2.2.2.2.2.2.2.2.2.2.2.2.2.2.2.2.2.2.2.1,r.2.2.2.2.2.2.2.2.2.2.2.2.2.2.2.2.2.2.2.2.2.2.2.2.2.1,r.2.2.2.2.2.2.2.2.2.2.2.2.2.2.2.2.2.2.2.2.2.2.2.2.2.2.1,r.2.2.2.2.2.2.2.2.2.2.2.2.2.2.2.2.2.2.2.2.2.2.2.2.2.2.2.1,r.2.2.2.2.2.2.2.2.2.2.2.2.2.2.2.2.2.2.2.2.2.2.2.2.2.2.2.2.1,r.2.2.2.2.2.2.2.2.2.2.2.2.2.2.2.2.2.2.2.2.2.2.2.2.2.2.2.2.2.1,r.2.2.2.2.2.2.2.2.2.2.2.2.2.2.2.2.2.2.2.2.2.2.2.2.2.2.2.2.2.2.1,r.2.2.2.2.2.2.2.2.2.2.2.2.2.2.2.2.2.2.2.2.2.2.2.2.2.2.2.2.2.2.2,F,U)
abbrev zuJ(s:StP)(r:Rm):qel:=.inl (s.1,s.2.1,s.2.2.1,s.2.2.2,r)
abbrev zuQ(s:StP)(r:Rm)(F:List AV):qel:=.inr (s.1,s.2.1,s.2.2.1,s.2.2.2,zuM r F)
abbrev zuN(s:StP)(r:Rm):qci:=.inl (s.1,s.2.1,s.2.2.1,s.2.2.2,r)
abbrev zuI(s:StP)(r:Rm)(F:List AV):qci:=.inr (.inl (s.1,s.2.1,s.2.2.1,s.2.2.2,zuM r F))
abbrev zuK(s:StP)(r:Rm)(U:List AV):qci:=.inr (.inr (.inl (s.1,s.2.1,s.2.2.1,s.2.2.2,zuM r U)))
abbrev zuR(s:StP)(r:Rm)(F U:List AV):qci:=.inr (.inr (.inr (s.1,s.2.1,s.2.2.1,s.2.2.2,zuU r F U)))
noncomputable abbrev stF:=fun v=>(qey v).ev
noncomputable abbrev stL:=fun v=>(qb6 v).ev
section
variable {T:List Tok}
theorem ql8(hT:T.length<=1000000)(hv:∀t∈T,qaP t=true){s:Bs}{p:PS}(hp:p.Ok T)(ha:ql1 s p=false):qao s (stP T p).1 (stP T p).2.1 (stP T p).2.2.1 (stP T p).2.2.2=some (false,stP T p):=by
 have:=qfw hT hv s hp;rw[ha,qxr ha]at this;exact this
theorem q7e(hT:T.length<=1000000)(hv:∀t∈T,qaP t=true){s:Bs}{l:List Tok}(hl:l <:+ T)(hi:isW s l=true):qao s (stP T (.good l)).1 (stP T (.good l)).2.1 (stP T (.good l)).2.2.1 (stP T (.good l)).2.2.2=some (true,stP T (.good l.tail)):=by
 have:=qfw hT hv s (p:=.good l) hl;have zuM:ql1 s (.good l)=true:=hi;have zuU:q7d s (.good l)= .good l.tail:=by show PS.good (bif isW s l then l.tail else l)=_;rw[hi];rfl
 rw[zuM,zuU]at this;exact this
abbrev qu1:Bs:=[102,101,101]
abbrev qwq:Bs:=[108,105,109,105,116]
theorem q23(hT:T.length<=1000000)(hv:∀t∈T,qaP t=true)(r:Rm){l:List Tok}(hl:l <:+ T)(hi:isW qu1 l=true):∃a p',Does T (qBi exS) (fun x v=>v=Fe.av x) (.good l.tail) a p'/\qae stF (zuJ (stP T (.good l)) r)=qae stF (zuQ (stP T p') r [a])/\ ∀A,A.length<=1000000->qae stF (zuQ (stP T (.good l)) r A)=qae stF (zuQ (stP T p') r (A++[a])):=by
 have hacc:=q7e hT hv hl hi;obtain⟨n,p1,h1,D1,_⟩:=qto hT hv 1 (p:=.good l.tail) (qaI hl);obtain⟨e,p2,h2,D2⟩:=qki hT hv (ws:=qfL) (by decide) D1.ok;obtain⟨p3,h3,D3⟩:=qdA hT hv [119,104,101,110] D2.ok;obtain⟨w,p4,h4,D4⟩:=qVe hT hv D3.ok;obtain⟨p5,h5,D5⟩:=qdA hT hv [97,109,111,117,110,116,95,111,102] D4.ok;obtain⟨a,p6,h6,D6⟩:=qVe hT hv D5.ok;obtain⟨p7,h7,D7⟩:=qdA hT hv [59] D6.ok;have K6:=D7.stuck;have K5:=D6.stuck.trans K6;have K4:=D5.stuck.trans K5;have K3:=D4.stuck.trans K4;have K2:=D3.stuck.trans K3;have K1:=D2.stuck.trans K2;refine⟨.agg [.str n,.int .i64 e,.int .i64 w.1,.int .i64 w.2.1,.str w.2.2.1,.view 4 w.2.2.2,.int .i64 a.1,.int .i64 a.2.1,.str a.2.2.1,.view 4 a.2.2.2],p7,D1.bnd K1 D7.ok fun n' zuM=>D2.bnd K2 D7.ok fun e' zuU=>D3.bnd K3 D7.ok fun _ _=>D4.bnd K4 D7.ok fun w' e4=>D5.bnd K5 D7.ok fun _ _=>D6.bnd K6 D7.ok fun a' e6=>D7.map fun _ _=>by rw[zuM,zuU,e4,e6];rfl,qaq ?_,fun A zuJ=>qaq ?_⟩
 ·show(qey (zuJ (stP T (.good l)) r)).ev=_;rw[qey];simp only[jBy];rw[quh];exact(biS hacc).trans ((brT rfl).trans ((biS h1).trans ((biS qoS).trans ((biS h2).trans ((biS h3).trans ((biS h4).trans ((biS h5).trans ((biS h6).trans ((biS h7).trans rfl)))))))))
 ·show(qey (zuQ (stP T (.good l)) r A)).ev=_;rw[qey];simp only[jBx];rw[qui];exact(biS hacc).trans ((brT rfl).trans ((biS h1).trans ((biS qoS).trans ((biS h2).trans ((biS h3).trans ((biS h4).trans ((biS h5).trans ((biS h6).trans ((biS h7).trans ((brT (qdB (by simp only[lim,Prod.i,Prod.h,Prod.f];omega))).trans rfl))))))))))
theorem qSf(l:List Tok)(e:Ex)(r:List Tok)(h:exS l= .ok e r):r.length<=l.length:=by
 have hev:=qoR l;rw[h]at hev;exact Nat.le_of_lt hev.short
theorem qHE(hT:T.length<=1000000)(hv:∀t∈T,qaP t=true)(r:Rm){p:PS}(hp:p.Ok T)(ha:ql1 qu1 p=false):qae stF (zuJ (stP T p) r)=some (0,zuJ (stP T p) r)/\ ∀A,qae stF (zuQ (stP T p) r A)=some (1,zuQ (stP T p) r A):=by
 have hacc:=ql8 hT hv hp ha;refine⟨qaf ?_,fun A=>qaf ?_⟩
 ·show(qey (zuJ (stP T p) r)).ev=_;rw[qey];simp only[jBy];rw[quh];exact(biS hacc).trans ((brF rfl).trans rfl)
 ·show(qey (zuQ (stP T p) r A)).ev=_;rw[qey];simp only[jBx];rw[qui];exact(biS hacc).trans ((brF rfl).trans rfl)
theorem qS5{l:List Tok}{x:Fe}{r:List Tok}(h:qBi exS l= .ok x r):r.length<=l.length:=by
 exact(q7C qSf l x r h).1
theorem qpz{l:List Tok}{x:Ru}{r:List Tok}(h:qha exS l= .ok x r):r.length<=l.length:=by
 exact(qZL qSf l x r h).1
theorem qmD(hT:T.length<=1000000)(hv:∀t∈T,qaP t=true)(r:Rm){p:PS}(hp:p.Ok T)(ha:ql1 qwq p=false):qae stL (zuN (stP T p) r)=some (0,zuN (stP T p) r)/\(∀F,qae stL (zuI (stP T p) r F)=some (1,zuI (stP T p) r F))/\(∀U,qae stL (zuK (stP T p) r U)=some (2,zuK (stP T p) r U))/\ ∀F U,qae stL (zuR (stP T p) r F U)=some (3,zuR (stP T p) r F U):=by
 have hacc:=ql8 hT hv hp ha;refine⟨qaf ?_,fun F=>qaf ?_,fun U=>qaf ?_,fun F U=>qaf ?_⟩
 ·show(qb6 (zuN (stP T p) r)).ev=_;rw[qb6];simp only[jBy,jBx];rw[quj];exact(biS hacc).trans ((brF rfl).trans rfl)
 ·show(qb6 (zuI (stP T p) r F)).ev=_;rw[qb6];simp only[jBy,jBx];rw[quk];exact(biS hacc).trans ((brF rfl).trans rfl)
 ·show(qb6 (zuK (stP T p) r U)).ev=_;rw[qb6];simp only[jBy,jBx];rw[qul];exact(biS hacc).trans ((brF rfl).trans rfl)
 ·show(qb6 (zuR (stP T p) r F U)).ev=_;rw[qb6];simp only[jBy,jBx];rw[qum];exact(biS hacc).trans ((brF rfl).trans rfl)
theorem qCr(hT:T.length<=1000000)(hv:∀t∈T,qaP t=true)(r:Rm){l:List Tok}(hl:l <:+ T)(hi:isW qwq l=true):∃a p',Does T (qha exS) (fun x v=>v=Ru.av x) (.good l.tail) a p'/\qae stL (zuN (stP T (.good l)) r)=qae stL (zuK (stP T p') r [a])/\(∀U,U.length<=1000000->qae stL (zuK (stP T (.good l)) r U)=qae stL (zuK (stP T p') r (U++[a]))) /\
  (∀F,qae stL (zuI (stP T (.good l)) r F)=qae stL (zuR (stP T p') r F [a]))/\ ∀F U,U.length<=1000000->qae stL (zuR (stP T (.good l)) r F U)=qae stL (zuR (stP T p') r F (U++[a])):=by
 have hacc:=q7e hT hv hl hi;obtain⟨n,p1,h1,D1,_⟩:=qto hT hv 1 (p:=.good l.tail) (qaI hl);obtain⟨w,p2,h2,D2⟩:=qki hT hv (ws:=qdD) (by decide) D1.ok;obtain⟨a,p3,h3,D3⟩:=qVe hT hv D2.ok;obtain⟨p4,h4,D4⟩:=qdA hT hv [59] D3.ok;have K3:=D4.stuck;have K2:=D3.stuck.trans K3;have K1:=D2.stuck.trans K2;refine⟨.agg [.str n,.int .i64 w,.int .i64 a.1,.int .i64 a.2.1,.str a.2.2.1,.view 4 a.2.2.2],p4,D1.bnd K1 D4.ok fun n' zuM=>D2.bnd K2 D4.ok fun w' zuU=>D3.bnd K3 D4.ok fun a' e3=>D4.map fun _ _=>by rw[zuM,zuU,e3];rfl,qaq ?_,fun U hU=>qaq ?_,fun F=>qaq ?_,fun F U hU=>qaq ?_⟩
 ·show(qb6 (zuN (stP T (.good l)) r)).ev=_;rw[qb6];simp only[jBy,jBx];rw[quj];exact(biS hacc).trans ((brT rfl).trans ((biS h1).trans ((biS qfv).trans ((biS h2).trans ((biS h3).trans ((biS h4).trans rfl))))))
 ·show(qb6 (zuK (stP T (.good l)) r U)).ev=_;rw[qb6];simp only[jBy,jBx];rw[qul];exact(biS hacc).trans ((brT rfl).trans ((biS h1).trans ((biS qfv).trans ((biS h2).trans ((biS h3).trans ((biS h4).trans ((brT (qdB (by simp only[lim,Prod.i,Prod.h,Prod.f];omega))).trans rfl)))))))
 ·show(qb6 (zuI (stP T (.good l)) r F)).ev=_;rw[qb6];simp only[jBy,jBx];rw[quk];exact(biS hacc).trans ((brT rfl).trans ((biS h1).trans ((biS qfv).trans ((biS h2).trans ((biS h3).trans ((biS h4).trans rfl))))))
 ·show(qb6 (zuR (stP T (.good l)) r F U)).ev=_;rw[qb6];simp only[jBy,jBx];rw[qum];exact(biS hacc).trans ((brT rfl).trans ((biS h1).trans ((biS qfv).trans ((biS h2).trans ((biS h3).trans ((biS h4).trans ((brT (qdB (by simp only[lim,Prod.i,Prod.h,Prod.f];omega))).trans rfl)))))))
abbrev zuW(o:Option (Bool×StP))(r:Rm):qci:=.inl ((gv o).snd.fst,(gv o).snd.snd.fst,(gv o).snd.snd.snd.fst,(gv o).snd.snd.snd.snd,r)
abbrev zuV(o:Option (Bool×StP))(r:Rm)(F:List AV):qci:=.inr (.inl ((gv o).snd.fst,(gv o).snd.snd.fst,(gv o).snd.snd.snd.fst,(gv o).snd.snd.snd.snd,zuM r F))
def q7r:PS->PS
 | .good []=>.good []
 | .good (t::r)=>.bad (t::r) 2 (pos T (t::r))
 |p=>p
def zn7{α:Type}(x:α):List Tok->Pz α
 | []=>.ok x []
 |t::r=>.bad (t::r) 2
theorem qHn{α β:Type}{V:α->β->Prop}{x:α}{v:β}{p:PS}(hp:p.Ok T)(hx:V x v):Does T (zn7 x) V p v (q7r (T:=T) p):=by
 cases p with
 |bad q e k=>exact⟨hp,k,rfl⟩
 |good l=>
  cases l with
  |nil=>exact⟨hp,hx,rfl⟩
  |cons t r=>exact⟨⟨by decide,hp⟩,_,rfl⟩
theorem qxH(hT:T.length<=1000000){β:Type}(K:StP->β){p:PS}(hp:p.Ok T):(DT.br (decide ((stP T p).2.1<((stP T p).1.length:Int))) (.bi (qcf 2 (stP T p).2.1 (stP T p).1 (stP T p).2.1 (stP T p).2.2.1 (stP T p).2.2.2) (fun y=>.at (K y)) .no) (.at (K (stP T p)))).ev=some (K (stP T (q7r (T:=T) p))):=by
 cases p with
 |bad q e k=>
  cases hb:decide ((stP T (.bad q e k)).2.1<((stP T (.bad q e k)).1.length:Int))
  ·exact(brF rfl).trans rfl
  ·exact(brT rfl).trans ((biS (qtn 2 _ hp (fun l h=>nomatch h))).trans rfl)
 |good l=>
  cases l with
  |nil=>exact(brF qJP).trans rfl
  |cons t r=>exact(brT (zm7 hp)).trans ((biS (qJ7 hT 2 (p:=.good (t::r)) hp)).trans rfl)
abbrev PrV:=Bs×Bs×Bs×Int×Int×Int×Int×InV×InV×List AV×List AV
abbrev VPr(x:Pr)(v:PrV):Prop:=v=(x.name,x.cur,x.cal,x.from_,x.every,x.over,x.tax,(ETr x.cr.tiers,x.cr.marg,x.cr.basis,x.cr.mode,x.cr.keep),(ETr x.de.tiers,x.de.marg,x.de.basis,x.de.mode,x.de.keep),EF x.fees,ER x.rules)
def zj3(v:PrV)(s:StP):qOX:=(v.1,v.2.1,v.2.2.1,v.2.2.2.1,v.2.2.2.2.1,v.2.2.2.2.2.1,v.2.2.2.2.2.2.1,v.2.2.2.2.2.2.2.1.1,v.2.2.2.2.2.2.2.1.2.1,v.2.2.2.2.2.2.2.1.2.2.1,v.2.2.2.2.2.2.2.1.2.2.2.1,v.2.2.2.2.2.2.2.1.2.2.2.2,v.2.2.2.2.2.2.2.2.1.1,v.2.2.2.2.2.2.2.2.1.2.1,v.2.2.2.2.2.2.2.2.1.2.2.1,v.2.2.2.2.2.2.2.2.1.2.2.2.1,v.2.2.2.2.2.2.2.2.1.2.2.2.2,v.2.2.2.2.2.2.2.2.2.1,v.2.2.2.2.2.2.2.2.2.2,s)
theorem qCb(l:List Tok):qg8 exS qiQ l=(qcJ [112,114,111,100,117,99,116] l).bnd fun _ r=>(qcO 1 r).bnd fun nm r=>(qct [[123],[99,117,114,114,101,110,99,121]] r).bnd fun _ r=>(qgq r).bnd fun cu r=>(qct [[59],[99,97,108,101,110,100,97,114]] r).bnd fun _ r=>(qcO 1 r).bnd fun ca r=>
 (qct [[59],[102,114,111,109]] r).bnd fun _ r=>(qEd qiQ r).bnd fun fr r=>(qct [[59],[101,118,101,114,121]] r).bnd fun _ r=>(qpc r).bnd fun ev r=>(qct [[59],[111,118,101,114,100,114,97,102,116],[36]] r).bnd fun _ r=>(qpc r).bnd fun ov r=>
 (qct [[59],[116,97,120]] r).bnd fun _ r=>(qkT r).bnd fun tx r=>(qcJ [59] r).bnd fun _ r=>(qCZ [99,114,101,100,105,116] r).bnd fun cr r=>(qCZ [100,101,98,105,116] r).bnd fun de r=>
 ((fun r=>qdi qu1 (qBi exS) (r.length+1) [] r) r).bnd fun fs r=>((fun r=>qdi qwq (qha exS) (r.length+1) [] r) r).bnd fun rs r=>(qcJ [125] r).bnd fun _ r=>zn7 (⟨nm,cu,ca,fr,ev,ov,tx,cr,de,fs,rs⟩:Pr) r:=by
 unfold qg8;rfl
theorem qVf(hT:T.length<=1000000)(hv:∀t∈T,qaP t=true){p:PS}(hp:p.Ok T):∃v p',qA8 (stP T p).1 (stP T p).2.1 (stP T p).2.2.1 (stP T p).2.2.2=some (zj3 v (stP T p'))/\Does T (qg8 exS qiQ) VPr p v p':=by
 obtain⟨p0,h0,D0⟩:=qdA hT hv [112,114,111,100,117,99,116] hp;obtain⟨nm,p1,h1,D1,_⟩:=qto hT hv 1 D0.ok;obtain⟨p2,h2,D2⟩:=qwC hT hv (ss:=[[123],[99,117,114,114,101,110,99,121]]) (by decide) D1.ok;obtain⟨cu,p3,h3,D3⟩:=zj5 hT hv D2.ok;obtain⟨p4,h4,D4⟩:=qwC hT hv (ss:=[[59],[99,97,108,101,110,100,97,114]]) (by decide) D3.ok;obtain⟨ca,p5,h5,D5,_⟩:=qto hT hv 1 D4.ok;obtain⟨p6,h6,D6⟩:=qwC hT hv (ss:=[[59],[102,114,111,109]]) (by decide) D5.ok;obtain⟨fr,p7,h7,D7⟩:=zqf hT hv D6.ok;obtain⟨p8,h8,D8⟩:=qwC hT hv (ss:=[[59],[101,118,101,114,121]]) (by decide) D7.ok;obtain⟨ev,p9,h9,D9⟩:=qkj hT hv D8.ok;obtain⟨p10,h10,D10⟩:=qwC hT hv (ss:=[[59],[111,118,101,114,100,114,97,102,116],[36]]) (by decide) D9.ok;obtain⟨ov,p11,h11,D11⟩:=qkj hT hv D10.ok;obtain⟨p12,h12,D12⟩:=qwC hT hv (ss:=[[59],[116,97,120]]) (by decide) D11.ok;obtain⟨tx,p13,h13,D13⟩:=q74 hT hv D12.ok;obtain⟨p14,h14,D14⟩:=qdA hT hv [59] D13.ok;obtain⟨cr,p15,h15,D15⟩:=qwB hT hv [99,114,101,100,105,116] D14.ok;obtain⟨de,p16,h16,D16⟩:=qwB hT hv [100,101,98,105,116] D15.ok
 let r:Rm:=([],[],[],0,0,0,0,false,0,0,false,false,0,0,false,nm,cu,ca,fr,ev,ov,tx,cr.1,cr.2.1,cr.2.2.1,cr.2.2.2.1,cr.2.2.2.2,de.1,de.2.1,de.2.2.1,de.2.2.2.1,de.2.2.2.2)
 obtain⟨p17,F,D17,a17,hF⟩:=qir hT (st:=stF) (fun p=>zuJ (stP T p) r) (fun p A=>zuQ (stP T p) r A) (w:=qu1) (f:=qBi exS) (av:=Fe.av) (fun p hp ha=>(qHE hT hv r hp ha).1) (fun p A hp ha=>(qHE hT hv r hp ha).2 A) (fun l hl hi=>q23 hT hv r hl hi) (fun l x r h=>qS5 h) D16.ok;have hacc17:=ql8 hT hv D17.ok a17;have fin:∀(U:List AV) (p18:PS),Does T (fun r=>qdi qwq (qha exS) (r.length+1) [] r) (fun xs (v:List AV)=>v=xs.map Ru.av) p17 U p18-> ∃p19,qaT [AV.str [125]] (stP T p18).1 (stP T p18).2.1 (stP T p18).2.2.1 (stP T p18).2.2.2=some (stP T p19)/\p19.Ok T/\Does T (qg8 exS qiQ) VPr p (nm,cu,ca,fr,ev,ov,tx,cr,de,F,U) (q7r (T:=T) p19):=by
  intro U p18 D18;obtain⟨p19,h19,D19⟩:=qdA hT hv [125] D18.ok;refine⟨p19,h19,D19.ok,?_⟩;have DE:=qHn (T:=T) (V:=VPr) (p:=p19) (x:=⟨[],[],[],0,0,0,0,⟨[],false,0,0,false⟩,⟨[],false,0,0,false⟩,[],[]⟩) D19.ok rfl;have ok:=DE.ok;have K19:Stuck p19 (q7r (T:=T) p19):=DE.stuck;have K18:=D19.stuck.trans K19;have K17:=D18.stuck.trans K18;have K16:=D17.stuck.trans K17;have K15:=D16.stuck.trans K16;have K14:=D15.stuck.trans K15;have K13:=D14.stuck.trans K14;have K12:=D13.stuck.trans K13;have K11:=D12.stuck.trans K12;have K10:=D11.stuck.trans K11;have K9:=D10.stuck.trans K10;have K8:=D9.stuck.trans K9;have K7:=D8.stuck.trans K8;have K6:=D7.stuck.trans K7;have K5:=D6.stuck.trans K6;have K4:=D5.stuck.trans K5;have K3:=D4.stuck.trans K4;have K2:=D3.stuck.trans K3;have K1:=D2.stuck.trans K2;have K0:=D1.stuck.trans K1;refine Does.congr ?_ fun l _=>(qCb l).symm
  exact D0.bnd K0 ok fun _ _=>D1.bnd K1 ok fun nm' zuM=>D2.bnd K2 ok fun _ _=>D3.bnd K3 ok fun cu' e3=>D4.bnd K4 ok fun _ _=>D5.bnd K5 ok fun ca' e5=>D6.bnd K6 ok fun _ _=>D7.bnd K7 ok fun fr' e7=>D8.bnd K8 ok fun _ _=>D9.bnd K9 ok fun ev' e9=>D10.bnd K10 ok fun _ _=>D11.bnd K11 ok fun ov' e11=>
   D12.bnd K12 ok fun _ _=>D13.bnd K13 ok fun tx' e13=>D14.bnd K14 ok fun _ _=>D15.bnd K15 ok fun cr' e15=>D16.bnd K16 ok fun de' e16=>D17.bnd K17 ok fun fs' e17=>D18.bnd K18 ok fun rs' e18=>D19.bnd K19 ok fun _ _=>qHn D19.ok (by show _=_;rw[zuM,e3,e5,e7,e9,e11,e13,e15,e16,e17,e18])
 rw[qSt,qzJ];rcases hF with⟨hF,rfl⟩|hF
 ·obtain⟨p18,U,D18,a18,hL⟩:=qir hT (st:=stL) (fun p=>zuN (stP T p) r) (fun p A=>zuK (stP T p) r A) (w:=qwq) (f:=qha exS) (av:=Ru.av) (fun p hp ha=>(qmD hT hv r hp ha).1) (fun p A hp ha=>(qmD hT hv r hp ha).2.2.1 A) (fun l hl hi=>by
   obtain⟨a,p',D,q1,q2,_⟩:=qCr hT hv r hl hi;exact⟨a,p',D,q1,q2⟩) (fun l x r h=>qpz h) D17.ok
  have hacc18:=ql8 hT hv D18.ok a18;obtain⟨p19,h19,hok,hD⟩:=fin U p18 D18;rcases hL with⟨hL,rfl⟩|hL
  ·refine⟨(nm,cu,ca,fr,ev,ov,tx,cr,de,[],[]),q7r (T:=T) p19,?_,hD⟩;refine(biS h0).trans ((biS h1).trans ((biS h2).trans ((biS h3).trans ((biS h4).trans ((biS h5).trans ((biS h6).trans ((biS h7).trans ((biS h8).trans ((biS h9).trans ((biS h10).trans ((biS h11).trans ((biS h12).trans ((biS h13).trans ((biS h14).trans ((biS h15).trans ((biS h16).trans (?_)))))))))))))))));refine(biS (v:=zuJ (stP T p17) r) ?_).trans ?_
   ·rw[qfY];show pj 0 (qae stF (zuJ (stP T p16) r))=_;rw[hF];rfl
   refine(biS (v:=zuN (stP T p18) r) ?_).trans ?_
   ·rw[qcB];show pj 0 (qae stL (zuW (qao qu1 (stP T p17).1 (stP T p17).2.1 (stP T p17).2.2.1 (stP T p17).2.2.2) r))=_;rw[hacc17];show pj 0 (qae stL (zuN (stP T p17) r))=_;rw[hL];rfl
   refine(biS (v:=stP T p19) ?_).trans ?_
   ·show(fun s:StP=>qaT [AV.str [125]] s.1 s.2.1 s.2.2.1 s.2.2.2) (gv (qao qwq (stP T p18).1 (stP T p18).2.1 (stP T p18).2.2.1 (stP T p18).2.2.2)).snd=_;rw[hacc18];exact h19
   exact qxH hT (fun y=>zj3 (nm,cu,ca,fr,ev,ov,tx,cr,de,[],[]) y) hok
  ·refine⟨(nm,cu,ca,fr,ev,ov,tx,cr,de,[],U),q7r (T:=T) p19,?_,hD⟩;refine(biS h0).trans ((biS h1).trans ((biS h2).trans ((biS h3).trans ((biS h4).trans ((biS h5).trans ((biS h6).trans ((biS h7).trans ((biS h8).trans ((biS h9).trans ((biS h10).trans ((biS h11).trans ((biS h12).trans ((biS h13).trans ((biS h14).trans ((biS h15).trans ((biS h16).trans (?_)))))))))))))))));refine(biS (v:=zuJ (stP T p17) r) ?_).trans ?_
   ·rw[qfY];show pj 0 (qae stF (zuJ (stP T p16) r))=_;rw[hF];rfl
   refine(biN ?_).trans ?_
   ·rw[qcB];show pj 0 (qae stL (zuW (qao qu1 (stP T p17).1 (stP T p17).2.1 (stP T p17).2.2.1 (stP T p17).2.2.2) r))=_;rw[hacc17];show pj 0 (qae stL (zuN (stP T p17) r))=_;rw[hL];rfl
   refine(biN ?_).trans ?_
   ·rw[qcB];show pj 1 (qae stL (zuW (qao qu1 (stP T p17).1 (stP T p17).2.1 (stP T p17).2.2.1 (stP T p17).2.2.2) r))=_;rw[hacc17];show pj 1 (qae stL (zuN (stP T p17) r))=_;rw[hL];rfl
   refine(biS (v:=zuK (stP T p18) r U) ?_).trans ?_
   ·rw[qcB];show pj 2 (qae stL (zuW (qao qu1 (stP T p17).1 (stP T p17).2.1 (stP T p17).2.2.1 (stP T p17).2.2.2) r))=_;rw[hacc17];show pj 2 (qae stL (zuN (stP T p17) r))=_;rw[hL];rfl
   refine(biS (v:=stP T p19) ?_).trans ?_
   ·show(fun s:StP=>qaT [AV.str [125]] s.1 s.2.1 s.2.2.1 s.2.2.2) (gv (qao qwq (stP T p18).1 (stP T p18).2.1 (stP T p18).2.2.1 (stP T p18).2.2.2)).snd=_;rw[hacc18];exact h19
   exact qxH hT (fun y=>zj3 (nm,cu,ca,fr,ev,ov,tx,cr,de,[],U) y) hok
 ·obtain⟨p18,U,D18,a18,hL⟩:=qir hT (st:=stL) (fun p=>zuI (stP T p) r F) (fun p A=>zuR (stP T p) r F A) (w:=qwq) (f:=qha exS) (av:=Ru.av) (fun p hp ha=>(qmD hT hv r hp ha).2.1 F) (fun p A hp ha=>(qmD hT hv r hp ha).2.2.2 F A) (fun l hl hi=>by
   obtain⟨a,p',D,_,_,q1,q2⟩:=qCr hT hv r hl hi;exact⟨a,p',D,q1 F,q2 F⟩) (fun l x r h=>qpz h) D17.ok
  have hacc18:=ql8 hT hv D18.ok a18;obtain⟨p19,h19,hok,hD⟩:=fin U p18 D18;rcases hL with⟨hL,rfl⟩|hL
  ·refine⟨(nm,cu,ca,fr,ev,ov,tx,cr,de,F,[]),q7r (T:=T) p19,?_,hD⟩;refine(biS h0).trans ((biS h1).trans ((biS h2).trans ((biS h3).trans ((biS h4).trans ((biS h5).trans ((biS h6).trans ((biS h7).trans ((biS h8).trans ((biS h9).trans ((biS h10).trans ((biS h11).trans ((biS h12).trans ((biS h13).trans ((biS h14).trans ((biS h15).trans ((biS h16).trans (?_)))))))))))))))));refine(biN ?_).trans ?_
   ·rw[qfY];show pj 0 (qae stF (zuJ (stP T p16) r))=_;rw[hF];rfl
   refine(biS (v:=zuQ (stP T p17) r F) ?_).trans ?_
   ·rw[qfY];show pj 1 (qae stF (zuJ (stP T p16) r))=_;rw[hF];rfl
   refine(biN ?_).trans ?_
   ·rw[qcB];show pj 0 (qae stL (zuV (qao qu1 (stP T p17).1 (stP T p17).2.1 (stP T p17).2.2.1 (stP T p17).2.2.2) r F))=_;rw[hacc17];show pj 0 (qae stL (zuI (stP T p17) r F))=_;rw[hL];rfl
   refine(biS (v:=zuI (stP T p18) r F) ?_).trans ?_
   ·rw[qcB];show pj 1 (qae stL (zuV (qao qu1 (stP T p17).1 (stP T p17).2.1 (stP T p17).2.2.1 (stP T p17).2.2.2) r F))=_;rw[hacc17];show pj 1 (qae stL (zuI (stP T p17) r F))=_;rw[hL];rfl
   refine(biS (v:=stP T p19) ?_).trans ?_
   ·show(fun s:StP=>qaT [AV.str [125]] s.1 s.2.1 s.2.2.1 s.2.2.2) (gv (qao qwq (stP T p18).1 (stP T p18).2.1 (stP T p18).2.2.1 (stP T p18).2.2.2)).snd=_;rw[hacc18];exact h19
   exact qxH hT (fun y=>zj3 (nm,cu,ca,fr,ev,ov,tx,cr,de,F,[]) y) hok
  ·refine⟨(nm,cu,ca,fr,ev,ov,tx,cr,de,F,U),q7r (T:=T) p19,?_,hD⟩;refine(biS h0).trans ((biS h1).trans ((biS h2).trans ((biS h3).trans ((biS h4).trans ((biS h5).trans ((biS h6).trans ((biS h7).trans ((biS h8).trans ((biS h9).trans ((biS h10).trans ((biS h11).trans ((biS h12).trans ((biS h13).trans ((biS h14).trans ((biS h15).trans ((biS h16).trans (?_)))))))))))))))));refine(biN ?_).trans ?_
   ·rw[qfY];show pj 0 (qae stF (zuJ (stP T p16) r))=_;rw[hF];rfl
   refine(biS (v:=zuQ (stP T p17) r F) ?_).trans ?_
   ·rw[qfY];show pj 1 (qae stF (zuJ (stP T p16) r))=_;rw[hF];rfl
   refine(biN ?_).trans ?_
   ·rw[qcB];show pj 0 (qae stL (zuV (qao qu1 (stP T p17).1 (stP T p17).2.1 (stP T p17).2.2.1 (stP T p17).2.2.2) r F))=_;rw[hacc17];show pj 0 (qae stL (zuI (stP T p17) r F))=_;rw[hL];rfl
   refine(biN ?_).trans ?_
   ·rw[qcB];show pj 1 (qae stL (zuV (qao qu1 (stP T p17).1 (stP T p17).2.1 (stP T p17).2.2.1 (stP T p17).2.2.2) r F))=_;rw[hacc17];show pj 1 (qae stL (zuI (stP T p17) r F))=_;rw[hL];rfl
   refine(biN ?_).trans ?_
   ·rw[qcB];show pj 2 (qae stL (zuV (qao qu1 (stP T p17).1 (stP T p17).2.1 (stP T p17).2.2.1 (stP T p17).2.2.2) r F))=_;rw[hacc17];show pj 2 (qae stL (zuI (stP T p17) r F))=_;rw[hL];rfl
   refine(biS (v:=zuR (stP T p18) r F U) ?_).trans ?_
   ·rw[qcB];show pj 3 (qae stL (zuV (qao qu1 (stP T p17).1 (stP T p17).2.1 (stP T p17).2.2.1 (stP T p17).2.2.2) r F))=_;rw[hacc17];show pj 3 (qae stL (zuI (stP T p17) r F))=_;rw[hL];rfl
   refine(biS (v:=stP T p19) ?_).trans ?_
   ·show(fun s:StP=>qaT [AV.str [125]] s.1 s.2.1 s.2.2.1 s.2.2.2) (gv (qao qwq (stP T p18).1 (stP T p18).2.1 (stP T p18).2.2.1 (stP T p18).2.2.2)).snd=_;rw[hacc18];exact h19
   exact qxH hT (fun y=>zj3 (nm,cu,ca,fr,ev,ov,tx,cr,de,F,U) y) hok
end
theorem qGE{s:Bs}(h:(qbr s).2.2=0):(∀t∈(qbr s).1,qaP t=true)/\(qbr s).1.length<=2048/\s.length<=2048:=by
 have hs:s.length<=2048:=by
  rcases jCb 2048 s.length with hl|hl
  ·rw[qw1 (by omega)]at h;cases h
  ·exact hl
 rw[qoG hs]at h ⊢;have h0:=qRm s.length s 1 (jAj _) h;have hq:rdT s 1=((rdT s 1).1,0,0):=Prod.ext rfl (Prod.ext h0 h);have hv:=qRn s.length s 1 _ (jAj _) hs hq;have hr:=(zhF s.length s 1 (jAj _)).1;exact⟨qHg hv.1,by omega,hs⟩
abbrev prV(x:Pr):PrV:=(x.name,x.cur,x.cal,x.from_,x.every,x.over,x.tax,(ETr x.cr.tiers,x.cr.marg,x.cr.basis,x.cr.mode,x.cr.keep),(ETr x.de.tiers,x.de.marg,x.de.basis,x.de.mode,x.de.keep),EF x.fees,ER x.rules)
def znb:Pr:=⟨[],[],[],0,0,0,0,⟨[],false,0,0,false⟩,⟨[],false,0,0,false⟩,[],[]⟩
def zj4(v:PrV)(s:Int×Int):qC2:=(v.1,v.2.1,v.2.2.1,v.2.2.2.1,v.2.2.2.2.1,v.2.2.2.2.2.1,v.2.2.2.2.2.2.1,v.2.2.2.2.2.2.2.1.1,v.2.2.2.2.2.2.2.1.2.1,v.2.2.2.2.2.2.2.1.2.2.1,v.2.2.2.2.2.2.2.1.2.2.2.1,v.2.2.2.2.2.2.2.1.2.2.2.2,v.2.2.2.2.2.2.2.2.1.1,v.2.2.2.2.2.2.2.2.1.2.1,v.2.2.2.2.2.2.2.2.1.2.2.1,v.2.2.2.2.2.2.2.2.1.2.2.2.1,v.2.2.2.2.2.2.2.2.1.2.2.2.2,v.2.2.2.2.2.2.2.2.2.1,v.2.2.2.2.2.2.2.2.2.2,s)
noncomputable def qNV(s:Bs):Pr×Int×Int:=((qpe exS s).1.getD znb,(qpe exS s).2)
theorem qEs(s:Bs):qje s=some (zj4 (prV (qNV s).1) (qNV s).2):=by
 rw[qK8,qpK];refine(biS (qfN s)).trans ?_;unfold qNV qpe;cases he:((qbr s).2.2 != 0)
 ·refine(brF rfl).trans ?_;have h0:(qbr s).2.2=0:=by simpa using he
  obtain⟨hv,hl,_⟩:=qGE h0;generalize (qbr s).1=T at hv hl;have hT:T.length<=1000000:=by omega
  have hst:stP T (.good T)=(ET T,0,0,0):=by
   show(ET T,pos T T,(0:Int),(0:Int))=_;unfold pos;rw[Nat.sub_self];rfl
  obtain⟨v,p',h1,D⟩:=qVf hT hv (p:=.good T) (jCa T);rw[hst]at h1;refine(brT (jA8 (by rw[jA5];simp only[lim,Prod.i,Prod.h,Prod.f];omega))).trans ((biS h1).trans ?_);have D2:=D.2;dsimp only at D2;simp only[jA9];cases hz:qg8 exS qiQ T with
  |bad q e=>
   rw[hz]at D2;obtain⟨k,rfl⟩:=D2;exact(brT (ql9 D.ok.1)).trans rfl
  |ok x r=>
   rw[hz]at D2;obtain⟨hx,rfl⟩:=D2;refine(brF rfl).trans ?_;show some (zj4 v (0,0))=some (zj4 (prV x) (0,0));rw[hx]
 ·exact(brT rfl).trans rfl
end Go.Proofs.H16
namespace Go.Tk
open Go Go.Eng
def kindP(s:Bs):Int:=bif qbT s then 5 else match s with
 | []=>4
 |c::_=>bif at8 qei c then 1 else 4
end Go.Tk
namespace Go.Tk
open Go Go.Eng
set_option maxRecDepth 20000
theorem kd{k:Int}{s:Bs}(h:(kindP s==k&& !s.isEmpty)=true):kindP s=k/\s.isEmpty=false:=by
 simpa using h
section
variable {α τ:Type}
end
end Go.Tk
namespace Go.Proofs.H16
open Go Go.Eng Go.Tk
set_option maxRecDepth 20000
theorem q3l{l:List Tok}(hb:q37 l=true):jB IP 24 (ET l)=true/\jS IP 24 (ET l)=(qnK qaP l).1/\jN IP 24 (ET l)=(qnK qaP l).2:=
 zsJ (qMQ (IP:=IP) (f:=24) (v:=66) (by kernel_rfl) (by kernel_rfl) (by kernel_rfl) hb fun t _=>qRF (t.kind,t.line,t.text) (qaP t) (qEL _ _ _))
end Go.Proofs.H16

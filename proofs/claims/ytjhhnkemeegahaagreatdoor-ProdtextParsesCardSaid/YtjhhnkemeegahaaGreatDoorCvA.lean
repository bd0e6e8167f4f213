/- Civil dates over plain data: the year, the month and the day of a number. -/
import Derived.Test.YtjhhnkemeegahaaGreatDoorX16Tks
import Derived.Lib.Case
import Derived.Lib.IndexAny
set_option linter.all false
namespace Go.Tk
open Go Go.Eng
def qnU(y:Int):Bool:=y%4==0&&(!(y%100==0)||y%400==0)
def mlS(y:Int)(m:Nat):Int:=if m=2 then(bif qnU y then 29 else 28)else if m=4\/m=6\/m=9\/m=11 then 30 else 31
def ylS(y:Int):Int:=bif qnU y then 366 else 365
def qbx:Nat->Int
 |0=>0
 |k+1=>qbx k+ylS (2000+k)
def qby(y:Int):Nat->Int
 |0=>0
 |m+1=>qby y m+mlS y (m+1)
theorem qoZ(y:Int)(m:Nat):28<=mlS y m/\mlS y m<=31:=by
 unfold mlS;cases qnU y<;>simp only[jAa,jA9]<;>(repeat' split)<;>omega
theorem qCS(y:Int):365<=ylS y/\ylS y<=366:=by
 unfold ylS;cases qnU y<;>simp
theorem zc4(y:Int):qby y 12=ylS y:=by
 simp only[qby,mlS,ylS];cases qnU y<;>rfl
theorem qgz{a b:Nat}(h:a<=b):qbx a<=qbx b:=by
 induction b with
 |zero=>simp[Nat.le_zero.1 h]
 |succ b ih=>
  rcases jCb b a with h1|h1
  ·rw[show a=b+1 by omega];omega
  ·have:=qCS (2000+b);have:=ih h1;simp only[qbx];omega
theorem qid(y:Int){a b:Nat}(h:a<=b):qby y a<=qby y b:=by
 induction b with
 |zero=>simp[Nat.le_zero.1 h]
 |succ b ih=>
  rcases jCb b a with h1|h1
  ·rw[show a=b+1 by omega];omega
  ·have:=qoZ y (b+1);have:=ih h1;simp only[qby];omega
theorem qD0:qbx 200=73049:=by decide +kernel
def IsCiv(n:Int)(c:Int×Int×Int):Prop:=∃k m:Nat,k<200/\m<12/\c.1=2000+k/\c.2.1=m+1/\1<=c.2.2/\c.2.2<=mlS c.1 (m+1)/\n=qbx k+qby c.1 m+c.2.2-1
def qiQ(y m d:Int):Option Int:=if 2000<=y/\y<=2199/\1<=m/\m<=12/\1<=d/\d<=mlS y m.toNat then some (qbx (y-2000).toNat+qby y (m-1).toNat+d-1)else none
theorem q7Q{y m d n:Int}(h:IsCiv n (y,m,d)):qiQ y m d=some n:=by
 obtain⟨k,j,hk,hj,hy,hm,h1,h2,hn⟩:=h;simp only at hy hm h1 h2 hn;have e1:(y-2000).toNat=k:=by omega
 have e2:(m-1).toNat=j:=by omega
 have e3:m.toNat=j+1:=by omega
 unfold qiQ;rw[e1,e2,e3,jAr ⟨by omega,by omega,by omega,by omega,h1,h2⟩,hn]
end Go.Tk
namespace Go.Proofs.H16
open Go Go.Eng Go.Tk
set_option maxRecDepth 20000
theorem qT5{y:Int}(h:0<=y):(br (y.tmod 4==0) (br (y.tmod 100 != 0) (some true) (some (y.tmod 400==0))) (some false))=some (qnU y):=by
 rw[Int.tmod_eq_emod_of_nonneg h,Int.tmod_eq_emod_of_nonneg h,Int.tmod_eq_emod_of_nonneg h];unfold qnU;cases(y%4==0)<;>cases h2:(y%100==0)<;>simp only[br_true,br_false,bne,h2,Bool.not_true,Bool.not_false,jBm,Bool.false_and,Bool.true_or,Bool.false_or]
theorem m12{m:Nat}(h1:1<=m)(h2:m<=12):m=1\/m=2\/m=3\/m=4\/m=5\/m=6\/m=7\/m=8\/m=9\/m=10\/m=11\/m=12:=by omega
theorem qpj{x:Int}(h1:-1000000000<=x)(h2:x<=1000000000):IntKind.i64.wrap x=x:=wrap64 (by omega) (by omega)
theorem qE7{y:Int}(h:0<=y):qnx y=some (qnU y):=by
 rw[qMg,qqQ];exact(biS (qT5 h)).trans rfl
theorem qfP{y:Int}(h:0<=y){m:Nat}(h1:1<=m)(h2:m<=12):qii y (m:Int)=some (mlS y m):=by
 rw[qLH,qqh];by_cases hm:m=2
 ·subst hm;rw[qE7 h];refine(biS (v:=qnU y) rfl).trans ?_;cases hl:qnU y
  ·refine(brF rfl).trans ?_;show some (28:Int)=some (mlS y 2);unfold mlS;rw[hl];rfl
  ·refine(brT rfl).trans ?_;show some (29:Int)=some (mlS y 2);unfold mlS;rw[hl];rfl
 ·have hb:((m:Int)==2)=false:=by rw[jBj];omega
  refine(biS (v:=false) (by rw[hb];rfl)).trans ((brF rfl).trans ?_);rcases m12 h1 h2 with rfl|rfl|rfl|rfl|rfl|rfl|rfl|rfl|rfl|rfl|rfl|rfl
  ·rfl
  ·exact absurd rfl hm
  all_goals rfl
def zsv(x0:Int):Int:=bif decide (x0>2100)then IntKind.i64.wrap (IntKind.i64.wrap (365*IntKind.i64.wrap (x0-2000))+IntKind.i64.wrap (IntKind.i64.wrap ((IntKind.i64.wrap (IntKind.i64.wrap (x0-2000)+3)).tdiv 4)-1))
 else IntKind.i64.wrap (IntKind.i64.wrap (365*IntKind.i64.wrap (x0-2000))+IntKind.i64.wrap ((IntKind.i64.wrap (IntKind.i64.wrap (x0-2000)+3)).tdiv 4))
theorem zaL:((List.range 201).all fun k=>zsv (2000+(k:Nat))==qbx k)=true:=by decide +kernel
theorem qil{k:Nat}(h:k<=200):qlw (2000+(k:Int))=some (qbx k):=by
 have:=jAb.1 zaL k (jBq.2 (by omega));rw[jB7]at this;rw[qLZ,qqz,<-this];unfold zsv;cases decide ((2000+(k:Int))>2100)<;>rfl
theorem qkV{k:Nat}(h:k<=200):0<=qbx k/\qbx k<=73049:=by
 have h1:=qgz (jBa k);have h2:=qgz h;rw[qD0]at h2;exact⟨h1,h2⟩
theorem qiP(y:Int){m:Nat}(h:m<=12):0<=qby y m/\qby y m<=366:=by
 have h1:=qid y (jBa m);have h2:=qid y h;rw[zc4]at h2;have:=qCS y;exact⟨h1,by omega⟩
theorem zom{y:Int}(h:0<=y){M:Nat}(hM:M<12):∀(k j:Nat) (a:Int),j+k=M->0<=a->a<=100000+qby y j->qae (fun v=>(qpF v).ev) (y,((M+1:Nat):Int),a,((j+1:Nat):Int))=some (0,y,((M+1:Nat):Int),a+(qby y M-qby y j),((M+1:Nat):Int)):=by
 intro k
 induction k with
 |zero=>
  intro j a hj h0 h1;have e:j=M:=by omega
  subst e;rw[qaf (j:=0) ?_]
  ·rw[show a+(qby y j-qby y j)=a by omega]
  ·show(qhO y ((j+1:Nat):Int) a ((j+1:Nat):Int)).ev=_;rw[qhO];exact(brF (by simp)).trans rfl
 |succ k ih=>
  intro j a hj h0 h1;have hc:=qiP y (m:=j+1) (by omega);have hm:=qoZ y (j+1);have e1:qby y (j+1)=qby y j+mlS y (j+1):=rfl;rw[qaq (v':=(y,((M+1:Nat):Int),a+mlS y (j+1),((j+1+1:Nat):Int))) ?_]
  ·rw[ih (j+1) _ (by omega) (by omega) (by omega),show a+mlS y (j+1)+(qby y M-qby y (j+1))=a+(qby y M-qby y j) by omega]
  ·show(qhO y ((M+1:Nat):Int) a ((j+1:Nat):Int)).ev=_;rw[qhO];refine(brT (jA8 (by omega))).trans ((biS (qfP h (by omega) (by omega))).trans ?_);show some (Rd.next (y,((M+1:Nat):Int),IntKind.i64.wrap (a+mlS y (j+1)),IntKind.i64.wrap (((j+1:Nat):Int)+1)))=_;rw[qpj (by omega) (by omega),qpj (by omega) (by omega)];rfl
def qu0(y m d:Int):Int×Int:=match qiQ y m d with
 |some n=>(n,0)
 |none=>(0,1)
theorem qjb{y m d:Int}(h:¬(2000<=y/\y<=2199/\1<=m/\m<=12/\1<=d/\d<=mlS y m.toNat)):qu0 y m d=(0,1):=by
 unfold qu0 qiQ;rw[jAm h]
theorem qRV{k M:Nat}{d:Int}(hk:k<200)(hM:M<12)(h1:1<=d)(h2:d<=mlS (2000+k) (M+1)):qu0 (2000+k) ((M+1:Nat):Int) d=(qbx k+qby (2000+k) M+d-1,0):=by
 have:=q7Q (y:=2000+k) (m:=((M+1:Nat):Int)) (d:=d) (n:=qbx k+qby (2000+k) M+d-1) ⟨k,M,hk,hM,rfl,by simp,h1,h2,rfl⟩;unfold qu0;rw[this]
theorem qFf(y m d:Int):qst y m d=some (qu0 y m d):=by
 rw[qMu,qq5];by_cases hy:2000<=y/\y<=2199
 ·have b0:br (decide (y<2000)) (some true) (some (decide (y>2199)))=some false:=by rw[jAe (by omega),jAe (by omega)];rfl
  refine(biS b0).trans ?_;by_cases hm:1<=m/\m<=12
  ·have b1:br false (some true) (some (decide (m<1)))=some false:=by rw[jAe (by omega)];rfl
   have b2:br false (some true) (some (decide (m>12)))=some false:=by rw[jAe (by omega)];rfl
   refine(biS b1).trans ((biS b2).trans ?_);obtain⟨k,rfl⟩:∃k:Nat,y=2000+k:=⟨(y-2000).toNat,by omega⟩;obtain⟨M,rfl⟩:∃M:Nat,m=((M+1:Nat):Int):=⟨(m-1).toNat,by omega⟩;have hlen:=qfP (y:=2000+k) (by omega) (m:=M+1) (by omega) (by omega);by_cases hd:1<=d
   ·have b3:br false (some true) (some (decide (d<1)))=some false:=by rw[jAe (by omega)];rfl
    refine(biS b3).trans ?_;rw[hlen];refine(biS (v:=decide (d>mlS (2000+k) (M+1))) rfl).trans ?_;by_cases hd2:d<=mlS (2000+k) (M+1)
    ·have hm:=qoZ (2000+k) (M+1);have hb:=qkV (k:=k) (by omega);have hc:=qiP (2000+k) (m:=M) (by omega);refine(brF (jAe (by omega))).trans ((biS (qil (by omega))).trans ?_);rw[qRV (by omega) (by omega) hd hd2];have e:IntKind.i64.wrap (IntKind.i64.wrap (qbx k+d)-1)=qbx k+d-1:=by
      rw[qpj (x:=qbx k+d) (by omega) (by omega),qpj (by omega) (by omega)]
     have hl:=zom (y:=2000+k) (by omega) (M:=M) (by omega) M 0 (qbx k+d-1) (by omega) (by omega) (by show _<=100000+(0:Int);omega);refine(biS (v:=(2000+(k:Int),((M+1:Nat):Int),qbx k+d-1+(qby (2000+k) M-qby (2000+k) 0),((M+1:Nat):Int))) ?_).trans ?_
     ·rw[e,qwk];show pj 0 (qae _ (2000+(k:Int),((M+1:Nat):Int),qbx k+d-1,((0+1:Nat):Int)))=_;rw[hl];rfl
     ·show some (qbx k+d-1+(qby (2000+k) M-qby (2000+k) 0),(0:Int))=_;rw[show qby (2000+(k:Int)) 0=0 from rfl,show qbx k+d-1+(qby (2000+(k:Int)) M-0)=qbx k+qby (2000+(k:Int)) M+d-1 by omega]
    ·rw[qjb fun h=>hd2 (by have:=h.2.2.2.2.2;rw[show((M+1:Nat):Int).toNat=M+1 by omega]at this;exact this)];exact(brT (jA8 (by omega))).trans rfl
   ·have b3:br false (some true) (some (decide (d<1)))=some true:=by rw[jA8 (by omega)];rfl
    rw[qjb fun h=>hd h.2.2.2.2.1];exact(biS b3).trans ((biS (v:=true) rfl).trans ((brT rfl).trans rfl))
  ·rw[qjb fun h=>hm ⟨h.2.2.1,h.2.2.2.1⟩];have:∃c,br false (some true) (some (decide (m<1)))=some c/\br c (some true) (some (decide (m>12)))=some true:=by
    by_cases h1:m<1
    ·exact⟨true,by rw[jA8 h1];rfl,rfl⟩
    ·exact⟨false,by rw[jAe h1];rfl,by rw[jA8 (by omega)];rfl⟩
   obtain⟨c,c1,c2⟩:=this;exact(biS c1).trans ((biS c2).trans ((biS (v:=true) rfl).trans ((biS (v:=true) rfl).trans ((brT rfl).trans rfl))))
 ·rw[qjb fun h=>hy ⟨h.1,h.2.1⟩];have b0:br (decide (y<2000)) (some true) (some (decide (y>2199)))=some true:=by
   by_cases h1:y<2000
   ·rw[jA8 h1];rfl
   ·rw[jAe h1,jA8 (by omega)];rfl
  exact(biS b0).trans ((biS (v:=true) rfl).trans ((biS (v:=true) rfl).trans ((biS (v:=true) rfl).trans ((biS (v:=true) rfl).trans ((brT rfl).trans rfl)))))
theorem qsl{y:Int}(h:0<=y):qbb y=some (qnU y):=by
 rw[qMj,qqT];exact(biS (qT5 h)).trans rfl
theorem qj4{y:Int}(h:0<=y):qsC y=some (ylS y):=by
 rw[qS2,qAz];refine(biS (qsl h)).trans ?_;unfold ylS;cases qnU y<;>rfl
theorem qfQ{y:Int}(h:0<=y){m:Nat}(h1:1<=m)(h2:m<=12):qg0 y (m:Int)=some (mlS y m):=by
 rw[qvB,qm2];have hl:=qsl h;rcases m12 h1 h2 with rfl|rfl|rfl|rfl|rfl|rfl|rfl|rfl|rfl|rfl|rfl|rfl
 ·rfl
 ·rw[hl];unfold mlS;cases qnU y<;>rfl
 all_goals rfl
theorem qLQ{y m:Int}(h:¬(1<=m/\m<=12)):qg0 y m=some 0:=by
 rw[qvB,qm2];have g:∀k:Int,1<=k->k<=12->(m==k)=false:=fun k a b=>by
  rw[jBj];omega
 simp only[g 1 (by decide) (by decide),g 2 (by decide) (by decide),g 3 (by decide) (by decide),g 4 (by decide) (by decide),g 5 (by decide) (by decide),g 6 (by decide) (by decide),g 7 (by decide) (by decide),g 8 (by decide) (by decide),g 9 (by decide) (by decide),g 10 (by decide) (by decide),g 11 (by decide) (by decide),g 12 (by decide) (by decide),ev_br,ev_at,jA9]
theorem zdI{K:Nat}(hK:K<200)(m:Int):∀(k j:Nat) (a:Int),j+k=K->0<=a->a<=100+qbx j->qae (fun v=>(qpG v).ev) (2000+(K:Int),m,a,2000+(j:Int))=some (0,2000+(K:Int),m,a+(qbx K-qbx j),2000+(K:Int)):=by
 intro k
 induction k with
 |zero=>
  intro j a hj h0 h1;have e:j=K:=by omega
  subst e;rw[qaf (j:=0) ?_]
  ·rw[show a+(qbx j-qbx j)=a by omega]
  ·show(qhP (2000+(j:Int)) m a (2000+(j:Int))).ev=_;rw[qhP];exact(brF (by simp)).trans rfl
 |succ k ih=>
  intro j a hj h0 h1;have hc:=qkV (k:=j+1) (by omega);have hm:=qCS (2000+j);have e1:qbx (j+1)=qbx j+ylS (2000+j):=rfl;rw[qaq (v':=(2000+(K:Int),m,a+ylS (2000+j),2000+((j+1:Nat):Int))) ?_]
  ·rw[ih (j+1) _ (by omega) (by omega) (by omega),show a+ylS (2000+j)+(qbx K-qbx (j+1))=a+(qbx K-qbx j) by omega]
  ·show(qhP (2000+(K:Int)) m a (2000+(j:Int))).ev=_;rw[qhP];refine(brT (jA8 (by omega))).trans ((biS (qj4 (by omega))).trans ?_);show some (Rd.next (2000+(K:Int),m,IntKind.i64.wrap (a+ylS (2000+j)),IntKind.i64.wrap (2000+(j:Int)+1)))=_;rw[qpj (by omega) (by omega),qpj (by omega) (by omega),show 2000+(j:Int)+1=2000+((j+1:Nat):Int) by omega]
theorem zdJ{y:Int}(h:0<=y){M:Nat}(hM:M<12):∀(k j:Nat) (a:Int),j+k=M->0<=a->a<=100000+qby y j->qae (fun v=>(qpH v).ev) (y,((M+1:Nat):Int),a,((j+1:Nat):Int))=some (0,y,((M+1:Nat):Int),a+(qby y M-qby y j),((M+1:Nat):Int)):=by
 intro k
 induction k with
 |zero=>
  intro j a hj h0 h1;have e:j=M:=by omega
  subst e;rw[qaf (j:=0) ?_]
  ·rw[show a+(qby y j-qby y j)=a by omega]
  ·show(qhQ y ((j+1:Nat):Int) a ((j+1:Nat):Int)).ev=_;rw[qhQ];exact(brF (by simp)).trans rfl
 |succ k ih=>
  intro j a hj h0 h1;have hc:=qiP y (m:=j+1) (by omega);have hm:=qoZ y (j+1);have e1:qby y (j+1)=qby y j+mlS y (j+1):=rfl;rw[qaq (v':=(y,((M+1:Nat):Int),a+mlS y (j+1),((j+1+1:Nat):Int))) ?_]
  ·rw[ih (j+1) _ (by omega) (by omega) (by omega),show a+mlS y (j+1)+(qby y M-qby y (j+1))=a+(qby y M-qby y j) by omega]
  ·show(qhQ y ((M+1:Nat):Int) a ((j+1:Nat):Int)).ev=_;rw[qhQ];refine(brT (jA8 (by omega))).trans ((biS (qfQ h (by omega) (by omega))).trans ?_);show some (Rd.next (y,((M+1:Nat):Int),IntKind.i64.wrap (a+mlS y (j+1)),IntKind.i64.wrap (((j+1:Nat):Int)+1)))=_;rw[qpj (by omega) (by omega),qpj (by omega) (by omega)];rfl
theorem qsu(y m d:Int):qlG y m d=some (qu0 y m d):=by
 rw[qMv,qq6];by_cases hy:2000<=y/\y<=2199
 ·have b0:br (decide (y<2000)) (some true) (some (decide (y>2199)))=some false:=by rw[jAe (by omega),jAe (by omega)];rfl
  refine(biS b0).trans ?_;by_cases hd:1<=d
  ·have b1:br false (some true) (some (decide (d<1)))=some false:=by rw[jAe (by omega)];rfl
   refine(biS b1).trans ?_;by_cases hm:1<=m/\m<=12
   ·obtain⟨k,rfl⟩:∃k:Nat,y=2000+k:=⟨(y-2000).toNat,by omega⟩;obtain⟨M,rfl⟩:∃M:Nat,m=((M+1:Nat):Int):=⟨(m-1).toNat,by omega⟩;have hlen:=qfQ (y:=2000+k) (by omega) (m:=M+1) (by omega) (by omega);rw[hlen];refine(biS (v:=decide (d>mlS (2000+k) (M+1))) rfl).trans ?_;by_cases hd2:d<=mlS (2000+k) (M+1)
    ·have hm:=qoZ (2000+k) (M+1);have hb:=qkV (k:=k) (by omega);have hc:=qiP (2000+k) (m:=M) (by omega);refine(brF (jAe (by omega))).trans ?_;rw[qRV (by omega) (by omega) hd hd2];have hl0:=zdI (K:=k) (by omega) (((M+1:Nat):Int)) k 0 (d-1) (by omega) (by omega) (by show _<=100+(0:Int);omega);have hl:=zdJ (y:=2000+k) (by omega) (M:=M) (by omega) M 0 (qbx k+d-1) (by omega) (by omega) (by show _<=100000+(0:Int);omega);refine(biS (v:=(2000+(k:Int),((M+1:Nat):Int),qbx k+d-1,2000+(k:Int))) ?_).trans ((biS (v:=(2000+(k:Int),((M+1:Nat):Int),qbx k+d-1+(qby (2000+k) M-qby (2000+k) 0),((M+1:Nat):Int))) ?_).trans ?_)
     ·rw[qpj (by omega) (by omega),qwl];have e0:d-1+(qbx k-qbx 0)=qbx k+d-1:=by show d-1+(qbx k-0)=_;omega
      rw[e0]at hl0;show pj 0 (qae _ (2000+(k:Int),((M+1:Nat):Int),d-1,2000+((0:Nat):Int)))=_;rw[hl0];rfl
     ·rw[qwm];show pj 0 (qae _ (2000+(k:Int),((M+1:Nat):Int),qbx k+d-1,((0+1:Nat):Int)))=_;rw[hl];rfl
     ·show some (qbx k+d-1+(qby (2000+k) M-qby (2000+k) 0),(0:Int))=_;rw[show qby (2000+(k:Int)) 0=0 from rfl,show qbx k+d-1+(qby (2000+(k:Int)) M-0)=qbx k+qby (2000+(k:Int)) M+d-1 by omega]
    ·rw[qjb fun h=>hd2 (by have:=h.2.2.2.2.2;rw[show((M+1:Nat):Int).toNat=M+1 by omega]at this;exact this)];exact(brT (jA8 (by omega))).trans rfl
   ·rw[qLQ hm];rw[qjb fun h=>hm ⟨h.2.2.1,h.2.2.2.1⟩];refine(biS (v:=decide (d>0)) rfl).trans ((brT (jA8 (by omega))).trans rfl)
  ·have b1:br false (some true) (some (decide (d<1)))=some true:=by rw[jA8 (by omega)];rfl
   rw[qjb fun h=>hd h.2.2.2.2.1];exact(biS b1).trans ((biS (v:=true) rfl).trans ((brT rfl).trans rfl))
 ·rw[qjb fun h=>hy ⟨h.1,h.2.1⟩];have b0:br (decide (y<2000)) (some true) (some (decide (y>2199)))=some true:=by
   by_cases h1:y<2000
   ·rw[jA8 h1];rfl
   ·rw[jAe h1,jA8 (by omega)];rfl
  exact(biS b0).trans ((biS (v:=true) rfl).trans ((biS (v:=true) rfl).trans ((brT rfl).trans rfl)))
end Go.Proofs.H16
namespace Go.Tk
open Go Go.Eng
set_option maxRecDepth 20000
structure Tr where
 (from_ ppm:Int)
def Tr.av(x:Tr):AV:=.agg [.int .i64 x.from_,.int .i64 x.ppm]
abbrev ETr(l:List Tr):List AV:=l.map Tr.av
abbrev zsK:List CS:=[CS.int IntKind.i64,CS.int IntKind.i64]
theorem ztf(h:Tr):qpd zsK (qai h.av)=true:=rfl
theorem zsU{l:List Tr}{n:Nat}(h:n<l.length):qaG zsK (ETr l) (n:Int)=true:=qge ztf h
theorem zsY{l:List Tr}{n:Nat}(h:n<l.length):intOf (cellAt (ETr l) (n:Int) 0)=l[n].from_:=by rw[qaD h];rfl
theorem zsZ{l:List Tr}{n:Nat}(h:n<l.length):intOf (cellAt (ETr l) (n:Int) 1)=l[n].ppm:=by rw[qaD h];rfl
structure Cu where
 (code:Bs) (digits:Int)
def Cu.av(x:Cu):AV:=.agg [.str x.code,.int .i64 x.digits]
abbrev EC(l:List Cu):List AV:=l.map Cu.av
theorem hkC(h:Cu):qpd ksV (qai h.av)=true:=rfl
theorem okC{l:List Cu}{n:Nat}(h:n<l.length):qaG ksV (EC l) (n:Int)=true:=qge hkC h
structure Cal where
 (name:Bs) (wk hol:List AV)
def Cal.av(x:Cal):AV:=.agg [.str x.name,.view 1 x.wk,.view 1 x.hol]
abbrev EK(l:List Cal):List AV:=l.map Cal.av
structure Fe where
 (name:Bs) (event:Int) (when_ amount:Ex)
def Fe.av(x:Fe):AV:=.agg [.str x.name,.int .i64 x.event,.int .i64 x.when_.op,.int .i64 x.when_.num,.str x.when_.txt,.view 4 (EX x.when_.args),.int .i64 x.amount.op,.int .i64 x.amount.num,.str x.amount.txt,.view 4 (EX x.amount.args)]
abbrev EF(l:List Fe):List AV:=l.map Fe.av
abbrev ksF:List CS:=[CS.str,CS.int .i64,CS.int .i64,CS.int .i64,CS.str,CS.slice 4,CS.int .i64,CS.int .i64,CS.str,CS.slice 4]
theorem hkF(h:Fe):qpd ksF (qai h.av)=true:=rfl
theorem okF{l:List Fe}{n:Nat}(h:n<l.length):qaG ksF (EF l) (n:Int)=true:=qge hkF h
theorem qf0{l:List Fe}{n:Nat}(h:n<l.length):strOf (cellAt (EF l) (n:Int) 0)=l[n].name:=by rw[qaD h];rfl
theorem qf1{l:List Fe}{n:Nat}(h:n<l.length):intOf (cellAt (EF l) (n:Int) 1)=l[n].event:=by rw[qaD h];rfl
theorem qf2{l:List Fe}{n:Nat}(h:n<l.length):intOf (cellAt (EF l) (n:Int) 2)=l[n].when_.op:=by rw[qaD h];rfl
theorem qf3{l:List Fe}{n:Nat}(h:n<l.length):intOf (cellAt (EF l) (n:Int) 3)=l[n].when_.num:=by rw[qaD h];rfl
theorem qf4{l:List Fe}{n:Nat}(h:n<l.length):strOf (cellAt (EF l) (n:Int) 4)=l[n].when_.txt:=by rw[qaD h];rfl
theorem qf5{l:List Fe}{n:Nat}(h:n<l.length):qap (cellAt (EF l) (n:Int) 5)=EX l[n].when_.args:=by rw[qaD h];rfl
theorem qf6{l:List Fe}{n:Nat}(h:n<l.length):intOf (cellAt (EF l) (n:Int) 6)=l[n].amount.op:=by rw[qaD h];rfl
theorem qf7{l:List Fe}{n:Nat}(h:n<l.length):intOf (cellAt (EF l) (n:Int) 7)=l[n].amount.num:=by rw[qaD h];rfl
theorem qf8{l:List Fe}{n:Nat}(h:n<l.length):strOf (cellAt (EF l) (n:Int) 8)=l[n].amount.txt:=by rw[qaD h];rfl
theorem qf9{l:List Fe}{n:Nat}(h:n<l.length):qap (cellAt (EF l) (n:Int) 9)=EX l[n].amount.args:=by rw[qaD h];rfl
structure Ru where
 (name:Bs) (window:Int) (amount:Ex)
def Ru.av(x:Ru):AV:=.agg [.str x.name,.int .i64 x.window,.int .i64 x.amount.op,.int .i64 x.amount.num,.str x.amount.txt,.view 4 (EX x.amount.args)]
abbrev ER(l:List Ru):List AV:=l.map Ru.av
abbrev ksR:List CS:=[CS.str,CS.int .i64,CS.int .i64,CS.int .i64,CS.str,CS.slice 4]
theorem hkR(h:Ru):qpd ksR (qai h.av)=true:=rfl
theorem okR{l:List Ru}{n:Nat}(h:n<l.length):qaG ksR (ER l) (n:Int)=true:=qge hkR h
theorem qr0{l:List Ru}{n:Nat}(h:n<l.length):strOf (cellAt (ER l) (n:Int) 0)=l[n].name:=by rw[qaD h];rfl
theorem qr1{l:List Ru}{n:Nat}(h:n<l.length):intOf (cellAt (ER l) (n:Int) 1)=l[n].window:=by rw[qaD h];rfl
theorem qr2{l:List Ru}{n:Nat}(h:n<l.length):intOf (cellAt (ER l) (n:Int) 2)=l[n].amount.op:=by rw[qaD h];rfl
theorem qr3{l:List Ru}{n:Nat}(h:n<l.length):intOf (cellAt (ER l) (n:Int) 3)=l[n].amount.num:=by rw[qaD h];rfl
theorem qr4{l:List Ru}{n:Nat}(h:n<l.length):strOf (cellAt (ER l) (n:Int) 4)=l[n].amount.txt:=by rw[qaD h];rfl
theorem qr5{l:List Ru}{n:Nat}(h:n<l.length):qap (cellAt (ER l) (n:Int) 5)=EX l[n].amount.args:=by rw[qaD h];rfl
structure In where
 (tiers:List Tr) (marg:Bool) (basis mode:Int) (keep:Bool)
structure Pr where
 (name cur cal:Bs) (from_ every over tax:Int) (cr de:In) (fees:List Fe) (rules:List Ru)
theorem qi9(a b:Bool):br a (some true) (some b)=some (a||b):=by cases a<;>rfl
def qkQ{α:Type}(eq:α->α->Bool)(a b:List α)(i:Nat):Bool:=match a[i]?,b[i]? with
 |some x,some y=>!eq x y
 |_,_=>false
def eqT(x y:Tr):Bool:=x.from_==y.from_&&(x.ppm==y.ppm&&true)
def qiW(a b:In):Bool:=bif a.tiers.length==b.tiers.length then !(List.range a.tiers.length).any (qkQ eqT a.tiers b.tiers)&&((a.marg==b.marg)&&((a.basis==b.basis)&&((a.mode==b.mode)&&(a.keep==b.keep))))else false
mutual
def qew:Ex->Ex->Bool
 | .mk o n s l,.mk o' n' s' l'=>(o==o')&&((n==n')&&((s==s')&&qwQ l l'))
def qwQ:List Ex->List Ex->Bool
 | [],[]=>true
 |x::l,y::m=>qew x y&&qwQ l m
 |_,_=>false
end
def qdj{α:Type}(eq:α->α->Bool)(a b:List α):Bool:=bif a.length==b.length then !(List.range a.length).any (qkQ eq a b)else false
theorem q2D(p:Nat->Bool)(n:Nat):(List.range (n+1)).any p=(p 0||(List.range n).any fun i=>p (i+1)):=by
 rw[List.range_succ_eq_map,List.any_cons,List.any_map];rfl
theorem qjN:∀a b:List Ex,qwQ a b=qdj qew a b
 | [],[]=>rfl
 | [],y::m=>by simp[qwQ,qdj]
 |x::l,[]=>by simp[qwQ,qdj]
 |x::l,y::m=>by
  rw[qwQ,qjN l m];have h0:qkQ qew (x::l) (y::m) 0= !qew x y:=by simp[qkQ]
  have hs:(fun i=>qkQ qew (x::l) (y::m) (i+1))=qkQ qew l m:=by funext i;simp[qkQ]
  simp only[qdj,jA0,q2D,h0,hs];by_cases h:l.length=m.length
  ·simp[h]
  ·have e1:(l.length==m.length)=false:=by simpa using h
   have e2:(l.length+1==m.length+1)=false:=by simpa using h
   rw[e1,e2];simp
def qgK(x y:Fe):Bool:=(x.name==y.name)&&((x.event==y.event)&&(qew x.when_ y.when_&&qew x.amount y.amount))
def qgL(x y:Ru):Bool:=(x.name==y.name)&&((x.window==y.window)&&qew x.amount y.amount)
def qo5(p q:Pr):Bool:=bif (!(p.name==q.name))||((!(p.cur==q.cur))||((!(p.cal==q.cal))||((p.from_ != q.from_)||((p.every != q.every)||((p.over != q.over)||(p.tax != q.tax))))))then false else
 bif !qiW p.cr q.cr || !qiW p.de q.de then false else qdj qgK p.fees q.fees&&qdj qgL p.rules q.rules
theorem qn5{α:Type}{eq:α->α->Bool}{l:List α}(h:∀x∈l,eq x x=true):qdj eq l l=true:=by
 have:(List.range l.length).any (qkQ eq l l)=false:=by
  rw[List.any_eq_false];intro i hi;have hi':i<l.length:=by simpa using hi
  simp[qkQ,jAh hi',h _ (jAi hi')]
 simp[qdj,this]
theorem qwP:∀e:Ex,qew e e=true:=by
 intro e
 induction e using Ex.ind with
 |h o n s l ih=>rw[qew,qjN,qn5 ih];simp
theorem qGf(x:Fe):qgK x x=true:=by simp[qgK,qwP]
theorem qGj(x:Ru):qgL x x=true:=by simp[qgL,qwP]
theorem qGh(x:In):qiW x x=true:=by
 have:(List.range x.tiers.length).any (qkQ eqT x.tiers x.tiers)=false:=by
  rw[List.any_eq_false];intro i hi;have hi':i<x.tiers.length:=by simpa using hi
  simp[qkQ,jAh hi',eqT]
 simp[qiW,this]
theorem qGi(p:Pr):qo5 p p=true:=by
 simp[qo5,qGh,qn5 (eq:=qgK) fun x _=>qGf x,qn5 (eq:=qgL) fun x _=>qGj x]
end Go.Tk
namespace Go.Tk
open Go Go.Eng
inductive Pz (α:Type) where
 |bad (r:List Tok) (e:Int)
 |ok (a:α) (r:List Tok)
def Pz.bnd{α β:Type}(x:Pz α)(f:α->List Tok->Pz β):Pz β:=match x with
 | .bad r e=>.bad r e
 | .ok a r=>f a r
def qcJ(s:Bs)(l:List Tok):Pz Unit:=bif isW s l then .ok () l.tail else .bad l 2
def qct:List Bs->List Tok->Pz Unit
 | [],l=>.ok () l
 |s::ss,l=>(qcJ s l).bnd fun _ l=>qct ss l
def qcO(k:Int):List Tok->Pz Bs
 | []=>.bad [] 2
 |t::r=>bif t.kind==k then .ok t.text r else .bad (t::r) 2
def qpc(l:List Tok):Pz Int:=match numAt l with
 |some n=>.ok n l.tail
 |none=>.bad l 2
def qkT:List Tok->Pz Int
 | []=>.bad [] 2
 |t::r=>bif t.kind==3&&(qbh t.text).2==0 then .ok (qbh t.text).1 r else .bad (t::r) 2
def qfC:Nat->List Bs->List Tok->Pz Int
 |_,[],l=>.bad l 2
 |i,s::ss,l=>bif isW s l then .ok ((i+1:Nat):Int) l.tail else qfC (i+1) ss l
def qi2(l:List Tok):Pz Tr:=(qpc l).bnd fun a l=>(qcJ [58] l).bnd fun _ l=>(qkT l).bnd fun p l=>(qcJ [59] l).bnd fun _ l=>.ok ⟨a,p⟩ l
def qcs:Nat->List Tr->List Tok->Pz (List Tr)
 |0,_,l=>.bad l 2
 |n+1,acc,l=>bif isW [36] l then(qi2 l.tail).bnd fun t l=>qcs n (acc++[t]) l else .ok acc l
def qiO:List Bs:=[[97,99,116,51,54,48],[97,99,116,51,54,53],[97,99,116,117,97,108],[116,104,105,114,116,121]]
def qiV:List Bs:=[[100,111,119,110],[117,112],[102,108,111,111,114],[99,101,105,108],[104,97,108,102,95,117,112],[104,97,108,102,95,101,118,101,110]]
def qfL:List Bs:=[[109,111,110,116,104],[100,101,98,105,116],[114,101,116,117,114,110],[99,108,111,115,101]]
def qdD:List Bs:=[[115,105,110,103,108,101],[100,97,105,108,121],[109,111,110,116,104,108,121]]
noncomputable def qA4(exS:List Tok->Rs)(l:List Tok):Pz Ex:=match exS l with
 | .bad r=>.bad r 2
 | .ok e r=>bif qaJ e==0 then .ok e r else .bad l (qaJ e)
def qvr(s:Bs):Option Bs:=if s.length=3/\s.all (at8 fun c=>decide (c>=97)&&decide (c<=122))=true then some (s.map fun c=>c-32)else none
def qgq(l:List Tok):Pz Bs:=(qcO 1 l).bnd fun s r=>match qvr s with
 |some c=>.ok c r
 |none=>.bad l 2
def qEd(day:Int->Int->Int->Option Int)(l:List Tok):Pz Int:=(qpc l).bnd fun y r=>(qcJ [47] r).bnd fun _ r=>(qpc r).bnd fun m r=>(qcJ [47] r).bnd fun _ r=>(qpc r).bnd fun d r=>match day y m d with
 |some n=>.ok n r
 |none=>.bad l 1
def qCZ(w:Bs)(l:List Tok):Pz In:=(qcJ w l).bnd fun _ r=>(qfC 0 [[119,104,111,108,101],[109,97,114,103,105,110,97,108]] r).bnd fun k r=>(qfC 0 qiO r).bnd fun b r=>(qfC 0 qiV r).bnd fun m r=>(qfC 0 [[100,114,111,112],[107,101,101,112]] r).bnd fun q r=>(qcJ [123] r).bnd fun _ r=>
 (qcs (r.length+1) [] r).bnd fun ts r=>(qcJ [125] r).bnd fun _ r=>.ok ⟨ts,k==2,b,m,q==2⟩ r
noncomputable def qBi(exS:List Tok->Rs)(l:List Tok):Pz Fe:=(qcO 1 l).bnd fun n r=>(qfC 0 qfL r).bnd fun e r=>(qcJ [119,104,101,110] r).bnd fun _ r=>(qA4 exS r).bnd fun w r=>(qcJ [97,109,111,117,110,116,95,111,102] r).bnd fun _ r=>(qA4 exS r).bnd fun a r=>(qcJ [59] r).bnd fun _ r=>.ok ⟨n,e,w,a⟩ r
noncomputable def qha(exS:List Tok->Rs)(l:List Tok):Pz Ru:=(qcO 1 l).bnd fun n r=>(qfC 0 qdD r).bnd fun w r=>(qA4 exS r).bnd fun a r=>(qcJ [59] r).bnd fun _ r=>.ok ⟨n,w,a⟩ r
noncomputable def qdi{α:Type}(w:Bs)(f:List Tok->Pz α):Nat->List α->List Tok->Pz (List α)
 |0,_,l=>.bad l 2
 |n+1,acc,l=>bif isW w l then(f l.tail).bnd fun x r=>qdi w f n (acc++[x]) r else .ok acc l
noncomputable def qg8(exS:List Tok->Rs)(day:Int->Int->Int->Option Int)(l:List Tok):Pz Pr:=
 (qcJ [112,114,111,100,117,99,116] l).bnd fun _ r=>(qcO 1 r).bnd fun nm r=>(qct [[123],[99,117,114,114,101,110,99,121]] r).bnd fun _ r=>(qgq r).bnd fun cu r=>(qct [[59],[99,97,108,101,110,100,97,114]] r).bnd fun _ r=>(qcO 1 r).bnd fun ca r=>
 (qct [[59],[102,114,111,109]] r).bnd fun _ r=>(qEd day r).bnd fun fr r=>(qct [[59],[101,118,101,114,121]] r).bnd fun _ r=>(qpc r).bnd fun ev r=>(qct [[59],[111,118,101,114,100,114,97,102,116],[36]] r).bnd fun _ r=>(qpc r).bnd fun ov r=>
 (qct [[59],[116,97,120]] r).bnd fun _ r=>(qkT r).bnd fun tx r=>(qcJ [59] r).bnd fun _ r=>(qCZ [99,114,101,100,105,116] r).bnd fun cr r=>(qCZ [100,101,98,105,116] r).bnd fun de r=>
 (qdi [102,101,101] (qBi exS) (r.length+1) [] r).bnd fun fs r=>(qdi [108,105,109,105,116] (qha exS) (r.length+1) [] r).bnd fun rs r=>(qcJ [125] r).bnd fun _ r=>
 match r with
 | []=>.ok ⟨nm,cu,ca,fr,ev,ov,tx,cr,de,fs,rs⟩ []
 |t::r=>.bad (t::r) 2
def exT(n:Int)(e:Ex):List Tok:=(wrB e).map fun t=>⟨t.kind,n,t.text⟩
def kt(t:Tok):Int×Bs:=(t.kind,t.text)
theorem qah{α β:Type}{x:Pz α}{f:α->List Tok->Pz β}{b:β}{r:List Tok}(h:x.bnd f= .ok b r):∃a r',x= .ok a r'/\f a r'= .ok b r:=by
 cases x with
 |bad r e=>cases h
 |ok a r'=>exact⟨a,r',rfl,h⟩
theorem qvA{exS:List Tok->Rs}{l r:List Tok}{e:Ex}(h:qA4 exS l= .ok e r):qaJ e=0:=by
 unfold qA4 at h;cases hx:exS l with
 |bad r=>rw[hx]at h;cases h
 |ok f r'=>
  rw[hx]at h;cases hv:(qaJ f==0)
  ·simp only[hv]at h;cases h
  ·simp only[hv]at h;cases h;simpa using hv
def InR(a b x:Int):Prop:=a<=x/\x<=b
theorem zhF:∀(k:Nat) (s:Bs) (line:Int),s.length<=k->(rdT s line).1.length<=s.length/\(∀t∈(rdT s line).1,InR line (line+s.length) t.line)/\((rdT s line).2.2≠0->InR line (line+s.length) (rdT s line).2.1):=by
 intro k
 induction k with
 |zero=>
  intro s line h;have:s= []:=jAy.1 (by omega);subst this;exact⟨jAj _,(fun t ht=>nomatch ht),fun h=>absurd rfl h⟩
 |succ k ih=>
  intro s line h;rw[qeB];have hc:((s.take (blk false s)).count 10)<=(s.take (blk false s)).length:=List.count_le_length;have hsum:=congrArg List.length (jCc (blk false s) s);rw[jA2]at hsum;have h0:0<=(((s.take (blk false s)).count 10:Nat):Int):=Int.natCast_nonneg _;generalize ((s.take (blk false s)).count 10)=c10 at hc h0 ⊢;cases hx:s.drop (blk false s)with
  |nil=>exact⟨jBa _,(fun t ht=>nomatch ht),fun h=>absurd rfl h⟩
  |cons c r=>
   rw[hx]at hsum;simp only[jA0]at hsum;simp only[stepT];cases he:((qaw (c::r)).2.2 != 0)
   ·have he0:(qaw (c::r)).2.2=0:=by simpa using he
    have hp:=jCp.2 (qcp he0).1;have hdl:((c::r).drop (qaw (c::r)).2.1.length).length+1<=r.length+1:=by simp only[jB0,jA0];omega
    obtain⟨i1,i2,i3⟩:=ih ((c::r).drop (qaw (c::r)).2.1.length) (line+(c10:Int)) (by omega);simp only[jA9,qpa];generalize rdT ((c::r).drop (qaw (c::r)).2.1.length) (line+(c10:Int))=q at i1 i2 i3;cases hz:(q.2.2 != 0)
    ·refine⟨by simp only[jA9,jA0];omega,fun t ht=>?_,fun hq=>?_⟩
     ·simp only[jA9,jAc]at ht;rcases ht with rfl|ht
      ·exact⟨by show line<=line+(c10:Int);omega,by show line+(c10:Int)<=_;omega⟩
      ·have:=i2 t ht;exact⟨by have:=this.1;omega,by have:=this.2;omega⟩
     ·rw[jA9]at hq;rw[bne_eq_false_iff_eq]at hz;exact absurd hz hq
    ·refine⟨by simp only[jAa];omega,fun t ht=>?_,fun hq=>?_⟩
     ·have:=i2 t ht;exact⟨by have:=this.1;omega,by have:=this.2;omega⟩
     ·have:=i3 hq;exact⟨by have:=this.1;simp only[jAa];omega,by have:=this.2;simp only[jAa];omega⟩
   ·exact⟨jBa _,(fun t ht=>nomatch ht),fun _=>⟨by show line<=line+(c10:Int);omega,by show line+(c10:Int)<=_;omega⟩⟩
theorem qw1{s:Bs}(h:¬s.length<=2048):qbr s=([],0,5):=by
 unfold qbr;rw[jA8 (by omega)];rfl
theorem qHg{V:Tok->Bool}:∀{l:List Tok} {n:Int},qlg V n l=true-> ∀t∈l,V t=true
 | [],_,_,t,ht=>by cases ht
 |x::l,n,h,t,ht=>by
  simp only[qlg,jA1,jA6]at h;rcases jAc.1 ht with rfl|ht
  ·exact h.1
  ·exact qHg h.2.2 t ht
theorem all_cons{α:Type}{P:α->Prop}{a:α}{b:List α}(ha:P a)(hb:∀x∈b,P x):∀x∈a::b,P x:=by
 intro x hx;rcases jAc.1 hx with rfl|h
 ·exact ha
 ·exact hb x h
theorem zdW{n:Int}{s:Bs}(h:qaP ⟨1,n,s⟩=true):qdE s=true:=by
 unfold qaP at h;unfold qdE;simp only[jA1,jB7]at h ⊢;refine⟨h.1,h.2.1,?_⟩;have h3:=h.2.2;cases hl:(qbr s).1 with
 |nil=>rw[hl]at h3;cases h3
 |cons t l=>
  rw[hl]at h3;simpa using h3
section
variable {exS:List Tok->Rs} (hS:∀l e r,exS l= .ok e r->r <:+ l/\(wrB e).length+r.length<=l.length)
include hS
end
structure FitP (p:Pr):Prop where
 every:p.every<=9223372036854775807
 over:p.over<=9223372036854775807
 cr:∀t∈p.cr.tiers,t.from_<=9223372036854775807
 de:∀t∈p.de.tiers,t.from_<=9223372036854775807
def qBG(l:List Tok)(k:Nat):Int:=match l[min k (l.length-1)]? with
 |some t=>t.line
 |none=>0
noncomputable def qpe(exS:List Tok->Rs)(s:Bs):Option Pr×Int×Int:=bif (qbr s).2.2 != 0 then(none,(qbr s).2)else match qg8 exS qiQ (qbr s).1 with
 | .ok p _=>(some p,0,0)
 | .bad r e=>(none,qBG (qbr s).1 ((qbr s).1.length-r.length),e)
section
variable {exS:List Tok->Rs} (hE:∀(n:Int) (e:Ex) (rest:List Tok),qaJ e=0->stopL 0 rest->exS (exT n e++rest)= .ok e rest)
include hE
end
theorem qRm:∀(k:Nat) (s:Bs) (n:Int),s.length<=k->(rdT s n).2.2=0->(rdT s n).2.1=0:=by
 intro k
 induction k with
 |zero=>
  intro s n h _;have:s= []:=jAy.1 (by omega);subst this;rfl
 |succ k ih=>
  intro s n h h0;rw[qeB]at h0 ⊢;cases hx:s.drop (blk false s)with
  |nil=>rfl
  |cons c r=>
   rw[hx]at h0;have hlen:=congrArg List.length hx;rw[jB0,jA0]at hlen;simp only[stepT]at h0 ⊢;cases he:((qaw (c::r)).2.2 != 0)
   ·have he0:(qaw (c::r)).2.2=0:=by simpa using he
    have hp:=jCp.2 (qcp he0).1;have ih':=ih ((c::r).drop (qaw (c::r)).2.1.length) (n+((s.take (blk false s)).count 10:Nat)) (by simp only[jB0,jA0];omega);rw[he]at h0;simp only[jA9,qpa]at h0 ⊢;generalize rdT ((c::r).drop (qaw (c::r)).2.1.length) (n+((s.take (blk false s)).count 10:Nat))=q at h0 ih' ⊢;cases hz:(q.2.2 != 0)
    ·rw[hz]at h0;exact ih' h0
    ·rw[hz]at h0;exact ih' h0
   ·rw[he]at h0;simp only[jAa]at h0;rw[h0]at he;cases he
inductive PS where
 |good (l:List Tok)
 |bad (q:List Tok) (e k:Int)
def PS.Ok(T:List Tok):PS->Prop
 | .good l=>l <:+ T
 | .bad q e _=>e≠0/\q <:+ T
def Does{α β:Type}(T:List Tok)(z:List Tok->Pz α)(V:α->β->Prop)(s:PS)(v:β)(s':PS):Prop:=s'.Ok T/\match s with
 | .good l=>(match z l with
  | .ok a r=>V a v/\s'= .good r
  | .bad q e=>∃k,s'= .bad q e k)
 | .bad q e _=>∃k,s'= .bad q e k
def Stuck(s s':PS):Prop:=∀q e k,s= .bad q e k-> ∃k',s'= .bad q e k'
theorem Stuck.refl(s:PS):Stuck s s:=fun q e k h=>⟨k,h⟩
theorem Stuck.trans{s t u:PS}(h:Stuck s t)(g:Stuck t u):Stuck s u:=fun q e k hs=>by
 obtain⟨k',h'⟩:=h q e k hs;exact g q e k' h'
section
variable {α β γ δ:Type} {T:List Tok} {z:List Tok->Pz α} {V:α->β->Prop} {s s1 s2:PS} {v:β} {g:α->List Tok->Pz γ} {W:γ->δ->Prop} {w:δ}
theorem Does.ok(h:Does T z V s v s1):s1.Ok T:=h.1
theorem Does.stuck(h:Does T z V s v s1):Stuck s s1:=by
 rintro q e k rfl;exact h.2
theorem Does.bnd(h:Does T z V s v s1)(hk:Stuck s1 s2)(ho:s2.Ok T)(hg:∀a,V a v->Does T (g a) W s1 w s2):Does T (fun l=>(z l).bnd g) W s w s2:=by
 refine⟨ho,?_⟩;obtain⟨h1,h2⟩:=h;cases s with
 |bad q e k=>
  obtain⟨k1,rfl⟩:=h2;exact hk q e k1 rfl
 |good l=>
  simp only at h2 ⊢;cases hz:z l with
  |bad q e=>
   rw[hz]at h2;obtain⟨k1,rfl⟩:=h2;exact hk q e k1 rfl
  |ok a r=>
   rw[hz]at h2;obtain⟨hv,rfl⟩:=h2;exact(hg a hv).2
theorem Does.pure{b:γ}(h:s.Ok T)(hw:W b w):Does T (fun l=>.ok b l) W s w s:=by
 refine⟨h,?_⟩;cases s with
 |good l=>exact⟨hw,rfl⟩
 |bad q e k=>exact⟨k,rfl⟩
theorem Does.map(h:Does T z V s v s1){f:α->γ}(hw:∀a,V a v->W (f a) w):Does T (fun l=>(z l).bnd fun a r=>.ok (f a) r) W s w s1:=h.bnd (Stuck.refl _) h.1 fun a ha=>Does.pure h.1 (hw a ha)
theorem Does.congr{z':List Tok->Pz α}(h:Does T z V s v s1)(hz:∀l,s= .good l->z l=z' l):Does T z' V s v s1:=by
 refine⟨h.1,?_⟩;have h2:=h.2;cases s with
 |bad q e k=>exact h2
 |good l=>
  simp only at h2 ⊢;rw[<-hz l rfl];exact h2
theorem Does.good{l:List Tok}(ho:s1.Ok T)(h:match z l with
  | .ok a r=>V a v/\s1= .good r
  | .bad q e=>∃k,s1= .bad q e k):Does T z V (.good l) v s1:=⟨ho,h⟩
theorem Does.bad{q:List Tok}{e k:Int}(h:s.Ok T)(hs:s= .bad q e k):Does T z V s v s:=by
 subst hs;exact⟨h,k,rfl⟩
end
theorem q3H{a b:Bs}(h:a≠b)(l:List Tok):qfC 0 [a,b] l=(qfC 0 [b,a] l).bnd fun k r=>.ok (3-k) r:=by
 unfold qfC qfC qfC;cases h1:isW a l
 ·cases h2:isW b l<;>rfl
 ·have:isW b l=false:=qKJ h1 h;rw[this];rfl
theorem q3B:∀m∈marksS,qbT m=false:=by decide +kernel
theorem qNe{s:Bs}{k:Int}(h:qaw s=(k,s,0)):(k=5/\qbT s=true)\/(k=1/\qbT s=false)\/(k=2/\ ∃n,qjA s=some n)\/(k=3/\(qbh s).2=0)\/(k=4/\s∈marksS):=by
 cases s with
 |nil=>simp[qaw]at h
 |cons c r=>
  unfold qaw at h;simp only at h;cases h1:at8 qei c
  ·rw[h1,jA9]at h;cases h2:at8 qbe c
   ·rw[h2,jA9]at h;cases hf:marksS.find? (preB · (c::r))with
    |none=>rw[hf]at h;simp at h
    |some m=>
     rw[hf]at h;simp only[jAd]at h;obtain⟨rfl,hm,_⟩:=h;have:=jB4 hf;rw[hm]at this;exact .inr (.inr (.inr (.inr ⟨rfl,this⟩)))
   ·rw[h2,jAa]at h;unfold qyG at h;generalize hx:(c::r).takeWhile (at8 qcD)=x at h;cases hi:qgo x
    ·rw[hi,jA9]at h;cases hr:((qbh x).2==0)
     ·rw[hr,jA9]at h;cases hr1:((qbh x).2==1)<;>rw[hr1]at h<;>simp at h
     ·rw[hr,jAa]at h;simp only[jAd]at h;obtain⟨rfl,rfl,_⟩:=h;exact .inr (.inr (.inr (.inl ⟨rfl,by simpa using hr⟩)))
    ·rw[hi,jAa]at h;cases hn:nOk (Lib.parseIntB 64 x)
     ·rw[hn]at h;simp at h
     ·rw[hn]at h;simp only[jAa,jAd]at h;obtain⟨rfl,rfl,_⟩:=h;refine .inr (.inr (.inl ⟨rfl,qa1 0 (c::r),?_⟩));unfold qjA;rw[qx4 hi]at hn;rw[hi,hn];rfl
  ·rw[h1,jAa]at h;generalize hx:(c::r).takeWhile (at8 qch)=x at h;cases hw:qbT x
   ·rw[hw,jA9]at h;cases hl:decide (x.length>16)
    ·rw[hl]at h;simp only[jA9,jAd]at h;obtain⟨rfl,rfl,_⟩:=h;exact .inr (.inl ⟨rfl,hw⟩)
    ·rw[hl]at h;simp at h
   ·rw[hw]at h;simp only[jAa,jAd]at h;obtain⟨rfl,rfl,_⟩:=h;exact .inl ⟨rfl,hw⟩
theorem qyJ{t:Tok}(h:qaP t=true):(t.kind=5/\qbT t.text=true)\/(t.kind=1/\qbT t.text=false)\/(t.kind=2/\ ∃n,qjA t.text=some n)\/(t.kind=3/\(qbh t.text).2=0)\/(t.kind=4/\t.text∈marksS):=qNe (qd0 h).2.2
theorem zhH{t:Tok}(h:qaP t=true)(s:Bs):((t.kind==5||t.kind==4)&&t.text==s)=(t.text==s&&t.kind==qcu s):=by
 cases hs:(t.text==s)
 ·rw[Bool.and_false,Bool.false_and]
 ·rw[jBt,jBm];have hs':t.text=s:=by simpa using hs
  subst hs';unfold qcu;rcases qyJ h with⟨e,hw⟩|⟨e,hw⟩|⟨e,n,hn⟩|⟨e,hw⟩|⟨e,hm⟩
  ·rw[e,hw];rfl
  ·rw[e,hw];rfl
  ·rw[e];cases qbT t.text<;>rfl
  ·rw[e];cases qbT t.text<;>rfl
  ·rw[e,q3B _ hm];rfl
theorem q7Z{t:Tok}(h:qaP t=true)(hk:t.kind=2):∃n,qjA t.text=some n:=by
 rcases qyJ h with⟨e,_⟩|⟨e,_⟩|⟨_,hn⟩|⟨e,_⟩|⟨e,_⟩
 ·omega
 ·omega
 ·exact hn
 ·omega
 ·omega
theorem qKi{t:Tok}(h:qaP t=true)(hk:t.kind=3):(qbh t.text).2=0:=by
 rcases qyJ h with⟨e,_⟩|⟨e,_⟩|⟨e,_⟩|⟨_,hn⟩|⟨e,_⟩
 ·omega
 ·omega
 ·omega
 ·exact hn
 ·omega
theorem qRr{p:UInt8->Bool}(h:((List.range 256).all fun n=>p (UInt8.ofNat n))=true)(c:UInt8):p c=true:=by
 have:=jAb.1 h c.toNat (jBq.2 c.toNat_lt);simpa using this
def digsU:Bs:=[48,49,50,51,52,53,54,55,56,57,95]
theorem zaP(c:UInt8):(!at8 qch c||(decide (c.toNat<128)&&(digsU.contains c== !at8 qei c)))=true:=qRr (p:=fun c=>!at8 qch c||(decide (c.toNat<128)&&(digsU.contains c== !at8 qei c))) (by decide +kernel) c
theorem zqJ(c:UInt8):(!at8 qei c||(Lib.upperB c==c-32))=true:=qRr (p:=fun c=>!at8 qei c||(Lib.upperB c==c-32)) (by decide +kernel) c
theorem qJV{c:UInt8}(h:at8 qch c=true):c.toNat<128/\digsU.contains c= !at8 qei c:=by
 have:=zaP c;rw[h]at this;simpa using this
theorem qJW{s:Bs}(h:qdE s=true):s.all (at8 qch)=true:=by
 rw[qoK,jA1]at h;have h1:=h.1;unfold qyC at h1;cases s with
 |nil=>rfl
 |cons c r=>
  simp only[jA1]at h1;exact h1.2.2
theorem q3E{s:Bs}(h:qdE s=true):qCX s=true:=by
 have:=jAb.1 (qJW h);unfold qCX;refine jAb.2 fun c hc=>?_
 exact jA8 (qJV (this c hc)).1
theorem any_cons(b:UInt8)(l L:Bs):Lib.containsAny (b::l) L=(L.contains b||Lib.containsAny l L):=by
 have hge:=Lib.indexAny_ge L l;have e:Lib.indexAny (b::l) L=if L.contains b then 0 else if Lib.indexAny l L== -1 then -1 else Lib.indexAny l L+1:=rfl
 unfold Lib.containsAny;rw[jC7,jAv,jA6,jA6,e];by_cases hb:L.contains b=true
 ·rw[jAr hb];exact⟨fun _=>.inl hb,fun _=>by omega⟩
 ·rw[jAm hb];by_cases hi:(Lib.indexAny l L== -1)=true
  ·rw[jAr hi];have:Lib.indexAny l L= -1:=by simpa using hi
   exact⟨fun h=>by omega,fun h=>h.elim (fun h=>absurd h hb) fun h=>by omega⟩
  ·rw[jAm hi];have:Lib.indexAny l L≠ -1:=by simpa using hi
   exact⟨fun _=>.inr (by omega),fun h=>h.elim (fun h=>absurd h hb) fun h=>by omega⟩
theorem qG8:∀{s:Bs},s.all (at8 qch)=true->Lib.containsAny s digsU= !s.all (at8 qei)
 | [],_=>rfl
 |c::s,h=>by
  simp only[jAw,jA1]at h;rw[any_cons,qG8 h.2,(qJV h.1).2,jAw,Bool.not_and]
theorem q9R:∀{s:Bs},s.all (at8 qei)=true->Lib.toUpperA s=s.map fun c=>c-32
 | [],_=>rfl
 |c::s,h=>by
  simp only[jAw,jA1]at h;have h1:=zqJ c;rw[h.1]at h1;have h2:=q9R h.2;unfold Lib.toUpperA at h2 ⊢;rw[jAs,jAs,h2]
  congr 1
  simpa using h1
theorem qHe{s:Bs}(h:qdE s=true)(hl:s.length=3):qvr s=if Lib.containsAny s digsU=true then none else some (Lib.toUpperA s):=by
 rw[qG8 (qJW h)];unfold qvr;have e:(s.all (at8 fun c=>decide (c>=97)&&decide (c<=122)))=s.all (at8 qei):=rfl;rw[e];cases ha:s.all (at8 qei)
 ·simp
 ·simp[hl,q9R ha]
end Go.Tk
namespace Go.Proofs.H16
open Go Go.Eng Go.Tk
set_option maxRecDepth 20000
abbrev StP:=List AV×Int×Int×Int
def stP(T:List Tok):PS->StP
 | .good l=>(ET T,pos T l,0,0)
 | .bad q e k=>(ET T,k,e,qBG T (T.length-q.length))
section
variable {T:List Tok}
theorem zm7{t:Tok}{l:List Tok}(h:t::l <:+ T):decide (pos T (t::l)<((ET T).length:Int))=true:=by rw[jA5];exact qUI h
theorem qJP:decide (pos T []<((ET T).length:Int))=false:=jAe (by rw[qjD,jA5];omega)
theorem qAL{e:Int}(he:e≠0):(e==0)=false:=by simpa using he
theorem ql9{e:Int}(he:e≠0):(e != 0)=true:=by simpa using he
def isK(k:Int):PS->Bool
 | .good (t::_)=>t.kind==k
 |_=>false
theorem q73(k:Int){p:PS}(hp:p.Ok T):qsy k (stP T p).1 (stP T p).2.1 (stP T p).2.2.1 (stP T p).2.2.2=some (isK k p,stP T p):=by
 rw[qSM,qAh];cases p with
 |bad q e a=>exact(brF (qAL hp.1)).trans rfl
 |good l=>
  refine(brT rfl).trans ?_;cases l with
  |nil=>exact(brF qJP).trans rfl
  |cons t l=>
   refine(brT (zm7 hp)).trans ((brT (qyI hp)).trans ?_);show some (intOf (cellAt (ET T) (pos T (t::l)) 0)==k,_)=_;rw[kindP hp];rfl
def ql1(s:Bs):PS->Bool
 | .good l=>isW s l
 |_=>false
def q7d(s:Bs):PS->PS
 | .good l=>.good (bif isW s l then l.tail else l)
 |p=>p
theorem qRo{s:Bs}{p:PS}(hp:p.Ok T):(q7d s p).Ok T:=by
 cases p with
 |bad q e a=>exact hp
 |good l=>
  show(bif isW s l then l.tail else l) <:+ T;cases isW s l
  ·exact hp
  ·exact qaI hp
theorem qxr{s:Bs}{p:PS}(h:ql1 s p=false):q7d s p=p:=by
 cases p with
 |bad q e a=>rfl
 |good l=>
  have:isW s l=false:=h;show PS.good _=_;rw[this];rfl
theorem qfw(hT:T.length<=1000000)(hv:∀t∈T,qaP t=true)(s:Bs){p:PS}(hp:p.Ok T):qao s (stP T p).1 (stP T p).2.1 (stP T p).2.2.1 (stP T p).2.2.2=some (ql1 s p,stP T (q7d s p)):=by
 rw[qSw,qz2];refine(biS (q73 5 hp)).trans ?_;cases p with
 |bad q e a=>exact(brT rfl).trans ((biS (q73 4 hp)).trans ((brT rfl).trans rfl))
 |good l=>
  cases l with
  |nil=>exact(brT rfl).trans ((biS (q73 4 hp)).trans ((brT rfl).trans rfl))
  |cons t l=>
   have ha:=zhH (hv t (hp.subset (by simp))) s;have hi:isW s (t::l)=(t.text==s&&t.kind==qcu s):=rfl;rw[<-ha]at hi;have fin:∀h:(t.kind==5||t.kind==4)=true,(DT.br (qaG [CS.int IntKind.i64,CS.int IntKind.i64,CS.str] (ET T) (pos T (t::l))) (.br (!strOf (cellAt (ET T) (pos T (t::l)) 2)==s)
     (.at ((false,ET T,pos T (t::l),0,0):qPK)) (.at (true,ET T,IntKind.i64.wrap (pos T (t::l)+1),0,0))) .no).ev=some (ql1 s (.good (t::l)),stP T (q7d s (.good (t::l)))):=by
    intro h;refine(brT (qyI hp)).trans ?_;rw[quJ hp];show _=some (isW s (t::l),stP T (.good (bif isW s (t::l)then(t::l).tail else t::l)));rw[hi,h,jBm];cases ht:(t.text==s)
    ·exact(brT rfl).trans rfl
    ·refine(brF rfl).trans ?_;show some (true,ET T,IntKind.i64.wrap (pos T (t::l)+1),0,0)=_;rw[qbL hp hT];rfl
   cases h5:(t.kind==5)
   ·refine(brT (by show(!(t.kind==5))=true;rw[h5];rfl)).trans ((biS (q73 4 hp)).trans ?_);cases h4:(t.kind==4)
    ·refine(brT (by show(!(t.kind==4))=true;rw[h4];rfl)).trans ?_;show _=some (isW s (t::l),stP T (.good (bif isW s (t::l)then(t::l).tail else t::l)));rw[hi,h5,h4];rfl
    ·exact(brF (by show(!(t.kind==4))=false;rw[h4];rfl)).trans (fin (by rw[h5,h4];rfl))
   ·exact(brF (by show(!(t.kind==5))=false;rw[h5];rfl)).trans (fin (by rw[h5];rfl))
def zdm(q:List Tok)(e:Int):PS->PS
 | .good l=>.bad q e (pos T l)
 |p=>p
theorem qs8{k:Nat}(h:0<T.length):intOf (cellAt (ET T) ((min k (T.length-1):Nat):Int) 1)=qBG T k:=by
 have hlt:min k (T.length-1)<T.length:=by omega
 rw[qt1 hlt];unfold qBG;rw[jAh hlt]
theorem qBX(hT:T.length<=1000000)(e:Int){q:List Tok}(hq:q <:+ T){p:PS}(hp:p.Ok T):qcf e (pos T q) (stP T p).1 (stP T p).2.1 (stP T p).2.2.1 (stP T p).2.2.2=some (stP T (zdm (T:=T) q e p)):=by
 rw[qBb,quR];cases p with
 |bad q e a=>exact(brT (ql9 hp.1)).trans rfl
 |good l=>
  refine(brF rfl).trans ?_;show(DT.br (decide (((ET T).length:Int)>0)) _ _).ev=_;by_cases h0:0<T.length
  ·have hw:IntKind.i64.wrap (((ET T).length:Int)-1)=((T.length-1:Nat):Int):=by
    rw[jA5,wrap64 (by omega) (by omega)];omega
   have hmin:(if IntKind.i64.wrap (((ET T).length:Int)-1)<pos T q then IntKind.i64.wrap (((ET T).length:Int)-1)else pos T q)=((min (T.length-q.length) (T.length-1):Nat):Int):=by
    rw[hw];unfold pos;split<;>omega
   refine(brT (jA8 (by rw[jA5];omega))).trans ?_;show(DT.br (qaG [CS.int IntKind.i64,CS.int IntKind.i64,CS.str] (ET T) (if IntKind.i64.wrap (((ET T).length:Int)-1)<pos T q then IntKind.i64.wrap (((ET T).length:Int)-1)else pos T q)) (.at ((ET T,pos T l,e,intOf (cellAt (ET T) (if IntKind.i64.wrap (((ET T).length:Int)-1)<pos T q then IntKind.i64.wrap (((ET T).length:Int)-1)else pos T q) 1)):qPR)) .no).ev=_;rw[hmin];refine(brT (okT (by omega))).trans ?_;rw[qs8 h0];rfl
  ·refine(brF (jAe (by rw[jA5];omega))).trans ?_;have hn:T= []:=jAy.1 (by omega);subst hn;rfl
theorem qtn(e k:Int){p:PS}(hp:p.Ok T)(hb:∀l,p≠ .good l):qcf e k (stP T p).1 (stP T p).2.1 (stP T p).2.2.1 (stP T p).2.2.2=some (stP T p):=by
 rw[qBb,quR];cases p with
 |bad q e a=>exact(brT (ql9 hp.1)).trans rfl
 |good l=>exact absurd rfl (hb l)
def qFl(e:Int):PS->PS
 | .good l=>.bad l e (pos T l)
 |p=>p
theorem qJ7(hT:T.length<=1000000)(e:Int){p:PS}(hp:p.Ok T):qcf e (stP T p).2.1 (stP T p).1 (stP T p).2.1 (stP T p).2.2.1 (stP T p).2.2.2=some (stP T (qFl (T:=T) e p)):=by
 cases p with
 |bad q e' a=>exact qtn e a hp (fun l h=>nomatch h)
 |good l=>exact qBX hT e hp hp
theorem qpq{e:Int}{p:PS}(hp:p.Ok T)(he:e≠0):(qFl (T:=T) e p).Ok T:=by
 cases p with
 |bad q e a=>exact hp
 |good l=>exact⟨he,hp⟩
def qph(s:Bs)(p:PS):PS:=bif ql1 s p then q7d s p else qFl (T:=T) 2 p
theorem qd8{s:Bs}{p:PS}(hp:p.Ok T):(qph (T:=T) s p).Ok T:=by
 unfold qph;cases ql1 s p
 ·exact qpq hp (by decide)
 ·exact qRo hp
def qNM:List Bs->PS->PS
 | [],p=>p
 |s::ss,p=>qNM ss (qph (T:=T) s p)
theorem qoL(s:Bs)(l:List Tok):qph (T:=T) s (.good l)=bif isW s l then .good l.tail else .bad l 2 (pos T l):=by
 have e:qph (T:=T) s (.good l)=bif isW s l then .good (bif isW s l then l.tail else l)else .bad l 2 (pos T l):=rfl
 rw[e];cases isW s l<;>rfl
theorem qnb(s:Bs){p:PS}(hp:p.Ok T):Does T (qcJ s) (fun _ (_:Unit)=>True) p () (qph (T:=T) s p):=by
 refine⟨qd8 hp,?_⟩;cases p with
 |bad q e a=>exact⟨a,rfl⟩
 |good l=>
  dsimp only;rw[qoL];unfold qcJ;cases hi:isW s l
  ·exact⟨_,rfl⟩
  ·exact⟨trivial,rfl⟩
theorem qdh:∀(ss:List Bs) {p:PS},p.Ok T->Does T (qct ss) (fun _ (_:Unit)=>True) p () (qNM (T:=T) ss p)
 | [],p,hp=>Does.pure hp trivial
 |s::ss,p,hp=>by
  have h1:=qnb s hp;have h2:=qdh ss h1.ok;exact h1.bnd h2.stuck h2.ok fun _ _=>h2
theorem zjH(hT:T.length<=1000000)(hv:∀t∈T,qaP t=true){ss:List Bs}(hs:ss.length<=big):∀(k n:Nat) (p:PS),n+k=ss.length->p.Ok T->qae (fun v=>(qun v).ev) (ES ss,(ss.length:Int),(n:Int),stP T p)=some (0,ES ss,(ss.length:Int),(ss.length:Int),stP T (qNM (T:=T) (ss.drop n) p)):=by
 intro k
 induction k with
 |zero=>
  intro n p hn hp;have e:n=ss.length:=by omega
  subst e;rw[jC0];refine qaf ?_;show(qjU (ES ss) (ss.length:Int) (ss.length:Int) _ _ _ _).ev=_;rw[qjU];exact(brF (by simp)).trans rfl
 |succ k ih=>
  intro n p hn hp;have h:n<ss.length:=by omega
  have e:ss.drop n=ss[n]::ss.drop (n+1):=(jC8 h).symm;rw[qaq (v':=(ES ss,(ss.length:Int),((n+1:Nat):Int),stP T (qph (T:=T) ss[n] p))) ?_]
  ·rw[ih (n+1) _ (by omega) (qd8 hp),e];rfl
  ·show(qjU (ES ss) (ss.length:Int) (n:Int) (stP T p).1 (stP T p).2.1 (stP T p).2.2.1 (stP T p).2.2.2).ev=_;rw[qjU];refine(brT (qa0 h)).trans ((brT (qC0 h)).trans ?_);rw[qs0 h];refine(biS (qfw hT hv _ hp)).trans ?_;unfold qph;rw[<-qat h hs];cases ha:ql1 ss[n] p
   ·refine(brT (by show(!false)=true;rfl)).trans ?_;rw[qxr ha];exact(biS (qJ7 hT 2 hp)).trans rfl
   ·exact(brF (by show(!true)=false;rfl)).trans rfl
theorem qXf(hT:T.length<=1000000)(hv:∀t∈T,qaP t=true){ss:List Bs}(hs:ss.length<=big){p:PS}(hp:p.Ok T):qaT (ES ss) (stP T p).1 (stP T p).2.1 (stP T p).2.2.1 (stP T p).2.2.2=some (stP T (qNM (T:=T) ss p)):=by
 rw[qSF,qAa,qBu,jA5];have h:=zjH hT hv hs ss.length 0 p (by omega) hp;rw[List.drop_zero]at h;refine(biS (v:=(ES ss,(ss.length:Int),(ss.length:Int),stP T (qNM (T:=T) ss p))) ?_).trans rfl;show pj 0 (qae (fun v=>(qun v).ev) (ES ss,(ss.length:Int),((0:Nat):Int),stP T p))=_;rw[h];rfl
theorem qdA(hT:T.length<=1000000)(hv:∀t∈T,qaP t=true)(s:Bs){p:PS}(hp:p.Ok T):∃p',qaT [AV.str s] (stP T p).1 (stP T p).2.1 (stP T p).2.2.1 (stP T p).2.2.2=some (stP T p')/\Does T (qcJ s) (fun _ (_:Unit)=>True) p () p':=
 ⟨qph (T:=T) s p,qXf hT hv (ss:=[s]) (by simp[big]) hp,qnb s hp⟩
theorem qwC(hT:T.length<=1000000)(hv:∀t∈T,qaP t=true){ss:List Bs}(hs:ss.length<=big){p:PS}(hp:p.Ok T):∃p',qaT (ES ss) (stP T p).1 (stP T p).2.1 (stP T p).2.2.1 (stP T p).2.2.2=some (stP T p')/\Does T (qct ss) (fun _ (_:Unit)=>True) p () p':=
 ⟨qNM (T:=T) ss p,qXf hT hv hs hp,qdh ss hp⟩
theorem qto(hT:T.length<=1000000)(hv:∀t∈T,qaP t=true)(k:Int){p:PS}(hp:p.Ok T):∃v p',qfV k (stP T p).1 (stP T p).2.1 (stP T p).2.2.1 (stP T p).2.2.2=some (v,stP T p')/\Does T (qcO k) Eq p v p'/\(v= []\/qaP ⟨k,0,v⟩=true):=by
 rw[qSE,qz9];have no:∀{p:PS},p.Ok T->(∀l,p= .good l->qcO k l= .bad l 2)-> ∃v p',(DT.bi (qcf 2 (stP T p).2.1 (stP T p).1 (stP T p).2.1 (stP T p).2.2.1 (stP T p).2.2.2) (fun y1=>DT.at (([],y1.fst,y1.snd.fst,y1.snd.snd.fst,y1.snd.snd.snd):qPS)) .no).ev=some (v,stP T p')/\Does T (qcO k) Eq p v p'/\(v= []\/qaP ⟨k,0,v⟩=true):=by
  intro p hp hz;refine⟨[],qFl (T:=T) 2 p,(biS (qJ7 hT 2 hp)).trans rfl,⟨qpq hp (by decide),?_⟩,.inl rfl⟩;cases p with
  |bad q e a=>exact⟨a,rfl⟩
  |good l=>
   dsimp only;rw[hz l rfl];exact⟨_,rfl⟩
 cases p with
 |bad q e a=>
  obtain⟨v,p',h1,h2⟩:=no (p:=.bad q e a) hp (fun l h=>nomatch h);exact⟨v,p',(biS (q73 k hp)).trans ((brT rfl).trans h1),h2⟩
 |good l=>
  cases l with
  |nil=>
   obtain⟨v,p',h1,h2⟩:=no (p:=.good []) hp (fun l h=>by cases h;rfl);exact⟨v,p',(biS (q73 k hp)).trans ((brT rfl).trans h1),h2⟩
  |cons t l=>
   cases hk:(t.kind==k)
   ·obtain⟨v,p',h1,h2⟩:=no (p:=.good (t::l)) hp (fun l h=>by cases h;simp only[qcO,hk];rfl);exact⟨v,p',(biS (q73 k hp)).trans ((brT (by show(!(t.kind==k))=true;rw[hk];rfl)).trans h1),h2⟩
   ·have e:IntKind.i64.wrap (IntKind.i64.wrap (pos T (t::l)+1)-1)=pos T (t::l):=by rw[qbL hp hT,qKc hp hT]
    refine⟨t.text,.good l,(biS (q73 k hp)).trans ((brF (by show(!(t.kind==k))=false;rw[hk];rfl)).trans ((brT (by show qaG _ (ET T) (IntKind.i64.wrap (IntKind.i64.wrap (pos T (t::l)+1)-1))=true;rw[e];exact qyI hp)).trans ?_)),⟨qaI hp,?_⟩,.inr ?_⟩
    ·show some (strOf (cellAt (ET T) (IntKind.i64.wrap (IntKind.i64.wrap (pos T (t::l)+1)-1)) 2),ET T,IntKind.i64.wrap (pos T (t::l)+1),0,0)=_;rw[e,quJ hp,qbL hp hT];rfl
    ·dsimp only;simp[qcO,hk]
    ·have hk':t.kind=k:=by simpa using hk
     have:=hv t (hp.subset (by simp));rw[<-hk'];exact this
theorem qwp{k:Int}{v:Bs}(h:v= []\/qaP ⟨k,0,v⟩=true):v.length<=2048:=by
 rcases h with rfl|h
 ·simp
 ·exact(qd0 h).1
theorem qkj(hT:T.length<=1000000)(hv:∀t∈T,qaP t=true){p:PS}(hp:p.Ok T):∃v p',qiS (stP T p).1 (stP T p).2.1 (stP T p).2.2.1 (stP T p).2.2.2=some (v,stP T p')/\Does T qpc Eq p v p':=by
 obtain⟨s,p',h1,h2,h3⟩:=qto hT hv 2 hp;have hl:=qwp h3;have hp':pOk s=true:=by simp only[pOk,jA6];omega
 have key:∃v,(DT.br (pOk s&&nOk (Lib.atoiAll s)) (.at ((qNU (Lib.atoiAll s),stP T p'):qPM)) (.br (pOk s&&qhw (Lib.atoiAll s)) (.at (Lib.atoiSat s,stP T p')) (.br (pOk s&&qc7 (Lib.atoiAll s)) (.at (0,stP T p')) .no))).ev=some (v,stP T p')/\ ∀n,qjA s=some n->v=n:=by
  rw[hp'];simp only[jBm];cases ha:Lib.atoiAll s with
  |ok v=>exact⟨v,(brT rfl).trans rfl,fun n hn=>by have:=(qmu hn).1;rw[ha]at this;cases this;rfl⟩
  |range=>exact⟨_,(brF rfl).trans ((brT rfl).trans rfl),fun n hn=>by have:=(qmu hn).1;rw[ha]at this;cases this⟩
  |_=>exact⟨_,(brF rfl).trans ((brF rfl).trans ((brT rfl).trans rfl)),fun n hn=>by have:=(qmu hn).1;rw[ha]at this;cases this⟩
 obtain⟨v,k1,k2⟩:=key;refine⟨v,p',?_,h2.ok,?_⟩
 ·rw[qSy,qz4];exact(biS h1).trans k1
 ·have h4:=h2.2;cases p with
  |bad q e a=>exact h4
  |good l=>
   cases l with
   |nil=>exact h4
   |cons t l=>
    have hn:qpc (t::l)=match (bif t.kind==2 then qjA t.text else none)with|some n=>.ok n l|none=>.bad (t::l) 2:=rfl
    dsimp only;rw[hn];have h5:=h4;dsimp only at h5;simp only[qcO]at h5;cases hk:(t.kind==2)
    ·rw[hk]at h5;exact h5
    ·rw[hk]at h5;obtain⟨e1,e2⟩:=h5;obtain⟨n,hn⟩:=q7Z (hv t (hp.subset (by simp))) (by simpa using hk);simp only[jAa,hn];exact⟨(k2 n (by rw[<-e1];exact hn)).symm,e2⟩
theorem q74(hT:T.length<=1000000)(hv:∀t∈T,qaP t=true){p:PS}(hp:p.Ok T):∃v p',qoU (stP T p).1 (stP T p).2.1 (stP T p).2.2.1 (stP T p).2.2.2=some (v,stP T p')/\Does T qkT Eq p v p':=by
 obtain⟨s,p',h1,h2,h3⟩:=qto hT hv 3 hp;have hl:=qwp h3;refine⟨(qbh s).1,p',?_,h2.ok,?_⟩
 ·rw[qSD,qz8];exact(biS h1).trans ((biS (qlx (by simp only[big];omega))).trans rfl)
 ·have h4:=h2.2;cases p with
  |bad q e a=>exact h4
  |good l=>
   cases l with
   |nil=>exact h4
   |cons t l=>
    dsimp only;have h5:=h4;dsimp only at h5;simp only[qcO]at h5;simp only[qkT];cases hk:(t.kind==3)
    ·rw[hk]at h5;exact h5
    ·rw[hk]at h5;obtain⟨e1,e2⟩:=h5;have hr:=qKi (hv t (hp.subset (by simp))) (by simpa using hk);have hr':((qbh t.text).2==0)=true:=by rw[hr];rfl
     rw[hr',jBt,jAa];exact⟨by rw[<-e1],e2⟩
theorem q3m(hT:T.length<=1000000)(hv:∀t∈T,qaP t=true){ws:List Bs}(hs:ws.length<=big){p:PS}(hp:p.Ok T):∀(k n:Nat),n+k=ws.length ->
  (∃j,∃h:j<ws.length,n<=j/\ql1 ws[j] p=true/\qae (fun v=>(qlU v).ev) (ES ws,(ws.length:Int),(n:Int),stP T p)=some (0,ES ws,(ws.length:Int),(j:Int),stP T p)/\ ∀l,p= .good l->qfC n (ws.drop n) l= .ok ((j+1:Nat):Int) l.tail) \/
  (qae (fun v=>(qlU v).ev) (ES ws,(ws.length:Int),(n:Int),stP T p)=some (1,ES ws,(ws.length:Int),(ws.length:Int),stP T p)/\ ∀l,p= .good l->qfC n (ws.drop n) l= .bad l 2):=by
 intro k
 induction k with
 |zero=>
  intro n hn;have e:n=ws.length:=by omega
  subst e;refine .inr ⟨qaf ?_,fun l _=>by rw[jC0];rfl⟩;show(qgl (ES ws) (ws.length:Int) (ws.length:Int) _ _ _ _).ev=_;rw[qgl];exact(brF (by simp)).trans rfl
 |succ k ih=>
  intro n hn;have h:n<ws.length:=by omega
  have e:ws.drop n=ws[n]::ws.drop (n+1):=(jC8 h).symm;cases ha:ql1 ws[n] p
  ·have hst:(fun v=>(qlU v).ev) (ES ws,(ws.length:Int),(n:Int),stP T p)=some (.next (ES ws,(ws.length:Int),((n+1:Nat):Int),stP T p)):=by
    show(qgl (ES ws) (ws.length:Int) (n:Int) (stP T p).1 (stP T p).2.1 (stP T p).2.2.1 (stP T p).2.2.2).ev=_;rw[qgl];refine(brT (qa0 h)).trans ((brT (qC0 h)).trans ?_);rw[qs0 h];refine(biS (qfw hT hv _ hp)).trans ?_;rw[<-qat h hs];refine(brF ha).trans ?_;rw[qxr ha];rfl
   rw[qaq hst];have hz:∀l,p= .good l->qfC n (ws.drop n) l=qfC (n+1) (ws.drop (n+1)) l:=by
    rintro l rfl;rw[e];have:isW ws[n] l=false:=ha;simp only[qfC,this,jA9]
   rcases ih (n+1) (by omega)with⟨j,hj,h1,h2,h3,h4⟩|⟨h3,h4⟩
   ·exact .inl ⟨j,hj,by omega,h2,h3,fun l hl=>(hz l hl).trans (h4 l hl)⟩
   ·exact .inr ⟨h3,fun l hl=>(hz l hl).trans (h4 l hl)⟩
  ·refine .inl ⟨n,h,jAj n,ha,qaf ?_,?_⟩
   ·show(qgl (ES ws) (ws.length:Int) (n:Int) (stP T p).1 (stP T p).2.1 (stP T p).2.2.1 (stP T p).2.2.2).ev=_;rw[qgl];refine(brT (qa0 h)).trans ((brT (qC0 h)).trans ?_);rw[qs0 h];exact(biS (qfw hT hv _ hp)).trans ((brT ha).trans rfl)
   ·rintro l rfl;rw[e];have:isW ws[n] l=true:=ha;simp only[qfC,this,jAa]
theorem qki(hT:T.length<=1000000)(hv:∀t∈T,qaP t=true){ws:List Bs}(hs:ws.length<=1000){p:PS}(hp:p.Ok T):∃v p',qgC (ES ws) (stP T p).1 (stP T p).2.1 (stP T p).2.2.1 (stP T p).2.2.2=some (v,stP T p')/\Does T (qfC 0 ws) Eq p v p':=by
 rw[qSx,qz3,qBr,jA5];rcases q3m hT hv (ws:=ws) (by simp only[big];omega) hp ws.length 0 (by omega)with⟨j,hj,_,h2,h3,h4⟩|⟨h3,h4⟩
 ·refine⟨((j+1:Nat):Int),q7d ws[j] p,?_,qRo hp,?_⟩
  ·refine(biS (v:=(ES ws,(ws.length:Int),(j:Int),stP T p)) ?_).trans ?_
   ·show pj 0 (qae _ (ES ws,(ws.length:Int),((0:Nat):Int),stP T p))=_;rw[h3];rfl
   ·have hacc:=qfw hT hv ws[j] hp;have hq:=qs0 hj;show some (IntKind.i64.wrap ((j:Int)+1),(gv (qao (strOf (cellAt (ES ws) (j:Int) 0)) (stP T p).1 (stP T p).2.1 (stP T p).2.2.1 (stP T p).2.2.2)).snd)=_;rw[hq,hacc,qat hj (by simp only[big];omega)];rfl
  ·cases p with
   |bad q e a=>cases h2
   |good l=>
    have hi:isW ws[j] l=true:=h2;have hz:=h4 l rfl;dsimp only;rw[show qfC 0 ws l=_ from hz];refine⟨rfl,?_⟩;show PS.good (bif isW ws[j] l then l.tail else l)=_;rw[hi];rfl
 ·refine⟨0,qFl (T:=T) 2 p,?_,qpq hp (by decide),?_⟩
  ·have e3:qae (fun v=>(qlU v).ev) (ES ws,(ws.length:Int),0,stP T p)=some (1,ES ws,(ws.length:Int),(ws.length:Int),stP T p):=h3;refine(biN ?_).trans ((biS (v:=(ES ws,(ws.length:Int),(ws.length:Int),stP T p)) ?_).trans ((biS (qJ7 hT 2 hp)).trans rfl))
   ·show pj 0 (qae _ (ES ws,(ws.length:Int),0,stP T p))=_;rw[e3];rfl
   ·show pj 1 (qae _ (ES ws,(ws.length:Int),0,stP T p))=_;rw[e3];rfl
  ·cases p with
   |bad q e a=>exact⟨a,rfl⟩
   |good l=>
    have hz:=h4 l rfl;dsimp only;rw[show qfC 0 ws l=_ from hz];exact⟨_,rfl⟩
end
end Go.Proofs.H16
namespace Go.Tk
open Go Go.Eng
theorem q0e(l:List Tok):l.tail.length<=l.length:=by simp
theorem qdC{s:Bs}{l r:List Tok}{u:Unit}(h:qcJ s l= .ok u r):r.length<=l.length:=by
 unfold qcJ at h;cases hw:isW s l
 ·rw[hw]at h;cases h
 ·rw[hw]at h;cases h;exact q0e l
theorem qiK:∀{ss:List Bs} {l r:List Tok} {u:Unit},qct ss l= .ok u r->r.length<=l.length
 | [],l,r,u,h=>by cases h;exact jAj _
 |s::ss,l,r,u,h=>by
  obtain⟨_,r1,h1,h⟩:=qah h;exact jAz (qiK h) (qdC h1)
theorem quK{k:Int}{l r:List Tok}{s:Bs}(h:qcO k l= .ok s r):r.length<=l.length:=by
 cases l with
 |nil=>cases h
 |cons t l=>
  simp only[qcO]at h;cases hk:(t.kind==k)
  ·rw[hk]at h;cases h
  ·rw[hk]at h;cases h;exact Nat.le_succ _
theorem qwx{l r:List Tok}{v:Int}(h:qpc l= .ok v r):r.length<=l.length:=by
 unfold qpc at h;cases hn:numAt l with
 |none=>rw[hn]at h;cases h
 |some n=>rw[hn]at h;cases h;exact q0e l
theorem qZz{l r:List Tok}{v:Int}(h:qkT l= .ok v r):r.length<=l.length:=by
 cases l with
 |nil=>cases h
 |cons t l=>
  simp only[qkT]at h;cases hk:(t.kind==3&&(qbh t.text).2==0)
  ·rw[hk]at h;cases h
  ·rw[hk]at h;cases h;exact Nat.le_succ _
theorem qti:∀{ws:List Bs} {i:Nat} {l r:List Tok} {k:Int},qfC i ws l= .ok k r->r.length<=l.length
 | [],i,l,r,k,h=>by cases h
 |w::ws,i,l,r,k,h=>by
  simp only[qfC]at h;cases hw:isW w l
  ·rw[hw]at h;exact qti h
  ·rw[hw]at h;cases h;exact q0e l
theorem qzo{l r:List Tok}{t:Tr}(h:qi2 l= .ok t r):r.length<=l.length:=by
 unfold qi2 at h;obtain⟨a,r1,g1,h⟩:=qah h;obtain⟨_,r2,g2,h⟩:=qah h;obtain⟨p,r3,g3,h⟩:=qah h;obtain⟨_,r4,g4,h⟩:=qah h;cases h;have:=qwx g1;have:=qdC g2;have:=qZz g3;have:=qdC g4;omega
theorem qKv:∀{n:Nat} {acc ts:List Tr} {l r:List Tok},qcs n acc l= .ok ts r->r.length<=l.length/\ts.length<=acc.length+n
 |0,_,_,_,_,h=>by cases h
 |n+1,acc,ts,l,r,h=>by
  simp only[qcs]at h;cases hw:isW [36] l
  ·rw[hw]at h;cases h;exact⟨jAj _,Nat.le_add_right ..⟩
  ·rw[hw]at h;obtain⟨t,r',h1,h⟩:=qah h;have:=qzo h1;have:=q0e l;obtain⟨i1,i2⟩:=qKv h;rw[jA2]at i2;simp only[jA0,jA4]at i2;exact⟨by omega,by omega⟩
theorem qFW{α:Type}{w:Bs}{f:List Tok->Pz α}{ok:α->Prop}(hf:∀l x r,f l= .ok x r->r.length<=l.length/\ok x):∀{n:Nat} {acc xs:List α} {l r:List Tok},qdi w f n acc l= .ok xs r->r.length<=l.length/\xs.length<=acc.length+n/\((∀x∈acc,ok x)-> ∀x∈xs,ok x)
 |0,_,_,_,_,h=>by cases h
 |n+1,acc,xs,l,r,h=>by
  simp only[qdi]at h;cases hw:isW w l
  ·rw[hw]at h;cases h;exact⟨jAj _,Nat.le_add_right ..,id⟩
  ·rw[hw]at h;obtain⟨t,r',h1,h⟩:=qah h;obtain⟨f1,f2⟩:=hf _ _ _ h1;have:=q0e l;obtain⟨i1,i2,i3⟩:=qFW hf h;rw[jA2]at i2;simp only[jA0,jA4]at i2;refine⟨by omega,by omega,fun ha=>i3 fun x hx=>?_⟩;rcases jAo.1 hx with hx|hx
   ·exact ha x hx
   ·rw[jAt]at hx;rw[hx];exact f2
theorem q7M{w:Bs}{l r:List Tok}{x:In}(h:qCZ w l= .ok x r):r.length<=l.length/\x.tiers.length<=l.length+1:=by
 unfold qCZ at h;obtain⟨_,r1,h1,h⟩:=qah h;obtain⟨k,r2,h2,h⟩:=qah h;obtain⟨b,r3,h3,h⟩:=qah h;obtain⟨m,r4,h4,h⟩:=qah h;obtain⟨q,r5,h5,h⟩:=qah h;obtain⟨_,r6,h6,h⟩:=qah h;obtain⟨ts,r7,h7,h⟩:=qah h;obtain⟨_,r8,h8,h⟩:=qah h;cases h;have:=qdC h1;have:=qti h2;have:=qti h3;have:=qti h4;have:=qti h5;have:=qdC h6;obtain⟨t1,t2⟩:=qKv h7;have:=qdC h8;rw[jA4]at t2;exact⟨by omega,by show ts.length<=_;omega⟩
section
variable {exS:List Tok->Rs} (hS:∀l e r,exS l= .ok e r->r.length<=l.length)
include hS
theorem qSi{l r:List Tok}{e:Ex}(h:qA4 exS l= .ok e r):r.length<=l.length:=by
 unfold qA4 at h;cases hx:exS l with
 |bad r=>rw[hx]at h;cases h
 |ok f r'=>
  rw[hx]at h;have:=hS _ _ _ hx;cases hv:(qaJ f==0)
  ·simp only[hv]at h;cases h
  ·simp only[hv]at h;cases h;exact this
theorem q7C(l:List Tok)(x:Fe)(r:List Tok)(h:qBi exS l= .ok x r):r.length<=l.length/\(qaJ x.when_=0/\qaJ x.amount=0):=by
 unfold qBi at h;obtain⟨n,r1,h1,h⟩:=qah h;obtain⟨e,r2,h2,h⟩:=qah h;obtain⟨_,r3,h3,h⟩:=qah h;obtain⟨w,r4,h4,h⟩:=qah h;obtain⟨_,r5,h5,h⟩:=qah h;obtain⟨a,r6,h6,h⟩:=qah h;obtain⟨_,r7,h7,h⟩:=qah h;cases h;have:=quK h1;have:=qti h2;have:=qdC h3;have:=qSi hS h4;have:=qdC h5;have:=qSi hS h6;have:=qdC h7;exact⟨by omega,qvA h4,qvA h6⟩
theorem qZL(l:List Tok)(x:Ru)(r:List Tok)(h:qha exS l= .ok x r):r.length<=l.length/\qaJ x.amount=0:=by
 unfold qha at h;obtain⟨n,r1,h1,h⟩:=qah h;obtain⟨e,r2,h2,h⟩:=qah h;obtain⟨a,r3,h3,h⟩:=qah h;obtain⟨_,r4,h4,h⟩:=qah h;cases h;have:=quK h1;have:=qti h2;have:=qSi hS h3;have:=qdC h4;exact⟨by omega,qvA h3⟩
theorem zea{day:Int->Int->Int->Option Int}{l r:List Tok}{p:Pr}(h:qg8 exS day l= .ok p r):(p.cr.tiers.length<=l.length+1/\p.de.tiers.length<=l.length+1/\p.fees.length<=l.length+1/\p.rules.length<=l.length+1)/\(∀x∈p.fees,qaJ x.when_=0/\qaJ x.amount=0)/\ ∀x∈p.rules,qaJ x.amount=0:=by
 unfold qg8 at h;obtain⟨_,r0,a0,h⟩:=qah h;obtain⟨nm,r1,a1,h⟩:=qah h;obtain⟨_,r2,a2,h⟩:=qah h;obtain⟨cu,r3,a3,h⟩:=qah h;obtain⟨_,r4,a4,h⟩:=qah h;obtain⟨ca,r5,a5,h⟩:=qah h;obtain⟨_,r6,a6,h⟩:=qah h;obtain⟨fr,r7,a7,h⟩:=qah h;obtain⟨_,r8,a8,h⟩:=qah h;obtain⟨ev,r9,a9,h⟩:=qah h;obtain⟨_,r10,a10,h⟩:=qah h;obtain⟨ov,r11,a11,h⟩:=qah h;obtain⟨_,r12,a12,h⟩:=qah h;obtain⟨tx,r13,a13,h⟩:=qah h;obtain⟨_,r14,a14,h⟩:=qah h;obtain⟨cr,r15,hcr,h⟩:=qah h;obtain⟨de,r16,hde,h⟩:=qah h;obtain⟨fs,r17,hfs,h⟩:=qah h;obtain⟨rs,r18,hrs,h⟩:=qah h;obtain⟨_,r19,a19,h⟩:=qah h;have hcu:r3.length<=r2.length:=by
  unfold qgq at a3;obtain⟨s,q,b1,a3⟩:=qah a3;split at a3
  ·cases a3;exact quK b1
  ·cases a3
 have hda:r7.length<=r6.length:=by
  unfold qEd at a7;obtain⟨y,q1,b1,a7⟩:=qah a7;obtain⟨_,q2,b2,a7⟩:=qah a7;obtain⟨m,q3,b3,a7⟩:=qah a7;obtain⟨_,q4,b4,a7⟩:=qah a7;obtain⟨d,q5,b5,a7⟩:=qah a7;have:=qwx b1;have:=qdC b2;have:=qwx b3;have:=qdC b4;have:=qwx b5;split at a7
  ·cases a7;omega
  ·cases a7
 have:=qdC a0;have:=quK a1;have:=qiK a2;have:=qiK a4;have:=quK a5;have:=qiK a6;have:=qiK a8;have:=qwx a9;have:=qiK a10;have:=qwx a11;have:=qiK a12;have:=qZz a13;have:=qdC a14;have:=q7M hcr;have:=q7M hde;obtain⟨f1,f2,f3⟩:=qFW (ok:=fun x=>qaJ x.when_=0/\qaJ x.amount=0) (q7C hS) hfs;obtain⟨g1,g2,g3⟩:=qFW (ok:=fun x=>qaJ x.amount=0) (qZL hS) hrs;rw[jA4]at f2 g2;split at h
 ·cases h;exact⟨⟨by show cr.tiers.length<=_;omega,by show de.tiers.length<=_;omega,by show fs.length<=_;omega,by show rs.length<=_;omega⟩,f3 (fun _ h=>nomatch h),g3 (fun _ h=>nomatch h)⟩
 ·cases h
end
end Go.Tk
namespace Go.Proofs.H16
open Go Go.Eng Go.Tk
set_option maxRecDepth 20000
section
variable {T:List Tok}
theorem qRC{α β γ:Type}(x:Pz α)(f:α->List Tok->Pz β)(g:β->List Tok->Pz γ):(x.bnd f).bnd g=x.bnd fun a r=>(f a r).bnd g:=by cases x<;>rfl
theorem zj5(hT:T.length<=1000000)(hv:∀t∈T,qaP t=true){p:PS}(hp:p.Ok T):∃v p',qBa (stP T p).1 (stP T p).2.1 (stP T p).2.2.1 (stP T p).2.2.2=some (v,stP T p')/\Does T qgq Eq p v p':=by
 obtain⟨s,p1,h1,D,hs⟩:=qto hT hv 1 hp;have hl:=qwp hs;have hvar:s= []\/qdE s=true:=hs.imp id fun h=>zdW h
 have key:∃b,br ((s.length:Int) != 3) (some true) (br (decide (s.length<=1000000)&&(qCX s&&qCX [48,49,50,51,52,53,54,55,56,57,95])) (some (Lib.containsAny s [48,49,50,51,52,53,54,55,56,57,95])) none)=some b/\(b=true->qvr s=none)/\(b=false->qvr s=some (Lib.toUpperA s)/\(decide (s.length<=1000000)&&qCX s)=true):=by
  by_cases h3:s.length=3
  ·have hne:((s.length:Int) != 3)=false:=by rw[h3];rfl
   have hv3:qdE s=true:=hvar.resolve_left fun h=>by rw[h]at h3;cases h3
   have ha:=q3E hv3;have hle:decide (s.length<=1000000)=true:=jA8 (by omega);refine⟨Lib.containsAny s digsU,?_,?_,?_⟩
   ·rw[hne,ha,hle];rfl
   ·intro hc;rw[qHe hv3 h3,jAr hc]
   ·intro hc;rw[qHe hv3 h3,jAm (by rw[hc];decide),ha,hle];exact⟨rfl,rfl⟩
  ·have hne:((s.length:Int) != 3)=true:=by
    rw[bne_iff_ne];omega
   refine⟨true,by rw[hne];rfl,fun _=>?_,fun h=>by cases h⟩;unfold qvr;rw[jAm fun h=>h3 h.1]
 obtain⟨b,k1,k2,k3⟩:=key;rw[qSB,qz7];have D2:=D.2;cases p with
 |bad q e a=>
  obtain⟨k',rfl⟩:=D2;cases b with
  |true=>exact⟨[],.bad q e k',(biS h1).trans ((biS k1).trans ((brT rfl).trans ((biS (qtn 2 a D.ok (fun l h=>nomatch h))).trans rfl))),D.ok,k',rfl⟩
  |false=>exact⟨_,.bad q e k',(biS h1).trans ((biS k1).trans ((brF rfl).trans ((brT (k3 rfl).2).trans rfl))),D.ok,k',rfl⟩
 |good l=>
  dsimp only at D2;cases hz:qcO 1 l with
  |bad q e=>
   rw[hz]at D2;obtain⟨k',rfl⟩:=D2;have hzz:qgq l= .bad q e:=by unfold qgq;rw[hz];rfl
   have fin:∀v,Does T qgq Eq (.good l) v (.bad q e k'):=fun v=>⟨D.ok,by dsimp only;rw[hzz];exact⟨k',rfl⟩⟩
   cases b with
   |true=>exact⟨[],.bad q e k',(biS h1).trans ((biS k1).trans ((brT rfl).trans ((biS (qtn 2 _ D.ok (fun l h=>nomatch h))).trans rfl))),fin _⟩
   |false=>exact⟨_,.bad q e k',(biS h1).trans ((biS k1).trans ((brF rfl).trans ((brT (k3 rfl).2).trans rfl))),fin _⟩
  |ok s' r=>
   rw[hz]at D2;obtain⟨rfl,rfl⟩:=D2;cases b with
   |true=>
    refine⟨[],.bad l 2 (pos T r),(biS h1).trans ((biS k1).trans ((brT rfl).trans ((biS (qBX hT 2 hp D.ok)).trans rfl))),⟨by decide,hp⟩,?_⟩;have hzz:qgq l= .bad l 2:=by unfold qgq;rw[hz];show(match qvr s' with|some c=>Pz.ok c r|none=>.bad l 2)=_;rw[k2 rfl]
    dsimp only;rw[hzz];exact⟨_,rfl⟩
   |false=>
    refine⟨Lib.toUpperA s',.good r,(biS h1).trans ((biS k1).trans ((brF rfl).trans ((brT (k3 rfl).2).trans rfl))),D.ok,?_⟩;have hzz:qgq l= .ok (Lib.toUpperA s') r:=by unfold qgq;rw[hz];show(match qvr s' with|some c=>Pz.ok c r|none=>.bad l 2)=_;rw[(k3 rfl).1]
    dsimp only;rw[hzz];exact⟨rfl,rfl⟩
def q7n(l:List Tok):Pz (Int×Int×Int):=(qpc l).bnd fun y r=>(qcJ [47] r).bnd fun _ r=>(qpc r).bnd fun m r=>(qcJ [47] r).bnd fun _ r=>(qpc r).bnd fun d r=>.ok (y,m,d) r
theorem qxC(l:List Tok):qEd qiQ l=(q7n l).bnd fun c r=>match qiQ c.1 c.2.1 c.2.2 with|some n=>.ok n r|none=>.bad l 1:=by
 unfold qEd q7n;simp only[qRC];rfl
theorem qAY{l r:List Tok}{y m d n:Int}(h:q7n l= .ok (y,m,d) r)(hd:qiQ y m d=some n):qEd qiQ l= .ok n r:=by
 rw[qxC,h];simp only[Pz.bnd,hd]
theorem qAX{l r:List Tok}{y m d:Int}(h:q7n l= .ok (y,m,d) r)(hd:qiQ y m d=none):qEd qiQ l= .bad l 1:=by
 rw[qxC,h];simp only[Pz.bnd,hd]
theorem qHw{l r:List Tok}(h:exS l= .bad r):qA4 exS l= .bad r 2:=by
 unfold qA4;rw[h]
theorem qSh{l r:List Tok}{e:Ex}(h:exS l= .ok e r):qA4 exS l=bif qaJ e==0 then .ok e r else .bad l (qaJ e):=by
 unfold qA4;rw[h]
theorem qyO(k:Int)(e:Ex)(r:List Tok):qpv T k (.ok e r)=bif qaJ e==0 then(e.op,e.num,e.txt,EX e.args,pos T r,0)else zaK k (qaJ e):=rfl
theorem zqf(hT:T.length<=1000000)(hv:∀t∈T,qaP t=true){p:PS}(hp:p.Ok T):∃v p',qBc (stP T p).1 (stP T p).2.1 (stP T p).2.2.1 (stP T p).2.2.2=some (v,stP T p')/\Does T (qEd qiQ) Eq p v p':=by
 obtain⟨y,p1,h1,D1⟩:=qkj hT hv hp;obtain⟨p2,h2,D2⟩:=qdA hT hv [47] D1.ok;obtain⟨m,p3,h3,D3⟩:=qkj hT hv D2.ok;obtain⟨p4,h4,D4⟩:=qdA hT hv [47] D3.ok;obtain⟨d,p5,h5,D5⟩:=qkj hT hv D4.ok;have K4:=D5.stuck;have K3:=D4.stuck.trans K4;have K2:=D3.stuck.trans K3;have K1:=D2.stuck.trans K2;have D:Does T q7n (fun c (v:Int×Int×Int)=>c=v) p (y,m,d) p5:=D1.bnd K1 D5.ok fun y' e1=>D2.bnd K2 D5.ok fun _ _=>D3.bnd K3 D5.ok fun m' e2=>D4.bnd K4 D5.ok fun _ _=>D5.map fun d' e3=>by rw[e1,e2,e3]
 rw[qSG];have pre:∀{x},(DT.br ((qu0 y m d).2 != 0) (.bi (qcf 1 (stP T p).2.1 (stP T p5).1 (stP T p5).2.1 (stP T p5).2.2.1 (stP T p5).2.2.2) (fun y6=>.at (((qu0 y m d).1,y6.fst,y6.snd.fst,y6.snd.snd.fst,y6.snd.snd.snd):qG2)) .no) (.at ((qu0 y m d).1,stP T p5))).ev=x->(quS (stP T p).1 (stP T p).2.1 (stP T p).2.2.1 (stP T p).2.2.2).ev=x:=fun hx=>by
  rw[quS];exact(biS h1).trans ((biS h2).trans ((biS h3).trans ((biS h4).trans ((biS h5).trans ((biS (qFf y m d)).trans hx)))))
 have E2:=D.2;have stop:∀{q:List Tok} {e k:Int},p5= .bad q e k-> ∃v p',(DT.br ((qu0 y m d).2 != 0) (.bi (qcf 1 (stP T p).2.1 (stP T p5).1 (stP T p5).2.1 (stP T p5).2.2.1 (stP T p5).2.2.2) (fun y6=>.at (((qu0 y m d).1,y6.fst,y6.snd.fst,y6.snd.snd.fst,y6.snd.snd.snd):qG2)) .no) (.at ((qu0 y m d).1,stP T p5))).ev=some (v,stP T p')/\p'= .bad q e k:=by
  intro q e k h5;refine⟨(qu0 y m d).1,p5,?_,h5⟩;cases hb:((qu0 y m d).2 != 0)
  ·exact(brF rfl).trans rfl
  ·exact(brT rfl).trans ((biS (qtn 1 _ D5.ok (fun l h=>by rw[h5]at h;cases h))).trans rfl)
 cases p with
 |bad q e a=>
  obtain⟨k',hk'⟩:=E2;obtain⟨v,p',g1,rfl⟩:=stop hk';exact⟨v,_,pre g1,by rw[<-hk'];exact D5.ok,k',rfl⟩
 |good l=>
  dsimp only at E2;have hz:=qxC l;cases h5z:q7n l with
  |bad q e=>
   rw[h5z]at E2 hz;obtain⟨k',hk'⟩:=E2;obtain⟨v,p',g1,rfl⟩:=stop hk';refine⟨v,_,pre g1,by rw[<-hk'];exact D5.ok,?_⟩;dsimp only;rw[hz];exact⟨k',rfl⟩
  |ok c r=>
   rw[h5z]at E2;obtain⟨rfl,hp5⟩:=E2;cases hd:qiQ y m d with
   |some n=>
    have hr:qu0 y m d=(n,0):=by unfold qu0;rw[hd]
    refine⟨n,p5,pre ?_,D5.ok,?_⟩
    ·rw[hr];exact(brF rfl).trans rfl
    ·dsimp only;rw[qAY h5z hd];exact⟨rfl,hp5⟩
   |none=>
    have hr:qu0 y m d=(0,1):=by unfold qu0;rw[hd]
    subst hp5;refine⟨0,.bad l 1 (pos T r),pre ?_,⟨by decide,hp⟩,?_⟩
    ·rw[hr];exact(brT rfl).trans ((biS (qBX hT 1 hp D5.ok)).trans rfl)
    ·dsimp only;rw[qAX h5z hd];exact⟨_,rfl⟩
abbrev VEx(e:Ex)(v:Int×Int×Bs×List AV):Prop:=v=(e.op,e.num,e.txt,EX e.args)
theorem qHl{l:List Tok}(h:l <:+ T):T.drop (pos T l).toNat=l:=by
 obtain⟨p,rfl⟩:=h;have e:(pos (p++l) l).toNat=p.length:=by unfold pos;simp
 rw[e,List.drop_left]
theorem qVe(hT:T.length<=1000000)(hv:∀t∈T,qaP t=true){p:PS}(hp:p.Ok T):∃v p',qiT (stP T p).1 (stP T p).2.1 (stP T p).2.2.1 (stP T p).2.2.2=some (v.1,v.2.1,v.2.2.1,v.2.2.2,stP T p')/\Does T (qA4 exS) VEx p v p':=by
 rw[qSC];cases p with
 |bad q e a=>exact⟨(0,0,[],[]),.bad q e a,by rw[qoJ];exact(brT (ql9 hp.1)).trans rfl,hp,a,rfl⟩
 |good l=>
  have hb:∀t∈T,t.text.length<=1000000:=fun t ht=>by have:=(qd0 (hv t ht)).1;omega
  obtain⟨b1,b2⟩:=q2o hT hb (pos T l);have hlen:=List.IsSuffix.length_le hp;have hlen':l.length<=T.length:=hlen;have hpos:¬(pos T l<0\/(T.length:Int)<pos T l):=by unfold pos;omega
  have hS:qKa T (pos T l)=qpv T (pos T l) (exS l):=by
   unfold qKa;rw[jAm hpos,qHl hp]
  rw[hS]at b2;have hgood:=(qoR l).good;have cE:paE IP 157 (ET T) (pos T l)=(qpv T (pos T l) (exS l)).2.2.2.2.2:=by unfold paE;rw[b2]
  have cK:paK IP 157 (ET T) (pos T l)=(qpv T (pos T l) (exS l)).2.2.2.2.1:=by unfold paK;rw[b2]
  have cO:paO IP 157 (ET T) (pos T l)=(qpv T (pos T l) (exS l)).1:=by unfold paO;rw[b2]
  have cN:paN IP 157 (ET T) (pos T l)=(qpv T (pos T l) (exS l)).2.1:=by unfold paN;rw[b2]
  have cS:paS IP 157 (ET T) (pos T l)=(qpv T (pos T l) (exS l)).2.2.1:=by unfold paS;rw[b2]
  have cX:paX IP 157 (ET T) (pos T l)=(qpv T (pos T l) (exS l)).2.2.2.1:=by unfold paX;rw[b2]
  have go:∀{x},(DT.br (paE IP 157 (ET T) (pos T l) != 0) (.bi (qcf (paE IP 157 (ET T) (pos T l)) (paK IP 157 (ET T) (pos T l)) (ET T) (pos T l) 0 0) (fun y0=>.at ((0,0,[],[],y0.fst,y0.snd.fst,y0.snd.snd.fst,y0.snd.snd.snd):qPQ)) .no)
    (.at (paO IP 157 (ET T) (pos T l),paN IP 157 (ET T) (pos T l),paS IP 157 (ET T) (pos T l),paX IP 157 (ET T) (pos T l),ET T,paK IP 157 (ET T) (pos T l),0,0))).ev=x->(qoJ (ET T) (pos T l) 0 0).ev=x:=fun hx=>by
   rw[qoJ];exact(brF rfl).trans ((brT b1).trans hx)
  cases hx:exS l with
  |bad r=>
   have hz:=qHw hx;rw[hx]at cE cK hgood;have hr:r <:+ T:=List.IsSuffix.trans hgood hp;refine⟨(0,0,[],[]),.bad r 2 (pos T l),go ?_,⟨by decide,hr⟩,?_⟩
   ·rw[cE,cK];exact(brT rfl).trans ((biS (qBX hT 2 hr (p:=.good l) hp)).trans rfl)
   ·dsimp only;rw[hz];exact⟨_,rfl⟩
  |ok e r=>
   have hz:=qSh hx;rw[hx]at cE cK cO cN cS cX hgood;have hr:r <:+ T:=List.IsSuffix.trans hgood.1 hp;cases h0:(qaJ e==0)
   ·have hx1:qpv T (pos T l) (.ok e r)=zaK (pos T l) (qaJ e):=by rw[qyO,h0];rfl
    rw[hx1]at cE cK;refine⟨(0,0,[],[]),.bad l (qaJ e) (pos T l),go ?_,⟨by simpa using h0,hp⟩,?_⟩
    ·rw[cE,cK];exact(brT (by show(qaJ e != 0)=true;rw[bne,h0];rfl)).trans ((biS (qBX hT (qaJ e) (q:=l) hp (p:=.good l) hp)).trans rfl)
    ·dsimp only;rw[hz,h0];exact⟨_,rfl⟩
   ·have hx1:qpv T (pos T l) (.ok e r)=(e.op,e.num,e.txt,EX e.args,pos T r,0):=by rw[qyO,h0];rfl
    rw[hx1]at cE cK cO cN cS cX;refine⟨(e.op,e.num,e.txt,EX e.args),.good r,go ?_,hr,?_⟩
    ·rw[cE,cK,cO,cN,cS,cX];exact(brF rfl).trans rfl
    ·dsimp only;rw[hz,h0];exact⟨rfl,rfl⟩
abbrev Mi:=Bool×Int×Int×Bool×Bool×Int×Int×Bool
abbrev hi0(s:StP)(m:Mi):qek:=.inl (s.1,s.2.1,s.2.2.1,s.2.2.2,m.1,m.2.1,m.2.2.1,m.2.2.2.1,m.2.2.2.2.1,m.2.2.2.2.2.1,m.2.2.2.2.2.2.1,m.2.2.2.2.2.2.2)
abbrev hi1(s:StP)(m:Mi)(A:List AV):qek:=.inr (s.1,s.2.1,s.2.2.1,s.2.2.2,m.1,m.2.1,m.2.2.1,m.2.2.2.1,m.2.2.2.2.1,m.2.2.2.2.2.1,m.2.2.2.2.2.2.1,m.2.2.2.2.2.2.2,A)
noncomputable abbrev stI:=fun v=>(qy8 v).ev
theorem q0c(hT:T.length<=1000000)(hv:∀t∈T,qaP t=true){p:PS}(hp:p.Ok T):∃a b p1 p2 p3 p',qiS (stP T p).1 (stP T p).2.1 (stP T p).2.2.1 (stP T p).2.2.2=some (a,stP T p1)/\qaT [AV.str [58]] (stP T p1).1 (stP T p1).2.1 (stP T p1).2.2.1 (stP T p1).2.2.2=some (stP T p2) /\
  qoU (stP T p2).1 (stP T p2).2.1 (stP T p2).2.2.1 (stP T p2).2.2.2=some (b,stP T p3)/\qaT [AV.str [59]] (stP T p3).1 (stP T p3).2.1 (stP T p3).2.2.1 (stP T p3).2.2.2=some (stP T p')/\Does T qi2 (fun t (v:Int×Int)=>v=(t.from_,t.ppm)) p (a,b) p':=by
 obtain⟨a,p1,h1,D1⟩:=qkj hT hv hp;obtain⟨p2,h2,D2⟩:=qdA hT hv [58] D1.ok;obtain⟨b,p3,h3,D3⟩:=q74 hT hv D2.ok;obtain⟨p4,h4,D4⟩:=qdA hT hv [59] D3.ok;have K3:=D4.stuck;have K2:=D3.stuck.trans K3;have K1:=D2.stuck.trans K2;exact⟨a,b,p1,p2,p3,p4,h1,h2,h3,h4,D1.bnd K1 D4.ok fun a' e1=>D2.bnd K2 D4.ok fun _ _=>D3.bnd K3 D4.ok fun b' e2=>D4.map fun _ _=>by rw[e1,e2]⟩
theorem quO(hT:T.length<=1000000)(hv:∀t∈T,qaP t=true){p:PS}(hp:p.Ok T)(ha:ql1 [36] p=false)(m:Mi):qae stI (hi0 (stP T p) m)=some (0,hi0 (stP T p) m)/\ ∀A,qae stI (hi1 (stP T p) m A)=some (1,hi1 (stP T p) m A):=by
 have hacc:=qfw hT hv [36] hp;rw[ha]at hacc;constructor
 ·refine qaf ?_;show(qjR (stP T p).1 (stP T p).2.1 (stP T p).2.2.1 (stP T p).2.2.2 _ _ _ _ _ _ _ _).ev=_;rw[qjR];exact(biS hacc).trans ((brF rfl).trans rfl)
 ·intro A;refine qaf ?_;show(qjS (stP T p).1 (stP T p).2.1 (stP T p).2.2.1 (stP T p).2.2.2 _ _ _ _ _ _ _ _ A).ev=_;rw[qjS];exact(biS hacc).trans ((brF rfl).trans rfl)
abbrev trA(a b:Int):AV:=.agg [.int .i64 a,.int .i64 b]
theorem q0a(hT:T.length<=1000000)(hv:∀t∈T,qaP t=true){l:List Tok}(hl:l <:+ T)(hi:isW [36] l=true)(m:Mi):∃a b p',Does T qi2 (fun t (v:Int×Int)=>v=(t.from_,t.ppm)) (.good l.tail) (a,b) p'/\qae stI (hi0 (stP T (.good l)) m)=qae stI (hi1 (stP T p') m [trA a b])/\ ∀A,A.length<=1000000->qae stI (hi1 (stP T (.good l)) m A)=qae stI (hi1 (stP T p') m (A++[trA a b])):=by
 have hacc:=qfw hT hv [36] (p:=.good l) hl;have e1:ql1 [36] (.good l)=true:=hi;have e2:q7d [36] (.good l)= .good l.tail:=by show PS.good (bif isW [36] l then l.tail else l)=_;rw[hi];rfl
 rw[e1,e2]at hacc;obtain⟨a,b,p1,p2,p3,p',h1,h2,h3,h4,D⟩:=q0c hT hv (p:=.good l.tail) (qaI hl);refine⟨a,b,p',D,qaq ?_,fun A hA=>qaq ?_⟩
 ·show(qjR (stP T (.good l)).1 (stP T (.good l)).2.1 (stP T (.good l)).2.2.1 (stP T (.good l)).2.2.2 _ _ _ _ _ _ _ _).ev=_;rw[qjR];exact(biS hacc).trans ((brT rfl).trans ((biS h1).trans ((biS h2).trans ((biS h3).trans ((biS h4).trans rfl)))))
 ·show(qjS (stP T (.good l)).1 (stP T (.good l)).2.1 (stP T (.good l)).2.2.1 (stP T (.good l)).2.2.2 _ _ _ _ _ _ _ _ A).ev=_;rw[qjS];exact(biS hacc).trans ((brT rfl).trans ((biS h1).trans ((biS h2).trans ((biS h3).trans ((biS h4).trans ((brT (qdB (by simp only[lim,Prod.i,Prod.h,Prod.f];omega))).trans rfl))))))
theorem zfl(hT:T.length<=1000000)(hv:∀t∈T,qaP t=true)(m:Mi):∀(n:Nat) (l:List Tok) (acc:List Tr),l <:+ T->l.length<n->acc.length+l.length<=1000000-> ∃p' A,Does T (qcs n acc) (fun ts (v:List AV)=>v=ETr ts) (.good l) A p'/\ql1 [36] p'=false/\qae stI (hi1 (stP T (.good l)) m (ETr acc))=some (1,hi1 (stP T p') m A):=by
 intro n
 induction n with
 |zero=>intro l acc _ h;omega
 |succ n ih=>
  intro l acc hl hn hb;cases hi:isW [36] l
  ·refine⟨.good l,ETr acc,⟨hl,?_⟩,hi,(quO hT hv (p:=.good l) hl hi m).2 _⟩;dsimp only;simp only[qcs,hi,jA9];exact⟨trivial,trivial⟩
  ·obtain⟨a,b,p',D,_,hnx⟩:=q0a hT hv hl hi m;have hnx:=hnx (ETr acc) (by rw[jA5];omega);have D2:=D.2;dsimp only at D2;have hz:qcs (n+1) acc l=(qi2 l.tail).bnd fun t l=>qcs n (acc++[t]) l:=by simp only[qcs,hi,jAa]
   cases ht:qi2 l.tail with
   |bad q e=>
    rw[ht]at D2 hz;obtain⟨k,rfl⟩:=D2;refine⟨.bad q e k,_,⟨D.ok,?_⟩,rfl,hnx.trans ((quO hT hv D.ok rfl m).2 _)⟩;dsimp only;rw[hz];exact⟨k,rfl⟩
   |ok t r=>
    rw[ht]at D2 hz;obtain⟨hab,rfl⟩:=D2;have hlen:=qzo ht;have htl:l.tail.length+1=l.length:=(qoF hi).2;obtain⟨p2,A,D3,g1,g2⟩:=ih r (acc++[t]) D.ok (by omega) (by rw[jA2];simp only[jA0,jA4];omega);refine⟨p2,A,⟨D3.ok,?_⟩,g1,?_⟩
    ·dsimp only;rw[hz];exact D3.2
    ·rw[hnx,<-g2];simp only[jAd]at hab;rw[hab.1,hab.2,show ETr (acc++[t])=ETr acc++[trA t.from_ t.ppm] by simp[Tr.av]]
theorem zla(hT:T.length<=1000000)(hv:∀t∈T,qaP t=true)(m:Mi){p:PS}(hp:p.Ok T):∃p' A,Does T (fun r=>qcs (r.length+1) [] r) (fun ts (v:List AV)=>v=ETr ts) p A p'/\ql1 [36] p'=false/\(qae stI (hi0 (stP T p) m)=some (0,hi0 (stP T p') m)/\A= []\/qae stI (hi0 (stP T p) m)=some (1,hi1 (stP T p') m A)):=by
 cases p with
 |bad q e k=>exact⟨.bad q e k,[],⟨hp,k,rfl⟩,rfl,.inl ⟨(quO hT hv hp rfl m).1,rfl⟩⟩
 |good l=>
  cases hi:isW [36] l
  ·refine⟨.good l,[],⟨hp,?_⟩,hi,.inl ⟨(quO hT hv (p:=.good l) hp hi m).1,rfl⟩⟩;dsimp only;simp only[qcs,hi,jA9];exact⟨rfl,trivial⟩
  ·obtain⟨a,b,p',D,hnx,_⟩:=q0a hT hv hp hi m;have D2:=D.2;dsimp only at D2;have hz:qcs (l.length+1) [] l=(qi2 l.tail).bnd fun t r=>qcs l.length ([]++[t]) r:=by simp only[qcs,hi,jAa]
   cases ht:qi2 l.tail with
   |bad q e=>
    rw[ht]at D2 hz;obtain⟨k,rfl⟩:=D2;refine⟨.bad q e k,_,⟨D.ok,?_⟩,rfl,.inr (hnx.trans ((quO hT hv D.ok rfl m).2 _))⟩;dsimp only;rw[hz];exact⟨k,rfl⟩
   |ok t r=>
    rw[ht]at D2 hz;obtain⟨hab,rfl⟩:=D2;have hlen:=qzo ht;have htl:l.tail.length+1=l.length:=(qoF hi).2;have hTl:l.length<=T.length:=List.IsSuffix.length_le hp;obtain⟨p2,A,D3,g1,g2⟩:=zfl hT hv m l.length r [t] D.ok (by omega) (by simp only[jA0,jA4];omega);refine⟨p2,A,⟨D3.ok,?_⟩,g1,.inr ?_⟩
    ·dsimp only;rw[hz];exact D3.2
    ·rw[hnx,<-g2];simp only[jAd]at hab;rw[hab.1,hab.2];rfl
theorem qEp:qgW=some (ES qiO):=by rw[qK9,qpL];rfl
theorem qEq:qgX=some (ES qiV):=by rw[qLa,qpM];rfl
theorem qoS:qoV=some (ES qfL):=by rw[qS1,qAy];rfl
theorem qfv:qkY=some (ES qdD):=by rw[qSZ,qAv];rfl
abbrev InV:=List AV×Bool×Int×Int×Bool
abbrev VIn(x:In)(v:InV):Prop:=v=(ETr x.tiers,x.marg,x.basis,x.mode,x.keep)
theorem qwB(hT:T.length<=1000000)(hv:∀t∈T,qaP t=true)(w:Bs){p:PS}(hp:p.Ok T):∃v p',qvD w (stP T p).1 (stP T p).2.1 (stP T p).2.2.1 (stP T p).2.2.2=some (v.1,v.2.1,v.2.2.1,v.2.2.2.1,v.2.2.2.2,stP T p')/\Does T (qCZ w) VIn p v p':=by
 obtain⟨p1,h1,D1⟩:=qdA hT hv w hp;obtain⟨k,p2,h2,D2⟩:=qki hT hv (ws:=[[119,104,111,108,101],[109,97,114,103,105,110,97,108]]) (by decide) D1.ok;obtain⟨b,p3,h3,D3⟩:=qki hT hv (ws:=qiO) (by decide) D2.ok;obtain⟨mo,p4,h4,D4⟩:=qki hT hv (ws:=qiV) (by decide) D3.ok;obtain⟨q,p5,h5,D5⟩:=qki hT hv (ws:=[[100,114,111,112],[107,101,101,112]]) (by decide) D4.ok;obtain⟨p6,h6,D6⟩:=qdA hT hv [123] D5.ok;obtain⟨p7,A,D7,hacc7,hL⟩:=zla hT hv (false,0,0,false,k==2,b,mo,q==2) D6.ok;obtain⟨p8,h8,D8⟩:=qdA hT hv [125] D7.ok;have K7:=D8.stuck;have K6:=D7.stuck.trans K7;have K5:=D6.stuck.trans K6;have K4:=D5.stuck.trans K5;have K3:=D4.stuck.trans K4;have K2:=D3.stuck.trans K3;have K1:=D2.stuck.trans K2;refine⟨(A,k==2,b,mo,q==2),p8,?_,D1.bnd K1 D8.ok fun _ _=>D2.bnd K2 D8.ok fun k' e2=>D3.bnd K3 D8.ok fun b' e3=>D4.bnd K4 D8.ok fun m' e4=>D5.bnd K5 D8.ok fun q' e5=>D6.bnd K6 D8.ok fun _ _=>D7.bnd K7 D8.ok fun ts e7=>D8.map fun _ _=>by rw[e2,e3,e4,e5,e7]⟩;rw[qSr,qzE];have hacc:=qfw hT hv [36] D7.ok;rw[hacc7,qxr hacc7]at hacc;refine(biS h1).trans ((biS h2).trans ((biS qEp).trans ((biS h3).trans ((biS qEq).trans ((biS h4).trans ((biS h5).trans ((biS h6).trans ?_)))))));rcases hL with⟨hL,rfl⟩|hL
 ·refine(biS (v:=hi0 (stP T p7) (false,0,0,false,k==2,b,mo,q==2)) ?_).trans ?_
  ·rw[qmn];show pj 0 (qae stI (hi0 (stP T p6) (false,0,0,false,k==2,b,mo,q==2)))=_;rw[hL];rfl
  ·have h8':qaT [AV.str [125]] (gv (qao [36] (stP T p7).1 (stP T p7).2.1 (stP T p7).2.2.1 (stP T p7).2.2.2)).snd.fst (gv (qao [36] (stP T p7).1 (stP T p7).2.1 (stP T p7).2.2.1 (stP T p7).2.2.2)).snd.snd.fst (gv (qao [36] (stP T p7).1 (stP T p7).2.1 (stP T p7).2.2.1 (stP T p7).2.2.2)).snd.snd.snd.fst (gv (qao [36] (stP T p7).1 (stP T p7).2.1 (stP T p7).2.2.1 (stP T p7).2.2.2)).snd.snd.snd.snd=some (stP T p8):=by
    rw[hacc];exact h8
   exact(biS h8').trans rfl
 ·refine(biN ?_).trans ((biS (v:=hi1 (stP T p7) (false,0,0,false,k==2,b,mo,q==2) A) ?_).trans ?_)
  ·rw[qmn];show pj 0 (qae stI (hi0 (stP T p6) (false,0,0,false,k==2,b,mo,q==2)))=_;rw[hL];rfl
  ·rw[qmn];show pj 1 (qae stI (hi0 (stP T p6) (false,0,0,false,k==2,b,mo,q==2)))=_;rw[hL];rfl
  ·have h8':qaT [AV.str [125]] (gv (qao [36] (stP T p7).1 (stP T p7).2.1 (stP T p7).2.2.1 (stP T p7).2.2.2)).snd.fst (gv (qao [36] (stP T p7).1 (stP T p7).2.1 (stP T p7).2.2.1 (stP T p7).2.2.2)).snd.snd.fst (gv (qao [36] (stP T p7).1 (stP T p7).2.1 (stP T p7).2.2.1 (stP T p7).2.2.2)).snd.snd.snd.fst (gv (qao [36] (stP T p7).1 (stP T p7).2.1 (stP T p7).2.2.1 (stP T p7).2.2.2)).snd.snd.snd.snd=some (stP T p8):=by
    rw[hacc];exact h8
   exact(biS h8').trans rfl
end
end Go.Proofs.H16

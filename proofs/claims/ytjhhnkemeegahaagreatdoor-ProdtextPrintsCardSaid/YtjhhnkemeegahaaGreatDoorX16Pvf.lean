/- Definitions of products: an example, told by the machine's own run. -/
import Derived.Test.YtjhhnkemeegahaaGreatDoorX16Pva
import Derived.Test.YtjhhnkemeegahaaGreatDoorX16Pri
import Derived.Test.YtjhhnkemeegahaaGreatDoorLvf
import Derived.Test.YtjhhnkemeegahaaGreatDoorX16Tok
import Derived.Test.YtjhhnkemeegahaaGreatDoorX16Tks
set_option linter.all false
namespace Go.Proofs.H16
open Go Go.Eng Go.Tk
set_option maxRecDepth 20000
theorem qbK:qb7=some true:=qWP zgI
end Go.Proofs.H16
namespace Go.Proofs.H16
open Go Go.Eng Go.Tk
set_option maxRecDepth 20000
theorem pj0{τ:Type}{o:Option (Nat×τ)}{w:τ}(h:o=some (1,w)):pj 0 o=none:=by rw[h];rfl
theorem pj1{τ:Type}{o:Option (Nat×τ)}{w:τ}(h:o=some (1,w)):pj 1 o=some w:=by rw[h];rfl
theorem zsM{τ:Type}{o:Option (Nat×τ)}{w:τ}(h:o=some (0,w)):pj 0 o=some w:=by rw[h];rfl
theorem qG6{d:Nat}(h:d<10):List.take (d+1-d) (List.drop d ([48,49,50,51,52,53,54,55,56,57]:List UInt8))= [UInt8.ofNat (48+d)]:=by
 have:∀i:Fin 10,List.take (i.val+1-i.val) (List.drop i.val ([48,49,50,51,52,53,54,55,56,57]:List UInt8))= [UInt8.ofNat (48+i.val)]:=by decide
 exact this ⟨d,h⟩
theorem qqZ(n:Nat):Lib.decDigits n=(if n<10 then[]else Lib.decDigits (n / 10))++[UInt8.ofNat (48+n%10)]:=by
 rw[Lib.decDigits];by_cases h:n<10
 ·rw[dif_pos h,jAr h,Nat.mod_eq_of_lt h];rfl
 ·rw[dif_neg h,jAm h]
theorem qEu:∀(n:Nat),n<=9223372036854775808-> ∀(a:Bs),a.length+(Lib.decDigits n).length<=1000->(a= []\/0<n)->qAL ((n:Int),a)=some (0,0,Lib.decDigits n++a):=by
 intro n
 induction n using Nat.strongRecOn with
 |ind n ih=>
  intro hn a ha hz;have wu:∀x:Int,0<=x->x<18446744073709551616->IntKind.u64.wrap x=x:=by
   intro x h0 h1;simp only[IntKind.wrap,IntKind.bits,IntKind.signed];simp;omega
  have hm:((n:Int)).tmod 10=((n%10:Nat):Int):=rfl;have hd:((n:Int)).tdiv 10=((n / 10:Nat):Int):=rfl;have w1:IntKind.u64.wrap (((n:Int)).tmod 10+1)=((n%10+1:Nat):Int):=by rw[hm,wu _ (by omega) (by omega)];rfl
  have w2:IntKind.u64.wrap (((n:Int)).tdiv 10)=((n / 10:Nat):Int):=by rw[hd,wu _ (by omega) (by omega)]
  have hpiece:List.take ((IntKind.u64.wrap (((n:Int)).tmod 10+1)).toNat-(((n:Int)).tmod 10).toNat) (List.drop (((n:Int)).tmod 10).toNat ([48,49,50,51,52,53,54,55,56,57]:List UInt8))= [UInt8.ofNat (48+n%10)]:=by
   rw[w1,hm];exact qG6 (by omega)
  have hcond:br (a== []) (some true) (some (decide ((n:Int)>0)))=some true:=by
   rcases hz with rfl|hz
   ·rfl
   ·cases(a== [])
    ·show some (decide ((n:Int)>0))=_;rw[jA8 (by omega)]
    ·rfl
  have hstep:(qre ((n:Int),a)).ev=some (.next (((n / 10:Nat):Int),UInt8.ofNat (48+n%10)::a)):=by
   show(qip (n:Int) a).ev=_;rw[qip,hpiece];refine(biS hcond).trans ((brT rfl).trans ((brT ?_).trans ((brT ?_).trans ?_)))
   ·rw[w1,hm];simp only[leB,jA1,jA6];omega
   ·refine jA8 ?_;simp only[jA0,jA4];omega
   ·rw[w2];rfl
  rw[qlf,qal hstep,<-qlf];by_cases h10:n<10
  ·have e0:n / 10=0:=by omega
   rw[e0,qlf];refine(qaf (j:=0) ?_).trans ?_
   ·show(qip ((0:Nat):Int) (UInt8.ofNat (48+n%10)::a)).ev=_;rw[qip];exact(biS (v:=false) (by rfl)).trans ((brF rfl).trans rfl)
   ·rw[qqZ n,jAr h10];rfl
  ·have e1:=qqZ n;rw[jAm h10]at e1;rw[ih (n / 10) (by omega) (by omega) _ (by
    rw[e1]at ha;simp only[jA0,jA2,jA4]at ha ⊢;omega) (.inr (by omega)),e1]
   simp
theorem qJU:∀(k n:Nat),n<10^(k+1)->(Lib.decDigits n).length<=k+1
 |0,n,h=>by
  rw[qqZ,jAr (by simpa using h)];simp
 |k+1,n,h=>by
  rw[qqZ];by_cases h1:n<10
  ·rw[jAr h1];simp
  ·rw[jAm h1];have:=qJU k (n / 10) (Nat.div_lt_of_lt_mul (by rw[Nat.pow_succ]at h;omega));simp only[jA2,jA0,jA4];omega
theorem qHt{n:Nat}(h:n<=9223372036854775807):qoO (n:Int)=some (Lib.decDigits n):=by
 rw[qOu,qrX];have hl:(Lib.decDigits n).length<=20:=qJU 19 n (Nat.lt_of_le_of_lt h (by decide));refine(biS (zsM (qEu n (by omega) [] (by simp only[jA4];omega) (.inl rfl)))).trans ?_;show some (Lib.decDigits n++[])=_;rw[jC6]
theorem qmL{n:Int}(h0:0<=n)(h1:n<=9223372036854775807):qmK n=some (Lib.itoa n):=by
 obtain⟨m,rfl⟩:∃m:Nat,n=m:=⟨n.toNat,by omega⟩;have wu:IntKind.u64.wrap (m:Int)=(m:Int):=by
  simp only[IntKind.wrap,IntKind.bits,IntKind.signed];simp;omega
 rw[qPB,qtb,qq6 h0];refine(brT (jA8 h0)).trans ?_;rw[wu];exact(biS (qHt (by omega))).trans rfl
end Go.Proofs.H16
namespace Go.Proofs.H16
open Go Go.Eng Go.Tk
set_option maxRecDepth 20000
section
variable {T:List Tok}
theorem qjd{s:Bs}{l:List Tok}{n:Int}(h:numAt l=some n):isW s l=false:=by
 cases l with
 |nil=>rfl
 |cons t l=>
  rw[qln]at h;cases hk:(t.kind==2)
  ·rw[hk]at h;cases h
  ·have:t.kind=2:=by simpa using hk
   rw[qbq,this];have:((2:Int)==qcr s)=false:=by unfold qcr;cases qbO s<;>decide
   rw[this,Bool.and_false]
end
end Go.Proofs.H16
namespace Go.Proofs.H16
open Go Go.Eng Go.Tk
set_option maxRecDepth 20000
section
variable {T:List Tok}
theorem zcO{x:Int}(h1:0<=x)(h2:x<=255):IntKind.u8.wrap x=x:=by
 simp[IntKind.wrap,IntKind.signed,IntKind.bits];omega
abbrev smallL:Bs:=[97,98,99,100,101,102,103,104,105,106,107,108,109,110,111,112,113,114,115,116,117,118,119,120,121,122]
abbrev bigL:Bs:=[65,66,67,68,69,70,71,72,73,74,75,76,77,78,79,80,81,82,83,84,85,86,87,88,89,90]
end
end Go.Proofs.H16
namespace Go.Proofs.H16
open Go Go.Eng Go.Tk
set_option maxRecDepth 20000
section
variable {T:List Tok}
theorem qmD:qgG=some (ES qd3):=by rw[qO9,qsI];rfl
theorem qmE:qgH=some (ES qd7):=by rw[qPa,qsJ];rfl
theorem qi8:qkc=some (ES eventsL):=by rw[qON,qsm];rfl
theorem qeh:qhK=some (ES windowsL):=by rw[qOy,qr7];rfl
end
end Go.Proofs.H16
namespace Go.Proofs.H16
open Go Go.Eng Go.Tk
set_option maxRecDepth 20000
theorem q6i{c:UInt8}(h:at8 qAg c=true):∃k:Nat,k<26/\c.toNat=65+k/\c+32=UInt8.ofNat (97+k):=by
 unfold at8 qAg at h;simp only[jA1,jA6]at h;refine⟨c.toNat-65,by omega,by omega,?_⟩;apply UInt8.toNat_inj.1;rw[UInt8.toNat_add,UInt8.toNat_ofNat'];have:(32:UInt8).toNat=32:=rfl;omega
theorem zvB:∀k:Nat,k<26->(smallL.drop k).take 1= [UInt8.ofNat (97+k)]:=by decide
theorem zgD{s:Bs}(hs:s.length<=1000000):∀(k n:Nat),n+k=s.length->(s.take n).all (at8 qAg)=true-> ∃w,qae (fun v=>(qhv v).ev) (s,qhm (s.take n),smallL,bigL,(n:Int))=some (bif s.all (at8 qAg)then 1 else 0,w)/\(s.all (at8 qAg)=true->w=(s,qhm s,smallL,bigL,(s.length:Int))):=by
 intro k
 induction k with
 |zero=>
  intro n hn ha;have e:n=s.length:=by omega
  subst e;rw[List.take_length]at ha ⊢;rw[ha];refine⟨_,qaf ?_,fun _=>rfl⟩;show(qex s _ smallL bigL (s.length:Int)).ev=_;rw[qex];exact(brF (by simp)).trans rfl
 |succ k ih=>
  intro n hn ha;have h:n<s.length:=by omega
  have hb:qai s (n:Int)=(s[n].toNat:Int):=qaX h;have htk:s.take (n+1)=s.take n++[s[n]]:=List.take_succ_eq_append_getElem h;cases hc:at8 qAg s[n]
  ·have hall:s.all (at8 qAg)=false:=by
    cases hq:s.all (at8 qAg)
    ·rfl
    ·have:=jAb.1 hq s[n] (jAi h);rw[hc]at this;cases this
   rw[hall];refine⟨_,qaf ?_,fun h=>by cases h⟩;show(qex s _ smallL bigL (n:Int)).ev=_;rw[qex];refine(brT (qaR h)).trans ((brT (qaW h)).trans ?_);rw[hb,qaW h];refine(biS (v:=true) ?_).trans ((brT rfl).trans rfl);unfold at8 qAg at hc;by_cases h1:((s[n].toNat:Int)<65)
   ·rw[jA8 h1];rfl
   ·rw[jAe h1];have:decide ((s[n].toNat:Int)>90)=true:=by
     rw[jA8 (p:=(s[n].toNat:Int)>=65) (by omega),jBm]at hc;have:=of_decide_eq_false hc;exact jA8 (by omega)
    rw[this];rfl
  ·obtain⟨j,hj,e1,e2⟩:=q6i hc;rw[qal (v':=(s,qhm (s.take (n+1)),smallL,bigL,((n+1:Nat):Int))) ?_]
   ·exact ih (n+1) (by omega) (by rw[htk,jCk,ha];simp[hc])
   ·show(qex s _ smallL bigL (n:Int)).ev=_;rw[qex];refine(brT (qaR h)).trans ((brT (qaW h)).trans ?_);have hw:IntKind.u8.wrap (qai s (n:Int)-qai bigL 0)=(j:Int):=by
     rw[hb,show qai bigL 0=65 from rfl,e1];rw[show((65+j:Nat):Int)-65=(j:Int) by omega];exact zcO (by omega) (by omega)
    have hw1:IntKind.i64.wrap (j:Int)=(j:Int):=qow (by omega) (by omega);have hw2:IntKind.i64.wrap ((j:Int)+1)=((j+1:Nat):Int):=by rw[qow (by omega) (by omega)];omega
    rw[hw,hw1,hw2,hb,e1];refine(biS (v:=false) ?_).trans ((brF rfl).trans ((brT (qaW h)).trans ((brT rfl).trans ((brT ?_).trans ?_))))
    ·rw[jAe (by omega),qaW h,jAe (by omega)];rfl
    ·rw[show smallL.length=26 from rfl,show((j+1:Nat):Int).toNat=j+1 by omega];rw[qbg (by omega),qbg (by omega)];rfl
    ·have ht:List.take (((j+1:Nat):Int).toNat-((j:Int)).toNat) (List.drop ((j:Int)).toNat smallL)= [s[n]+32]:=by
      rw[show((j+1:Nat):Int).toNat-((j:Int)).toNat=1 by omega,show((j:Int)).toNat=j by omega,zvB j hj,e2]
     rw[ht];refine(brT (jA8 ?_)).trans ?_
     ·simp only[qhm,jA5,List.length_take,jA0,jA4];omega
     ·show some (Rd.next (s,qhm (s.take n)++[s[n]+32],smallL,bigL,IntKind.i64.wrap ((n:Int)+1)))=_;rw[qow (by omega) (by omega),htk,qhm,qhm,jCi];rfl
theorem q45{s:Bs}(hs:s.length<=1000000):∃x,qoV s=some (x,qFN s)/\(qFN s=true->x=qhm s):=by
 rw[qPb,qsK,qyP];obtain⟨w,h1,h2⟩:=zgD hs s.length 0 (by omega) rfl;have h1':qae (fun v=>(qhv v).ev) (s,[],smallL,bigL,0)=some (bif s.all (at8 qAg)then 1 else 0,w):=h1;unfold qFN;show ∃x,_=some (x,s.all (at8 qAg)&&(s.length==3&& !qbO (qhm s)))/\((s.all (at8 qAg)&&(s.length==3&& !qbO (qhm s)))=true->x=qhm s);cases ha:s.all (at8 qAg)
 ·rw[ha]at h1';refine⟨[],(biS (v:=w) ?_).trans rfl,fun h=>by cases h⟩;show pj 0 (qae (fun v=>(qhv v).ev) (s,[],smallL,bigL,0))=_;rw[h1'];rfl
 ·rw[ha]at h1';have hw:=h2 ha;subst hw;have h3:((s.length:Int)==3)=(s.length==3):=by
   rw[jC7,jB7,jB7];omega
  refine⟨qhm s,(biN ?_).trans ((biS (v:=(s,qhm s,smallL,bigL,(s.length:Int))) ?_).trans ?_),fun _=>rfl⟩
  ·show pj 0 (qae (fun v=>(qhv v).ev) (s,[],smallL,bigL,0))=_;rw[h1'];rfl
  ·show pj 1 (qae (fun v=>(qhv v).ev) (s,[],smallL,bigL,0))=_;rw[h1'];rfl
  ·show(DT.bi (br ((s.length:Int)==3) (br (sm (qe4 (qhm s))) (some !gv (qe4 (qhm s))) none) (some false)) (fun y1=>DT.at (qhm s,y1)) DT.no).ev=_;rw[quu,h3];cases(s.length==3)<;>rfl
theorem qnN(n k:Int):qjT n k=(!decide (n<1)&& !decide (n>k)):=by
 unfold qjT;rw[jC7];simp
abbrev HdD(x:In)(i:Int):qeF:=(i,ETr x.tiers,x.marg,x.basis,x.mode,x.keep)
theorem zcP{x:In}(hl:x.tiers.length<=big):qkh (ETr x.tiers) x.marg x.basis x.mode x.keep=some (qnq x):=by
 have hL:qvk (HdD x 0)=some (bif x.tiers.any (fun t=>!qjU t)then 0 else 1,HdD x ((x.tiers.findIdx fun t=>!qjU t:Nat):Int)):=by
  rw[qyX,<-qaP];refine qaH (hd:=fun i=>HdD x (i:Int)) (jx:=fun _=>0) _ 1 (fun i hn=>?_) ?_
  ·simp only[qoc,qqb,jA5,qaR hn,zgU hn,zjR hn,zjS hn,ev_br,br_eq,jAa,qan hn hl,qjU];have e1:decide (x.tiers[i].from_>=0)= !decide (x.tiers[i].from_<0):=by
    by_cases h:x.tiers[i].from_<0
    ·simp[h]
    ·simp[h];omega
   have e2:decide (x.tiers[i].ppm>=0)= !decide (x.tiers[i].ppm<0):=by
    by_cases h:x.tiers[i].ppm<0
    ·simp[h]
    ·simp[h];omega
   have e3:decide (x.tiers[i].ppm<=1000000)= !decide (x.tiers[i].ppm>1000000):=by
    by_cases h:x.tiers[i].ppm>1000000
    ·simp[h]
    ·simp[h];omega
   simp only[e1,e2,e3];cases decide (x.tiers[i].from_<0)<;>cases decide (x.tiers[i].ppm<0)<;>cases decide (x.tiers[i].ppm>1000000)<;>rfl
  ·simp[qoc,qqb]
 rw[qgt]at hL;simp only[HdD]at hL;rw[qPw,qs6,hL];unfold qnq;rw[qnN,qnN];by_cases b1:x.basis<1
 ·refine(brT (jA8 b1)).trans ?_;rw[jA8 b1];cases x.tiers.all qjU<;>rfl
 refine(brF (jAe b1)).trans ((biS qmD).trans ?_);by_cases b2:x.basis>4
 ·refine(brT (jA8 b2)).trans ?_;rw[jAe b1,jA8 b2];cases x.tiers.all qjU<;>rfl
 refine(brF (jAe b2)).trans ?_;by_cases b3:x.mode<1
 ·refine(brT (jA8 b3)).trans ?_;rw[jAe b1,jAe b2,jA8 b3];cases x.tiers.all qjU<;>rfl
 refine(brF (jAe b3)).trans ((biS qmE).trans ?_);by_cases b4:x.mode>6
 ·refine(brT (jA8 b4)).trans ?_;rw[jAe b1,jAe b2,jAe b3,jA8 b4];cases x.tiers.all qjU<;>rfl
 refine(brF (jAe b4)).trans ?_;rw[jAe b1,jAe b2,jAe b3,jAe b4];cases x.tiers.all qjU<;>rfl
abbrev HdV(p:Pr)(i:Int):qeA:=(i,p.name,p.cur,p.cal,p.from_,p.every,p.over,p.tax,ETr p.cr.tiers,p.cr.marg,p.cr.basis,p.cr.mode,p.cr.keep,ETr p.de.tiers,p.de.marg,p.de.basis,p.de.mode,p.de.keep,EF p.fees,ER p.rules)
theorem qIf{p:Pr}(hl:p.fees.length<=big)(hw:∀x∈p.fees,FeW x):qu3 (HdV p 0)=some (bif p.fees.any (fun x=>!feB x)then 0 else 1,HdV p ((p.fees.findIdx fun x=>!feB x:Nat):Int)):=by
 rw[qyr,<-qaP];refine qaH (hd:=fun i=>HdV p (i:Int)) (jx:=fun _=>0) _ 1 (fun i hn=>?_) ?_
 ·obtain⟨n1,n2⟩:=hw _ (jAi hn);simp only[qnU,qpH,jA5,qaR hn,Tk.okF hn,qf0 hn,qf1 hn,qf2 hn,qf3 hn,qf4 hn,qf5 hn,qf6 hn,qf7 hn,qf8 hn,qf9 hn,qgA,qi8,qgy n1,qgy n2,ev_bi_some,ev_br,jAa,qan hn hl,feB,bne,qnN,show((eventsL.length:Nat):Int)=4 from rfl];cases qcE p.fees[i].name<;>cases decide (p.fees[i].event<1)<;>cases decide (p.fees[i].event>4)<;>cases(qaL p.fees[i].when_==0)<;>cases(qaL p.fees[i].amount==0)<;>rfl
 ·simp[qnU,qpH]
theorem qIg{p:Pr}(hl:p.rules.length<=big)(hw:∀x∈p.rules,Wd x.amount):qu4 (HdV p 0)=some (bif p.rules.any (fun x=>!ruB x)then 0 else 1,HdV p ((p.rules.findIdx fun x=>!ruB x:Nat):Int)):=by
 rw[qys,<-qaP];refine qaH (hd:=fun i=>HdV p (i:Int)) (jx:=fun _=>0) _ 1 (fun i hn=>?_) ?_
 ·have n1:=hw _ (jAi hn);simp only[qnV,qpI,jA5,qaR hn,Tk.okR hn,qr0 hn,qr1 hn,qr2 hn,qr3 hn,qr4 hn,qr5 hn,qgA,qeh,qgy n1,ev_bi_some,ev_br,jAa,qan hn hl,ruB,bne,qnN,show((windowsL.length:Nat):Int)=3 from rfl];cases qcE p.rules[i].name<;>cases decide (p.rules[i].window<1)<;>cases decide (p.rules[i].window>3)<;>cases(qaL p.rules[i].amount==0)<;>rfl
 ·simp[qnV,qpI]
theorem qHp{p:Pr}(hs:Sml p)(w1:∀x∈p.fees,FeW x)(w2:∀x∈p.rules,Wd x.amount):qtT p.name p.cur p.cal p.from_ p.every p.over p.tax (ETr p.cr.tiers) p.cr.marg p.cr.basis p.cr.mode p.cr.keep (ETr p.de.tiers) p.de.marg p.de.basis p.de.mode p.de.keep (EF p.fees) (ER p.rules)=some (qzM p):=by
 obtain⟨x,hc,_⟩:=q45 hs.cur;have i1:=zcP (x:=p.cr) (by have:=hs.cr;simp only[big];omega);have i2:=zcP (x:=p.de) (by have:=hs.de;simp only[big];omega);have l0:=qIf (p:=p) (by have:=hs.fl;simp only[big];omega) w1;have l1:=qIg (p:=p) (by have:=hs.rl;simp only[big];omega) w2;rw[qgt]at l0 l1;have dg:decide (p.tax>1000000)= !decide (p.tax<=1000000):=by
  by_cases h:p.tax>1000000
  ·simp[h]
  ·simp[h];omega
 rw[qOi,qrN,hc,qgA,qgA,qui,i1,i2];simp only[sm_some,gv_some,ev_bi_some,qeY,zu9,dg,br_eq,jAa,cond_some];unfold qzM;generalize qFN p.cur=b1;generalize qcE p.name=b2;generalize qcE p.cal=b3;generalize (decide (p.from_>=0)&&decide (p.from_<=73048))=b4;generalize decide (p.every>=0)=b5;generalize decide (p.over>=0)=b6;generalize decide (p.tax>=0)=b7;generalize decide (p.tax<=1000000)=b8;generalize qnq p.cr=b9;generalize qnq p.de=b10;cases b1
 ·rfl
 cases b2
 ·rfl
 cases b3
 ·rfl
 cases b4
 ·rfl
 cases b5
 ·rfl
 cases b6
 ·rfl
 cases b7
 ·rfl
 cases b8
 ·rfl
 cases b9
 ·rfl
 cases b10
 ·rfl
 refine(brF rfl).trans ?_;simp only[HdV]at l0 l1;rw[l0];cases p.fees.all feB
 ·rfl
 ·refine(biN (by rfl)).trans ((biS (v:=HdV p ((p.fees.findIdx fun x=>!feB x:Nat):Int)) (by rfl)).trans ?_);simp only[HdV];rw[l1];cases p.rules.all ruB<;>rfl
end Go.Proofs.H16
namespace Go.Proofs.H16
open Go Go.Eng Go.Tk
set_option maxRecDepth 20000
theorem qa7(k:Int)(s:Bs):qaV k s=some (k,1,s):=by rw[qO4,qsD];rfl
theorem qHZ{o:Int}(h1:1<=o)(h2:o<=19):qgI o=some (qaO o:Int):=by
 have:o=1\/o=2\/o=3\/o=4\/o=5\/o=6\/o=7\/o=8\/o=9\/o=10\/o=11\/o=12\/o=13\/o=14\/o=15\/o=16\/o=17\/o=18\/o=19:=by omega
 rcases this with rfl|rfl|rfl|rfl|rfl|rfl|rfl|rfl|rfl|rfl|rfl|rfl|rfl|rfl|rfl|rfl|rfl|rfl|rfl<;>(rw[qla,qjC];rfl)
theorem qH2{o:Int}(h1:5<=o)(h2:o<=15)(h9:o≠9):qkg o=some (qcr (qdY o),1,qdY o):=by
 rw[qPp,qsY];simp only[qa7];rcases qnC h1 h2 h9 with rfl|rfl|rfl|rfl|rfl|rfl|rfl|rfl|rfl|rfl<;>rfl
theorem qH0{o n:Int}{s:Bs}{A:List AV}(h4:o=1\/o=2\/o=3\/o=4)(h0:0<=n)(h1:n<=qe6 o):quy o n s A=some (ET (qxw o n s)):=by
 rw[qPm,qsW];simp only[qa7];rcases h4 with rfl|rfl|rfl|rfl
 ·exact(brT rfl).trans ((biS (qmL h0 (by simpa[qe6]using h1))).trans ((biS rfl).trans rfl))
 ·have h2:n<=1000000000000:=by simpa[qe6]using h1
  exact(brF rfl).trans ((brT rfl).trans ((biS rfl).trans ((biS (qmL h0 (by omega))).trans ((biS rfl).trans rfl))))
 ·refine(brF rfl).trans ((brF rfl).trans ((brT rfl).trans ((biS (qtZ n)).trans ((biS rfl).trans ?_))));have hp:(qQh n).1=qiJ n.toNat:=by
   have h3:n<=1000000:=by simpa[qe6]using h1
   have e:(decide (n<0)||decide (n>1000000))=false:=by rw[jAe (by omega),jAe (by omega)];rfl
   unfold qQh;rw[e];rfl
  show some [AV.agg [AV.int .i64 3,AV.int .i64 1,AV.str (qQh n).1]]=_;rw[hp];rfl
 ·exact(brF rfl).trans ((brF rfl).trans ((brF rfl).trans ((biS rfl).trans rfl)))
theorem q3g:∀e:Ex,wrB e≠ []
 | .mk o n s []=>by
  simp only[wrB,qxw]
  (repeat' split)<;>simp
 | .mk o n s [a]=>by simp[wrB]
 | .mk o n s [a,b]=>by
  simp only[wrB];split<;>simp
 | .mk o n s (a::b::c::m)=>by simp[wrB]
theorem qci(r:Nat)(e:Ex):par r e≠ []:=by
 unfold par qQe;split
 ·simp
 ·exact q3g e
theorem qNr{l:List Tok}(h:l≠ []):(decide ((ET l).length=0)&&decide (3=3))=false:=by
 have:(ET l).length≠0:=by rw[jA5];exact fun h'=>h (jAy.1 h')
 rw[jAe this];rfl
theorem qNs{l:List Tok}(h:l≠ []){n:Nat}(hn:n<=10000000):(decide ((ET l).length≠0)&&room n 32)=true:=by
 have h0:(ET l).length≠0:=by rw[jA5];exact fun h'=>h (jAy.1 h')
 have h1:room n 32=true:=qcm (by simp only[lim,Prod.i,Prod.h,Prod.f];omega);rw[jA8 h0,h1];rfl
theorem qC0{n:Nat}(hn:n<=10000000):room n 32=true:=qcm (by simp only[lim,Prod.i,Prod.h,Prod.f];omega)
theorem tkA(k:Int)(s:Bs):(mkT k s).av=AV.agg [AV.int .i64 k,AV.int .i64 1,AV.str s]:=rfl
theorem qJy:∀e:Ex,e.allX qaM=true-> ∀K,2*e.dep<=K->7*e.nodes<=1000000-> ∀r:Nat,qbv K e.op e.num e.txt (EX e.args) (r:Int)=some (ET (par r e)):=by
 intro e
 induction e using Ex.ind with
 |h o n s l ih=>
  intro hf K hK hbig r;have hdep:(Ex.mk o n s l).dep=Ex.depL l+1:=by simp[Ex.dep]
  have hnod:(Ex.mk o n s l).nodes=1+Ex.nodesL l:=by simp only[Ex.nodes];try omega
  rw[hnod]at hbig;obtain⟨J,rfl⟩:∃J,K=J+2:=⟨K-2,by omega⟩;rw[Ex.allX_eq,jA1,jAb]at hf;obtain⟨hop,hn0,hn1,htx⟩:=qen hf.1;simp only[Ex.op,Ex.args,Ex.num,Ex.txt]at hop hn0 hn1 htx ⊢;have ho:1<=o/\o<=19:=by
   unfold qaJ at hop
   (repeat' split at hop)<;>omega
  have hrk:=qHZ ho.1 ho.2;have hr8:=qBv o;have base:∀J,Ex.depL l*2<=J-> ∀r:Nat,r<=qaO o->qbv (J+1) o n s (EX l) (r:Int)=some (ET (wrB (.mk o n s l))):=by
   intro J hJ r hr;have hA:∀(i:Nat) (hi:i<l.length) (r:Nat),qbv J (intOf (cellAt (EX l) (i:Int) 0)) (intOf (cellAt (EX l) (i:Int) 1)) (strOf (cellAt (EX l) (i:Int) 2)) (qap (cellAt (EX l) (i:Int) 3)) (r:Int)=some (ET (par r l[i])):=by
    intro i hi r;rw[qx0 hi,qx1 hi,qx2 hi,qx3 hi];have hx:=jAi hi;have h2:=Ex.depL_mem hx;have h3:=Ex.nodesL_mem hx;exact ih l[i] hx (hf.2 _ hx) J (by omega) (by omega) r
   show(qlT (qbv J) o n s (EX l) (r:Int)).ev=_;unfold qlT;have hlt:decide (((qaO o:Nat):Int)<(r:Int))=false:=jAe (by omega);refine(biS hrk).trans ((brF hlt).trans ?_)
   match l,hop,hA,hbig with
   | [],hop,hA,hbig=>
    have h4:o=1\/o=2\/o=3\/o=4:=by
     simp only[jA4,qaJ]at hop
     (repeat' split at hop)<;>omega
    refine(brT rfl).trans ((biS (qH0 h4 hn0 hn1)).trans ?_);rw[qcQ rfl];rfl
   | [a],hop,hA,hbig=>
    have h4:o=9\/o=16:=by
     simp only[jA0,jA4,qaJ]at hop
     (repeat' split at hop)<;>omega
    simp only[Ex.nodesL]at hbig;have ok0:qaD ksX (EX [a]) 0=true:=okX (l:=[a]) (n:=0) (by simp);have hA0:∀r:Nat,qbv J (intOf (cellAt (EX [a]) 0 0)) (intOf (cellAt (EX [a]) 0 1)) (strOf (cellAt (EX [a]) 0 2)) (qap (cellAt (EX [a]) 0 3)) (r:Int)=some (ET (par r a)):=fun r=>hA 0 (by simp) r
    rcases h4 with rfl|rfl
    ·have w:=qbz 7 a;refine(brF rfl).trans ((brF rfl).trans ((biS (v:=false) rfl).trans ((brF rfl).trans ((brF rfl).trans ((brT rfl).trans ((biS (qa7 _ _)).trans ((brT ok0).trans ((biS (hA0 7)).trans ((brF (qNr (qci _ _))).trans ((brT (qNs (qci _ _) ?_)).trans ?_))))))))))
     ·simp only[jA0,jA2,jA4,jA5];omega
     ·rw[qjQ rfl];rfl
    ·have w:=qbz 3 a;refine(brF rfl).trans ((brF rfl).trans ((biS (v:=false) rfl).trans ((brF rfl).trans ((brT rfl).trans ((biS (qa7 _ _)).trans ((brT ok0).trans ((biS (hA0 3)).trans ((brF (qNr (qci _ _))).trans ((brT (qNs (qci _ _) ?_)).trans ?_)))))))))
     ·simp only[jA0,jA2,jA4,jA5];omega
     ·rw[qjQ rfl];rfl
   | [a,b],hop,hA,hbig=>
    obtain⟨g1,g2,g3,g4⟩:=qqY (e:=.mk o n s [a,b]) hop rfl;simp only[Ex.op]at g1 g2 g3 g4;simp only[Ex.nodesL]at hbig;have na:=ql8 a;have nb:=ql8 b;have ok0:qaD ksX (EX [a,b]) 0=true:=okX (l:=[a,b]) (n:=0) (by simp);have ok1:qaD ksX (EX [a,b]) 1=true:=okX (l:=[a,b]) (n:=1) (by simp);have hA0:∀r:Nat,qbv J (intOf (cellAt (EX [a,b]) 0 0)) (intOf (cellAt (EX [a,b]) 0 1)) (strOf (cellAt (EX [a,b]) 0 2)) (qap (cellAt (EX [a,b]) 0 3)) (r:Int)=some (ET (par r a)):=fun r=>hA 0 (by simp) r
    have hA1:∀r:Nat,qbv J (intOf (cellAt (EX [a,b]) 1 0)) (intOf (cellAt (EX [a,b]) 1 1)) (strOf (cellAt (EX [a,b]) 1 2)) (qap (cellAt (EX [a,b]) 1 3)) (r:Int)=some (ET (par r b)):=fun r=>hA 1 (by simp) r
    have ne:∀k:Int,o≠k->(o==k)=false:=fun k h=>by simpa using h
    have pa:=qbz 0 a;have pb:=qbz 0 b;by_cases h17:o=17
    ·subst h17;refine(brF rfl).trans ((brF rfl).trans ((biS (v:=true) rfl).trans ((brT rfl).trans ((brF rfl).trans ((biS (qa7 _ _)).trans ((biS (qa7 _ _)).trans ((brT ok0).trans ((biS (hA0 0)).trans ((brF (qNr (qci _ _))).trans ((brT (qNs (qci _ _) ?_)).trans ((biS (qa7 _ _)).trans ((brT (qC0 ?_)).trans ((brT ok1).trans ((biS (hA1 0)).trans ((brF (qNr (qci _ _))).trans ((brT (qNs (qci _ _) ?_)).trans ((biS (qa7 _ _)).trans ((brT (qC0 ?_)).trans ?_))))))))))))))))))
     ·simp only[jA0,jA2,jA4,jA5];omega
     ·simp only[jA0,jA2,jA4,jA5];omega
     ·simp only[jA0,jA2,jA4,jA5];omega
     ·simp only[jA0,jA2,jA4,jA5];omega
     ·rw[qg4 (e:=.mk 17 n s [a,b]) rfl (.inl rfl)];simp only[ev_at,qdf,jAs,jCi,jCe,jAf,jAk,jAx];rfl
    by_cases h18:o=18
    ·subst h18;refine(brF rfl).trans ((brF rfl).trans ((biS (v:=true) rfl).trans ((brT rfl).trans ((brT rfl).trans ((biS (qa7 _ _)).trans ((biS (qa7 _ _)).trans ((brT ok0).trans ((biS (hA0 0)).trans ((brF (qNr (qci _ _))).trans ((brT (qNs (qci _ _) ?_)).trans ((biS (qa7 _ _)).trans ((brT (qC0 ?_)).trans ((brT ok1).trans ((biS (hA1 0)).trans ((brF (qNr (qci _ _))).trans ((brT (qNs (qci _ _) ?_)).trans ((biS (qa7 _ _)).trans ((brT (qC0 ?_)).trans ?_))))))))))))))))))
     ·simp only[jA0,jA2,jA4,jA5];omega
     ·simp only[jA0,jA2,jA4,jA5];omega
     ·simp only[jA0,jA2,jA4,jA5];omega
     ·simp only[jA0,jA2,jA4,jA5];omega
     ·rw[qg4 (e:=.mk 18 n s [a,b]) rfl (.inr rfl)];simp only[ev_at,qdf,jAs,jCi,jCe,jAf,jAk,jAx];rfl
    have hw:IntKind.i64.wrap (((qaO o:Nat):Int)+1)=((qaO o+1:Nat):Int):=by rw[wrap64 (by omega) (by omega)];omega
    have p2:=qbz (qaO o+1) b;have sg:=qH2 g1 (by omega) g3;have e19:o≠19:=by omega
    refine(brF rfl).trans ((brF (ne 19 e19)).trans ((biS (v:=false) (by rw[ne 17 h17,ne 18 h18];rfl)).trans ((brF rfl).trans ((brF (ne 16 g4)).trans ((brF (ne 9 g3)).trans ?_)))));have fin:some (ET (par (qdE o) a)++[AV.agg [AV.int .i64 (qcr (qdY o)),AV.int .i64 1,AV.str (qdY o)]]++ET (par (qaO o+1) b))=some (ET (wrB (.mk o n s [a,b]))):=by
     rw[qov (e:=.mk o n s [a,b]) rfl h17 h18];simp only[Ex.op,jCi,jAs,jAf,jAk,jAx];rfl
    by_cases h4:qaO o=4
    ·have hc:(((qaO o:Nat):Int)==4)=true:=by rw[h4];rfl
     have hl:qdE o=5:=by unfold qdE;rw[jAr h4]
     have p1:=qbz 5 a;rw[hl]at fin;refine(brT hc).trans ((brT ok0).trans ((biS (hA0 5)).trans ((brF (qNr (qci _ _))).trans ((brT (qNs (qci _ _) ?_)).trans ((biS sg).trans ((brT (qC0 ?_)).trans ((brT ok1).trans ?_)))))))
     ·simp only[jA0,jA2,jA4,jA5];omega
     ·simp only[jA0,jA2,jA4,jA5];omega
     ·rw[hw];refine(biS (hA1 (qaO o+1))).trans ((brF (qNr (qci _ _))).trans ((brT (qNs (qci _ _) ?_)).trans ?_))
      ·simp only[jA0,jA2,jA4,jA5];omega
      ·exact fin
    ·have hc:(((qaO o:Nat):Int)==4)=false:=by simp;omega
     have hl:qdE o=qaO o:=by unfold qdE;rw[jAm h4]
     have p1:=qbz (qaO o) a;rw[hl]at fin;refine(brF hc).trans ((brT ok0).trans ((biS (hA0 (qaO o))).trans ((brF (qNr (qci _ _))).trans ((brT (qNs (qci _ _) ?_)).trans ((biS sg).trans ((brT (qC0 ?_)).trans ((brT ok1).trans ?_)))))))
     ·simp only[jA0,jA2,jA4,jA5];omega
     ·simp only[jA0,jA2,jA4,jA5];omega
     ·rw[hw];refine(biS (hA1 (qaO o+1))).trans ((brF (qNr (qci _ _))).trans ((brT (qNs (qci _ _) ?_)).trans ?_))
      ·simp only[jA0,jA2,jA4,jA5];omega
      ·exact fin
   |a::b::c::d,hop,hA,hbig=>
    have h19:o=19/\d= []:=by
     simp only[jA0,qaJ]at hop
     (repeat' split at hop)<;>first|omega|(refine⟨by assumption,jAy.1 (by omega)⟩)
    obtain⟨rfl,rfl⟩:=h19;simp only[Ex.nodesL]at hbig;have pa:=qbz 0 a;have pb:=qbz 0 b;have pc:=qbz 0 c;have ok0:qaD ksX (EX [a,b,c]) 0=true:=okX (l:=[a,b,c]) (n:=0) (by simp);have ok1:qaD ksX (EX [a,b,c]) 1=true:=okX (l:=[a,b,c]) (n:=1) (by simp);have ok2:qaD ksX (EX [a,b,c]) 2=true:=okX (l:=[a,b,c]) (n:=2) (by simp);have hA0:∀r:Nat,qbv J (intOf (cellAt (EX [a,b,c]) 0 0)) (intOf (cellAt (EX [a,b,c]) 0 1)) (strOf (cellAt (EX [a,b,c]) 0 2)) (qap (cellAt (EX [a,b,c]) 0 3)) (r:Int)=some (ET (par r a)):=fun r=>hA 0 (by simp) r
    have hA1:∀r:Nat,qbv J (intOf (cellAt (EX [a,b,c]) 1 0)) (intOf (cellAt (EX [a,b,c]) 1 1)) (strOf (cellAt (EX [a,b,c]) 1 2)) (qap (cellAt (EX [a,b,c]) 1 3)) (r:Int)=some (ET (par r b)):=fun r=>hA 1 (by simp) r
    have hA2:∀r:Nat,qbv J (intOf (cellAt (EX [a,b,c]) 2 0)) (intOf (cellAt (EX [a,b,c]) 2 1)) (strOf (cellAt (EX [a,b,c]) 2 2)) (qap (cellAt (EX [a,b,c]) 2 3)) (r:Int)=some (ET (par r c)):=fun r=>hA 2 (by simp) r
    have L1:qgM (qbv J) (Sum.inl (0,19,n,s,EX [a,b,c],[AV.str [105,102],AV.str [116,104,101,110],AV.str [101,108,115,101]]))=qgM (qbv J) (Sum.inr (1,19,n,s,EX [a,b,c],(ET (wT [105,102]::par 0 a)),[AV.str [105,102],AV.str [116,104,101,110],AV.str [101,108,115,101]])):=by
     rw[qdx,qdx];refine qal ((brT rfl).trans ((brT rfl).trans ((brT rfl).trans ((biS (qa7 _ _)).trans ((brT ok0).trans ((biS (hA0 0)).trans ((brF (qNr (qci _ _))).trans ((brT (qNs (qci _ _) ?_)).trans rfl))))))));simp only[jA0,jA2,jA4,jA5];omega
    have L2:qgM (qbv J) (Sum.inr (1,19,n,s,EX [a,b,c],(ET (wT [105,102]::par 0 a)),[AV.str [105,102],AV.str [116,104,101,110],AV.str [101,108,115,101]]))=qgM (qbv J) (Sum.inr (2,19,n,s,EX [a,b,c],(ET (wT [105,102]::par 0 a++wT [116,104,101,110]::par 0 b)),[AV.str [105,102],AV.str [116,104,101,110],AV.str [101,108,115,101]])):=by
     rw[qdx,qdx];refine qal ((brT rfl).trans ((brT rfl).trans ((brT rfl).trans ((biS (qa7 _ _)).trans ((brT (qC0 ?_)).trans ((brT ok1).trans ((biS (hA1 0)).trans ((brF (qNr (qci _ _))).trans ((brT (qNs (qci _ _) ?_)).trans ?_)))))))))
     ·simp only[jA0,jA2,jA4,jA5];omega
     ·simp only[jA0,jA2,jA4,jA5];omega
     ·simp only[ev_at,jCi,jAs,jAf,jAk,jAx];rfl
    have L3:qgM (qbv J) (Sum.inr (2,19,n,s,EX [a,b,c],(ET (wT [105,102]::par 0 a++wT [116,104,101,110]::par 0 b)),[AV.str [105,102],AV.str [116,104,101,110],AV.str [101,108,115,101]]))=qgM (qbv J) (Sum.inr (3,19,n,s,EX [a,b,c],(ET (wT [105,102]::par 0 a++wT [116,104,101,110]::par 0 b++wT [101,108,115,101]::par 0 c)),[AV.str [105,102],AV.str [116,104,101,110],AV.str [101,108,115,101]])):=by
     rw[qdx,qdx];refine qal ((brT rfl).trans ((brT rfl).trans ((brT rfl).trans ((biS (qa7 _ _)).trans ((brT (qC0 ?_)).trans ((brT ok2).trans ((biS (hA2 0)).trans ((brF (qNr (qci _ _))).trans ((brT (qNs (qci _ _) ?_)).trans ?_)))))))))
     ·simp only[jA0,jA2,jA4,jA5];omega
     ·simp only[jA0,jA2,jA4,jA5];omega
     ·simp only[ev_at,jCi,jAs,jAf,jAk,jAx];rfl
    have L4:qgM (qbv J) (Sum.inl (0,19,n,s,EX [a,b,c],[AV.str [105,102],AV.str [116,104,101,110],AV.str [101,108,115,101]]))=some (1,(Sum.inr (3,19,n,s,EX [a,b,c],(ET (wT [105,102]::par 0 a++wT [116,104,101,110]::par 0 b++wT [101,108,115,101]::par 0 c)),[AV.str [105,102],AV.str [116,104,101,110],AV.str [101,108,115,101]]))):=by
     rw[L1,L2,L3,qdx];exact qaf ((brF rfl).trans rfl)
    refine(brF rfl).trans ((brT rfl).trans ((biN (pj0 L4)).trans ((biS (pj1 L4)).trans ?_)));rw[qFE (e:=.mk 19 n s [a,b,c]) rfl];simp only[qdf];show some (ET (wT [105,102]::wrB a++wT [116,104,101,110]::wrB b++wT [101,108,115,101]::wrB c))=_;simp
  by_cases hr:r<=qaO o
  ·rw[base (J+1) (by omega) r hr,qfd hr]
  ·have hb:=base J (by omega) 0 (jBa _);show(qlT (qbv (J+1)) o n s (EX l) (r:Int)).ev=_;unfold qlT;have hwl:=qiG (.mk o n s l);rw[hnod]at hwl;have hlt:decide (((qaO o:Nat):Int)<(r:Int))=true:=jA8 (by omega);refine(biS hrk).trans ((brT hlt).trans ((biS (qa7 _ _)).trans ((biS hb).trans ((brF (qNr (q3g _))).trans ((brT (qNs (q3g _) ?_)).trans ((biS (qa7 _ _)).trans ((brT (qC0 ?_)).trans ?_)))))))
   ·simp only[jA0,jA2,jA4,jA5];omega
   ·simp only[jA0,jA2,jA4,jA5];omega
   ·rw[qvW (by simp only[Ex.op];omega)];simp only[jAs,jCi,jCe];rfl
theorem qHu{e:Ex}(hf:e.allX qaM=true)(hb:7*e.nodes<=1000000):qAt e.op e.num e.txt (EX e.args) 0=some (ET (wrB e)):=by
 rw[<-qdf e];exact qdo (n:=2*e.dep) fun m hm=>qJy e hf m hm hb 0
end Go.Proofs.H16
namespace Go.Proofs.H16
open Go Go.Eng Go.Tk
set_option maxRecDepth 20000
theorem zjU{k ln m:Int}{s:Bs}(hm:ln=m){L:List AV}{acc:List Tok}(hL:L=ET acc)(hl:acc.length<1000000):qhO L ln k s=some (ET (acc++[⟨k,m,s⟩]),m):=by
 subst hm;subst hL;rw[qPD,qtd];cases acc with
 |nil=>exact(brT rfl).trans rfl
 |cons t acc=>
  have h1:(decide ((ET (t::acc)).length=0)&&decide (3=3))=false:=by simp
  have h2:(decide ((ET (t::acc)).length≠0)&&room (ET (t::acc)).length 32)=true:=by
   rw[qcm (by rw[jA5];simp only[lim,Prod.i,Prod.h,Prod.f];omega)];simp
  exact(brF h1).trans ((brT h2).trans ((brT (qpu rfl (by omega))).trans (congrArg some (Prod.ext (qhU rfl rfl rfl) rfl))))
theorem qxz{ln m:Int}{s:Bs}(hm:ln=m){L:List AV}{acc:List Tok}(hL:L=ET acc)(hl:acc.length<1000000):qbo L ln s=some (ET (acc++[⟨5,m,s⟩]),m):=by
 rw[qPy,qs8];exact(biS (zjU hm hL hl)).trans rfl
theorem q2A{ln m:Int}{s:Bs}(hm:ln=m){L:List AV}{acc:List Tok}(hL:L=ET acc)(hl:acc.length<1000000):qja L ln s=some (ET (acc++[⟨1,m,s⟩]),m):=by
 rw[qPt,qs3];exact(biS (zjU hm hL hl)).trans rfl
theorem qjS{ln m:Int}{s:Bs}(hm:ln=m){L:List AV}{acc:List Tok}(hL:L=ET acc)(hl:acc.length<1000000):qbi L ln s=some (ET (acc++[⟨4,m,s⟩]),m):=by
 rw[qPs,qs2];exact(biS (zjU hm hL hl)).trans rfl
theorem qBC{ln m:Int}{s:Bs}(hm:ln+1=m)(h0:0<=m/\m<=1000000){L:List AV}{acc:List Tok}(hL:L=ET acc)(hl:acc.length<1000000):qcK L ln s=some (ET (acc++[⟨5,m,s⟩]),m):=by
 rw[qPr,qs1,qzJ hm h0];exact(biS (qxz rfl hL hl)).trans rfl
theorem zjT{n ln m:Int}(hn:0<=n/\n<=9223372036854775807)(hm:ln=m){L:List AV}{acc:List Tok}(hL:L=ET acc)(hl:acc.length<1000000):qhM L ln n=some (ET (acc++[⟨2,m,Lib.itoa n⟩]),m):=by
 rw[qOQ,qsp];exact(biS (qmL hn.1 hn.2)).trans ((biS (zjU hm hL hl)).trans rfl)
theorem zmV{n ln m:Int}(hn:0<=n/\n<=1000000)(hm:ln=m){L:List AV}{acc:List Tok}(hL:L=ET acc)(hl:acc.length<1000000):qo0 L ln n=some (ET (acc++[⟨3,m,qiJ n.toNat⟩]),m):=by
 rw[qPv,qs5];refine(biS (qtZ n)).trans ?_;rw[qZ2 hn];exact(biS (zjU hm hL hl)).trans rfl
theorem grow(acc:List Tok)(l:List Tok):∃a,a=acc++l/\a.length=acc.length+l.length:=⟨_,rfl,jA2 ..⟩
abbrev q8Y(x:In)(ln i:Int)(acc:List Tok):qdM:=(i,ET acc,ln,ETr x.tiers,x.marg,x.basis,x.mode,x.keep,0)
theorem zdl(x:In){ln ln' i i':Int}{L:List AV}{acc:List Tok}(h1:i=i')(h2:ln=ln')(h3:L=ET acc):((i,L,ln,ETr x.tiers,x.marg,x.basis,x.mode,x.keep,0):qdM)=q8Y x ln' i' acc:=by subst h1;subst h2;subst h3;rfl
theorem q6a{x:In}(ht:∀t∈x.tiers,qjP t){ln:Int}{acc:List Tok}(h0:0<=ln)(hb:ln+x.tiers.length<=999999)(hl:acc.length+(qcp (ln+1) x.tiers).length<=1000000) :
  qje (q8Y x ln 0 acc)=some (0,q8Y x (ln+(x.tiers.length:Int)) (x.tiers.length:Int) (acc++qcp (ln+1) x.tiers)):=by
 rw[qqg,qif]at hl ⊢;have e0:q8Y x ln 0 acc=q8Y x (ln+((0:Nat):Int)) ((0:Nat):Int) acc:=by simp
 rw[qyt,e0];refine qgu (hd:=fun n acc=>q8Y x (ln+(n:Int)) (n:Int) acc) (fun n=>qm4 (ln+1+(n:Int))) 0 (fun n hn acc hl'=>?_) (fun acc=>?_) hl
 ·obtain⟨q1,q2,q3,q4⟩:=ht _ (jAi hn);have hl5:acc.length+5<=1000000:=hl';have e:ln+1+(n:Int)=ln+((n+1:Nat):Int):=by omega
  obtain⟨a1,e1,n1⟩:=qeR acc ⟨4,ln+1+(n:Int),[36]⟩;have h1:=qjS (ln:=ln+1+(n:Int)) (s:=[36]) rfl (L:=ET acc) rfl (by omega);rw[<-e1]at h1;obtain⟨a2,e2,n2⟩:=qeR a1 ⟨2,ln+1+(n:Int),Lib.itoa x.tiers[n].from_⟩;have h2:=zjT (ln:=ln+1+(n:Int)) ⟨q1,q2⟩ rfl (L:=ET a1) rfl (by omega);rw[<-e2]at h2;obtain⟨a3,e3,n3⟩:=qeR a2 ⟨4,ln+1+(n:Int),[58]⟩;have h3:=qjS (ln:=ln+1+(n:Int)) (s:=[58]) rfl (L:=ET a2) rfl (by omega);rw[<-e3]at h3;obtain⟨a4,e4,n4⟩:=qeR a3 ⟨3,ln+1+(n:Int),qiJ x.tiers[n].ppm.toNat⟩;have h4:=zmV (ln:=ln+1+(n:Int)) ⟨q3,q4⟩ rfl (L:=ET a3) rfl (by omega);rw[<-e4]at h4;have h5:=qjS (ln:=ln+1+(n:Int)) (s:=[59]) rfl (L:=ET a4) rfl (by omega);have fin:a4++[⟨4,ln+1+(n:Int),[59]⟩]=acc++qm4 (ln+1+(n:Int)) x.tiers[n]:=by
   rw[e4,e3,e2,e1];simp only[qm4,lnT,jAs,jCe,jAf,jAk,jAx]
  have hw2:IntKind.i64.wrap (ln+(n:Int)+1)=ln+1+(n:Int):=qzJ (by omega) ⟨by omega,by omega⟩;show(qin (n:Int) (ET acc) (ln+(n:Int)) (ETr x.tiers) x.marg x.basis x.mode x.keep 0).ev=_;unfold qin;rw[zjR hn,zjS hn,hw2];refine(brT (by rw[jA5,qaR hn])).trans ((biS h1).trans ((brT (zgU hn)).trans ((biS h2).trans ((biS h3).trans ((brT (zgU hn)).trans ((biS h4).trans ((biS h5).trans ?_)))))));exact congrArg (fun z=>some (Rd.next z)) (zdl x (qan hn (by simp only[big];omega)) e (congrArg ET fin))
 ·show(qin _ _ _ _ _ _ _ _ _).ev=_;unfold qin;exact(brF (by simp)).trans rfl
theorem zoi{w:Bs}{x:In}(hx:q55 x){ln:Int}{acc:List Tok}(h0:0<=ln)(hb:ln+x.tiers.length<=900000)(hl:acc.length+(inT w (ln+1) x).length<=1000000) :
    qoK (ET acc) ln w (ETr x.tiers) x.marg x.basis x.mode x.keep=some (ET (acc++inT w (ln+1) x),ln+2+(x.tiers.length:Int)):=by
  obtain⟨ht,b1,b2,b3,b4⟩:=hx;have rb:qjT x.basis 4=true:=by unfold qjT;rw[jA8 b1,jA8 b2];rfl
  have rm:qjT x.mode 6=true:=by unfold qjT;rw[jA8 b3,jA8 b4];rfl
  obtain⟨o1,s1⟩:=qqD (ws:=qd3) rb rfl (by decide);obtain⟨o2,s2⟩:=qqD (ws:=qd7) rm rfl (by decide);have hlen:=hl;rw[qmQ]at hlen;obtain⟨hw,ehw⟩:∃hw:Bs,hw=bif x.marg then[109,97,114,103,105,110,97,108]else[119,104,111,108,101]:=⟨_,rfl⟩;obtain⟨rw',erw⟩:∃rw':Bs,rw'=bif x.keep then[107,101,101,112]else[100,114,111,112]:=⟨_,rfl⟩;have l1:=qBC (ln:=ln) (s:=w) (m:=ln+1) rfl ⟨by omega,by omega⟩ (L:=ET acc) rfl (by omega);obtain⟨a1,e1,n1⟩:=qeR acc ⟨5,ln+1,w⟩;rw[<-e1]at l1;have l2:=qxz (ln:=ln+1) (s:=hw) rfl (L:=ET a1) rfl (by omega);obtain⟨a2,e2,n2⟩:=qeR a1 ⟨5,ln+1,hw⟩;rw[<-e2]at l2;have l3:=qxz (ln:=ln+1) (s:=strOf (cellAt (ES qd3) (IntKind.i64.wrap (x.basis-1)) 0)) rfl (L:=ET a2) rfl (by omega);obtain⟨a3,e3,n3⟩:=qeR a2 ⟨5,ln+1,strOf (cellAt (ES qd3) (IntKind.i64.wrap (x.basis-1)) 0)⟩;rw[<-e3]at l3;have l4:=qxz (ln:=ln+1) (s:=strOf (cellAt (ES qd7) (IntKind.i64.wrap (x.mode-1)) 0)) rfl (L:=ET a3) rfl (by omega);obtain⟨a4,e4,n4⟩:=qeR a3 ⟨5,ln+1,strOf (cellAt (ES qd7) (IntKind.i64.wrap (x.mode-1)) 0)⟩;rw[<-e4]at l4;have l5:=qxz (ln:=ln+1) (s:=rw') rfl (L:=ET a4) rfl (by omega);obtain⟨a5,e5,n5⟩:=qeR a4 ⟨5,ln+1,rw'⟩;rw[<-e5]at l5;have l6:=qjS (ln:=ln+1) (s:=[123]) rfl (L:=ET a5) rfl (by omega);obtain⟨a6,e6,n6⟩:=qeR a5 ⟨4,ln+1,[123]⟩;rw[<-e6]at l6;have htl:(qcp (ln+1+1) x.tiers).length=5*x.tiers.length:=by
    have:=qmQ w (ln+1) x;simp only[inT,jA2,lnT,jA5,jA0,jA4]at this;omega
  have h2:=q6a (x:=x) ht (ln:=ln+1) (acc:=a6) (by omega) (by omega) (by omega);obtain⟨a7,e7,n7⟩:=grow a6 (qcp (ln+1+1) x.tiers);rw[<-e7]at h2;have e:ln+1+1+(x.tiers.length:Int)=ln+2+(x.tiers.length:Int):=by omega
  have l8:=qjS (ln:=ln+2+(x.tiers.length:Int)) (s:=[125]) rfl (L:=ET a7) rfl (by omega);have fin:a7++[⟨4,ln+2+(x.tiers.length:Int),[125]⟩]=acc++inT w (ln+1) x:=by
    rw[e7,e6,e5,e4,e3,e2,e1,s1,s2,ehw,erw];unfold inT;rw[e];simp only[lnT,jAs,jCe,jAf,jAk,jAx]
  have h2':pj 0 (qje (q8Y x (ln+1) 0 a6))=some (q8Y x (ln+1+(x.tiers.length:Int)) (x.tiers.length:Int) a7):=by
    rw[h2];rfl
  have hwr:IntKind.i64.wrap (ln+1+(x.tiers.length:Int)+1)=ln+2+(x.tiers.length:Int):=qzJ (by omega) ⟨by omega,by omega⟩;rw[qOj,qrO,<-fin];have fold:∀{kw kr:Bs} (_:hw=kw) (_:rw'=kr),(DT.bi (qcK (ET acc) ln w) (fun y0=>
      .bi (qbo y0.fst y0.snd kw) (fun y1=>
       .bi (qgG) (fun y2=>
        .br (qaD [CS.str] y2 (IntKind.i64.wrap (x.basis-1)))
         (.bi (qbo y1.fst y1.snd (strOf (cellAt y2 (IntKind.i64.wrap (x.basis - 1)) 0))) (fun y3=>
          .bi (qgH) (fun y4=>
           .br (qaD [CS.str] y4 (IntKind.i64.wrap (x.mode-1)))
            (.bi (qbo y3.fst y3.snd (strOf (cellAt y4 (IntKind.i64.wrap (x.mode - 1)) 0))) (fun y5=>
             .bi (qbo y5.fst y5.snd kr) (fun y6=>
              .bi (qbi y6.fst y6.snd [123]) (fun y7=>
               .bi (pj 0 (qje (0,y7.fst,y7.snd,ETr x.tiers,x.marg,x.basis,x.mode,x.keep,0))) (fun y8=>
                .bi (qbi y8.snd.fst (IntKind.i64.wrap (y8.snd.snd.fst+1)) [125]) (fun y9=>
                 .at ((y9.fst,y9.snd)))
                 (.no)) (.no)) (.no)) (.no)) (.no)) (.no)) (.no)) (.no)) (.no)) (.no)) (.no)) (.no):DT qFU).ev=some (ET (a7++[⟨4,ln+2+(x.tiers.length:Int),[125]⟩]),ln+2+(x.tiers.length:Int)):=by
    rintro kw kr rfl rfl;refine(biS l1).trans ((biS l2).trans ((biS qmD).trans ((brT o1).trans ((biS l3).trans ((biS qmE).trans ((brT o2).trans ((biS l4).trans ((biS l5).trans ((biS l6).trans ((biS h2').trans ?_))))))))));show(DT.bi (qbi (ET a7) (IntKind.i64.wrap (ln+1+(x.tiers.length:Int)+1)) [125]) _ _).ev=_;rw[hwr];exact(biS l8).trans rfl
  cases hm:x.marg<;>cases hk:x.keep<;>rw[hm,hk]at fold<;>rw[hm]at ehw<;>rw[hk]at erw
  · exact(brF rfl).trans ((brF rfl).trans (fold ehw erw))
  · exact(brF rfl).trans ((brT rfl).trans (fold ehw erw))
  · exact(brT rfl).trans ((brF rfl).trans (fold ehw erw))
  · exact(brT rfl).trans ((brT rfl).trans (fold ehw erw))
theorem q8i{e:Ex}(hw:Wd e)(hv:qaL e=0):quc e.op e.num e.txt (EX e.args)=some (ET (wrB e),0):=by
 rw[qOK,qsi];obtain⟨h1,_,h3,_⟩:=qiF hv;exact(biS (qgy hw)).trans ((brF (by rw[hv];rfl)).trans ((biS (qHu h3 (by omega))).trans rfl))
theorem q44{e:Ex}(hw:Wd e)(hv:qaL e=0){ln:Int}{L:List AV}{acc:List Tok}(hL:L=ET acc)(hl:acc.length+(exT ln e).length<=1000000):qml L ln e.op e.num e.txt (EX e.args)=some (ET (acc++exT ln e),ln):=by
 have hex:exT ln e=qFL (fun _ (t:Tok)=>[(⟨t.kind,ln,t.text⟩:Tok)]) 0 (wrB e):=by
  unfold exT;rw[<-qA6 (fun t:Tok=>(⟨t.kind,ln,t.text⟩:Tok))]
 have hlw:(wrB e).length<=big:=by
  have:(exT ln e).length=(wrB e).length:=by unfold exT;rw[jA5]
  simp only[big];omega
 rw[hex]at hl ⊢;have hloop:qEd (ET (wrB e),((0:Nat):Int),ET acc,ln,0)=some (0,ET (wrB e),((wrB e).length:Int),ET (acc++qFL (fun _ (t:Tok)=>[(⟨t.kind,ln,t.text⟩:Tok)]) 0 (wrB e)),ln,0):=by
  rw[qEe];refine qgu (hd:=fun n acc=>(ET (wrB e),(n:Int),ET acc,ln,0)) (fun _ (t:Tok)=>[(⟨t.kind,ln,t.text⟩:Tok)]) 0 (fun n hn acc hl'=>?_) (fun acc=>?_) hl
  ·have hl1:acc.length+1<=1000000:=hl';show(qkW _ _ _ _ _).ev=_;unfold qkW;rw[qt0 hn,qt2 hn];refine(brT (by rw[jA5,qaR hn])).trans ((brT (okT hn)).trans ((brT (okT hn)).trans ((biS (zjU rfl rfl (by omega))).trans ?_)));show some (Rd.next (ET (wrB e),IntKind.i64.wrap ((n:Int)+1),_,ln,0))=_;rw[qan hn hlw]
  ·show(qkW _ _ _ _ _).ev=_;unfold qkW;exact(brF (by simp)).trans rfl
 rw[qNS,qrn,hL];refine(biS (q8i hw hv)).trans ((biS (v:=(ET (wrB e),((wrB e).length:Int),ET (acc++qFL (fun _ (t:Tok)=>[(⟨t.kind,ln,t.text⟩:Tok)]) 0 (wrB e)),ln,0)) ?_).trans rfl);show pj 0 (qEd (ET (wrB e),((0:Nat):Int),ET acc,ln,0))=_;rw[hloop];rfl
abbrev HdP(p:Pr)(i ln:Int)(acc:List Tok):qdO:=(i,p.name,p.cur,p.cal,p.from_,p.every,p.over,p.tax,ETr p.cr.tiers,p.cr.marg,p.cr.basis,p.cr.mode,p.cr.keep,ETr p.de.tiers,p.de.marg,p.de.basis,p.de.mode,p.de.keep,EF p.fees,ER p.rules,ET acc,ln)
theorem q8Z(p:Pr){i i' ln ln':Int}{A:List AV}{acc:List Tok}(h1:i=i')(h2:ln=ln')(h3:A=ET acc):((i,p.name,p.cur,p.cal,p.from_,p.every,p.over,p.tax,ETr p.cr.tiers,p.cr.marg,p.cr.basis,p.cr.mode,p.cr.keep,ETr p.de.tiers,p.de.marg,p.de.basis,p.de.mode,p.de.keep,EF p.fees,ER p.rules,A,ln):qdO)=HdP p i' ln' acc:=by subst h1;subst h2;subst h3;rfl
theorem zoh{p:Pr}(w1:∀x∈p.fees,FeW x)(hx:∀x∈p.fees,zau x/\qcE x.name=true){ln:Int}{acc:List Tok}(h0:0<=ln)(hb:ln+p.fees.length<=900000)(hl:acc.length+(qbY feT (ln+1) p.fees).length<=1000000) :
  qvd (HdP p 0 ln acc)=some (0,HdP p (p.fees.length:Int) (ln+(p.fees.length:Int)) (acc++qbY feT (ln+1) p.fees)):=by
 rw[qif]at hl ⊢;have e0:HdP p 0 ln acc=HdP p ((0:Nat):Int) (ln+((0:Nat):Int)) acc:=by simp
 rw[qyM,e0];refine qgu (hd:=fun n acc=>HdP p (n:Int) (ln+(n:Int)) acc) (fun n=>feT (ln+1+(n:Int))) 0 (fun n hn acc hl'=>?_) (fun acc=>?_) hl
 ·obtain⟨⟨q1,q2,q3,q4⟩,q5⟩:=hx _ (jAi hn);obtain⟨k1,k2⟩:=w1 _ (jAi hn);have rb:qjT p.fees[n].event 4=true:=by unfold qjT;rw[jA8 q1,jA8 q2];rfl
  obtain⟨o1,s1⟩:=qqD (ws:=eventsL) rb rfl (by decide);have hlen:(feT (ln+1+(n:Int)) p.fees[n]).length=6+(exT (ln+1+(n:Int)) p.fees[n].when_).length+(exT (ln+1+(n:Int)) p.fees[n].amount).length:=by
   simp only[feT,lnT,jA2,jA5,jA0,jA4];omega
  rw[hlen]at hl';obtain⟨m,em⟩:∃m,m=ln+1+(n:Int):=⟨_,rfl⟩;rw[<-em]at hl' ⊢;have l1:=qBC (ln:=ln+(n:Int)) (s:=[102,101,101]) (m:=m) (by omega) ⟨by omega,by omega⟩ (L:=ET acc) rfl (by omega);obtain⟨a1,e1,n1⟩:=qeR acc ⟨5,m,[102,101,101]⟩;rw[<-e1]at l1;have l2:=q2A (ln:=m) (s:=p.fees[n].name) rfl (L:=ET a1) rfl (by omega);obtain⟨a2,e2,n2⟩:=qeR a1 ⟨1,m,p.fees[n].name⟩;rw[<-e2]at l2;have l3:=qxz (ln:=m) (s:=strOf (cellAt (ES eventsL) (IntKind.i64.wrap (p.fees[n].event-1)) 0)) rfl (L:=ET a2) rfl (by omega);obtain⟨a3,e3,n3⟩:=qeR a2 ⟨5,m,strOf (cellAt (ES eventsL) (IntKind.i64.wrap (p.fees[n].event-1)) 0)⟩;rw[<-e3]at l3;have l4:=qxz (ln:=m) (s:=[119,104,101,110]) rfl (L:=ET a3) rfl (by omega);obtain⟨a4,e4,n4⟩:=qeR a3 ⟨5,m,[119,104,101,110]⟩;rw[<-e4]at l4;have l5:=q44 k1 q3 (ln:=m) (L:=ET a4) rfl (by omega);obtain⟨a5,e5,n5⟩:=grow a4 (exT m p.fees[n].when_);rw[<-e5]at l5;have l6:=qxz (ln:=m) (s:=[97,109,111,117,110,116,95,111,102]) rfl (L:=ET a5) rfl (by omega);obtain⟨a6,e6,n6⟩:=qeR a5 ⟨5,m,[97,109,111,117,110,116,95,111,102]⟩;rw[<-e6]at l6;have l7:=q44 k2 q4 (ln:=m) (L:=ET a6) rfl (by omega);obtain⟨a7,e7,n7⟩:=grow a6 (exT m p.fees[n].amount);rw[<-e7]at l7;have l8:=qjS (ln:=m) (s:=[59]) rfl (L:=ET a7) rfl (by omega);have fin:a7++[⟨4,m,[59]⟩]=acc++feT m p.fees[n]:=by
   rw[e7,e6,e5,e4,e3,e2,e1,s1];simp only[feT,lnT,jAs,jCe,jAf,jAk,jAx]
  show(qiy _ _ _ _ _ _ _ _ _ _ _ _ _ _ _ _ _ _ _ _ _ _).ev=_;unfold qiy;rw[qf0 hn,qf1 hn,qf2 hn,qf3 hn,qf4 hn,qf5 hn,qf6 hn,qf7 hn,qf8 hn,qf9 hn];refine(brT (by rw[jA5,qaR hn])).trans ((brT (Tk.okF hn)).trans ((biS l1).trans ((biS l2).trans ((biS qi8).trans ((brT o1).trans ((biS l3).trans ((biS l4).trans ((biS l5).trans ((biS l6).trans ((biS l7).trans ((biS l8).trans ?_)))))))))));exact congrArg (fun z=>some (Rd.next z)) (q8Z p (qan hn (by simp only[big];omega)) (by omega) (congrArg ET fin))
 ·show(qiy _ _ _ _ _ _ _ _ _ _ _ _ _ _ _ _ _ _ _ _ _ _).ev=_;unfold qiy;exact(brF (by simp)).trans rfl
theorem zjB{p:Pr}(w2:∀x∈p.rules,Wd x.amount)(hx:∀x∈p.rules,zcG x/\qcE x.name=true){ln:Int}{acc:List Tok}(h0:0<=ln)(hb:ln+p.rules.length<=900000)(hl:acc.length+(qbY ruT (ln+1) p.rules).length<=1000000) :
  qve (HdP p 0 ln acc)=some (0,HdP p (p.rules.length:Int) (ln+(p.rules.length:Int)) (acc++qbY ruT (ln+1) p.rules)):=by
 rw[qif]at hl ⊢;have e0:HdP p 0 ln acc=HdP p ((0:Nat):Int) (ln+((0:Nat):Int)) acc:=by simp
 rw[qyN,e0];refine qgu (hd:=fun n acc=>HdP p (n:Int) (ln+(n:Int)) acc) (fun n=>ruT (ln+1+(n:Int))) 0 (fun n hn acc hl'=>?_) (fun acc=>?_) hl
 ·obtain⟨⟨q1,q2,q3⟩,q5⟩:=hx _ (jAi hn);have k1:=w2 _ (jAi hn);have rb:qjT p.rules[n].window 3=true:=by unfold qjT;rw[jA8 q1,jA8 q2];rfl
  obtain⟨o1,s1⟩:=qqD (ws:=windowsL) rb rfl (by decide);have hlen:(ruT (ln+1+(n:Int)) p.rules[n]).length=4+(exT (ln+1+(n:Int)) p.rules[n].amount).length:=by
   simp only[ruT,lnT,jA2,jA5,jA0,jA4];omega
  rw[hlen]at hl';obtain⟨m,em⟩:∃m,m=ln+1+(n:Int):=⟨_,rfl⟩;rw[<-em]at hl' ⊢;have l1:=qBC (ln:=ln+(n:Int)) (s:=[108,105,109,105,116]) (m:=m) (by omega) ⟨by omega,by omega⟩ (L:=ET acc) rfl (by omega);obtain⟨a1,e1,n1⟩:=qeR acc ⟨5,m,[108,105,109,105,116]⟩;rw[<-e1]at l1;have l2:=q2A (ln:=m) (s:=p.rules[n].name) rfl (L:=ET a1) rfl (by omega);obtain⟨a2,e2,n2⟩:=qeR a1 ⟨1,m,p.rules[n].name⟩;rw[<-e2]at l2;have l3:=qxz (ln:=m) (s:=strOf (cellAt (ES windowsL) (IntKind.i64.wrap (p.rules[n].window-1)) 0)) rfl (L:=ET a2) rfl (by omega);obtain⟨a3,e3,n3⟩:=qeR a2 ⟨5,m,strOf (cellAt (ES windowsL) (IntKind.i64.wrap (p.rules[n].window-1)) 0)⟩;rw[<-e3]at l3;have l7:=q44 k1 q3 (ln:=m) (L:=ET a3) rfl (by omega);obtain⟨a7,e7,n7⟩:=grow a3 (exT m p.rules[n].amount);rw[<-e7]at l7;have l8:=qjS (ln:=m) (s:=[59]) rfl (L:=ET a7) rfl (by omega);have fin:a7++[⟨4,m,[59]⟩]=acc++ruT m p.rules[n]:=by
   rw[e7,e3,e2,e1,s1];simp only[ruT,lnT,jAs,jCe,jAf,jAk,jAx]
  show(qiz _ _ _ _ _ _ _ _ _ _ _ _ _ _ _ _ _ _ _ _ _ _).ev=_;unfold qiz;rw[qr0 hn,qr1 hn,qr2 hn,qr3 hn,qr4 hn,qr5 hn];refine(brT (by rw[jA5,qaR hn])).trans ((brT (Tk.okR hn)).trans ((biS l1).trans ((biS l2).trans ((biS qeh).trans ((brT o1).trans ((biS l3).trans ((biS l7).trans ((biS l8).trans ?_))))))));exact congrArg (fun z=>some (Rd.next z)) (q8Z p (qan hn (by simp only[big];omega)) (by omega) (congrArg ET fin))
 ·show(qiz _ _ _ _ _ _ _ _ _ _ _ _ _ _ _ _ _ _ _ _ _ _).ev=_;unfold qiz;exact(brF (by simp)).trans rfl
theorem qHS{p:Pr}(hs:Sml p)(hf:FitP p)(w1:∀x∈p.fees,FeW x)(w2:∀x∈p.rules,Wd x.amount)(hl:qzM p=true->(qd0 qc4 p).length<=1000000) :
  quq p.name p.cur p.cal p.from_ p.every p.over p.tax (ETr p.cr.tiers) p.cr.marg p.cr.basis p.cr.mode p.cr.keep (ETr p.de.tiers) p.de.marg p.de.basis p.de.mode p.de.keep (EF p.fees) (ER p.rules)=some (qjl p):=by
 rw[qO7,qsG];refine(biS (qHp hs w1 w2)).trans ?_;unfold qjl;cases hw:qzM p
 ·exact(brT rfl).trans rfl
 ·obtain⟨x,hc,hx⟩:=q45 hs.cur;have hcb:qFN p.cur=true:=by
   unfold qzM at hw;simp only[jA1]at hw;exact hw.1
  have hx':=hx hcb;subst hx';obtain⟨hP,hN⟩:=qxl hw hf;have hlen:=hl hw;have hrng:=zcE hP hN hlen;obtain⟨s1,s2,s3,s4⟩:p.cr.tiers.length<=2048/\p.de.tiers.length<=2048/\p.fees.length<=2048/\p.rules.length<=2048:=⟨hs.cr,hs.de,hs.fl,hs.rl⟩;rw[qzj]at hlen hrng ⊢;simp only[jA2]at hlen;have y0:0<=(qc4 p.from_).1/\(qc4 p.from_).1<=9223372036854775807:=hP.y0;have m0:0<=(qc4 p.from_).2.1/\(qc4 p.from_).2.1<=9223372036854775807:=hP.m0;have d0:0<=(qc4 p.from_).2.2/\(qc4 p.from_).2.2<=9223372036854775807:=hP.d0;refine(brF rfl).trans ((biS hc).trans ((biS (qHI p.from_)).trans ?_));obtain⟨a1,e1,n1⟩:=qeR [] ⟨5,1,[112,114,111,100,117,99,116]⟩;have l1:=qxz (ln:=1) (s:=[112,114,111,100,117,99,116]) rfl (L:=[]) (acc:=[]) rfl (by decide);rw[<-e1]at l1;simp only[jA4]at n1;obtain⟨a2,e2,n2⟩:=qeR a1 ⟨1,1,p.name⟩;have l2:=q2A (ln:=1) (s:=p.name) rfl (L:=ET a1) rfl (by omega);rw[<-e2]at l2;obtain⟨a3,e3,n3⟩:=qeR a2 ⟨4,1,[123]⟩;have l3:=qjS (ln:=1) (s:=[123]) rfl (L:=ET a2) rfl (by omega);rw[<-e3]at l3;obtain⟨a4,e4,n4⟩:=qeR a3 ⟨5,2,[99,117,114,114,101,110,99,121]⟩;have l4:=qBC (ln:=1) (m:=2) (s:=[99,117,114,114,101,110,99,121]) rfl (by decide) (L:=ET a3) rfl (by omega);rw[<-e4]at l4;obtain⟨a5,e5,n5⟩:=qeR a4 ⟨1,2,qhm p.cur⟩;have l5:=q2A (ln:=2) (s:=qhm p.cur) rfl (L:=ET a4) rfl (by omega);rw[<-e5]at l5;obtain⟨a6,e6,n6⟩:=qeR a5 ⟨4,2,[59]⟩;have l6:=qjS (ln:=2) (s:=[59]) rfl (L:=ET a5) rfl (by omega);rw[<-e6]at l6;obtain⟨a7,e7,n7⟩:=qeR a6 ⟨5,3,[99,97,108,101,110,100,97,114]⟩;have l7:=qBC (ln:=2) (m:=3) (s:=[99,97,108,101,110,100,97,114]) rfl (by decide) (L:=ET a6) rfl (by omega);rw[<-e7]at l7;obtain⟨a8,e8,n8⟩:=qeR a7 ⟨1,3,p.cal⟩;have l8:=q2A (ln:=3) (s:=p.cal) rfl (L:=ET a7) rfl (by omega);rw[<-e8]at l8;obtain⟨a9,e9,n9⟩:=qeR a8 ⟨4,3,[59]⟩;have l9:=qjS (ln:=3) (s:=[59]) rfl (L:=ET a8) rfl (by omega);rw[<-e9]at l9;refine(biS l1).trans ((biS l2).trans ((biS l3).trans ((biS l4).trans ((biS l5).trans ((biS l6).trans ((biS l7).trans ((biS l8).trans ((biS l9).trans ?_))))))));obtain⟨b1,f1,k1⟩:=qeR a9 ⟨5,4,[102,114,111,109]⟩;have g1:=qBC (ln:=3) (m:=4) (s:=[102,114,111,109]) rfl (by decide) (L:=ET a9) rfl (by omega);rw[<-f1]at g1;obtain⟨b2,f2,k2⟩:=qeR b1 ⟨2,4,Lib.itoa (qc4 p.from_).1⟩;have g2:=zjT (ln:=4) y0 rfl (L:=ET b1) rfl (by omega);rw[<-f2]at g2;obtain⟨b3,f3,k3⟩:=qeR b2 ⟨4,4,[47]⟩;have g3:=qjS (ln:=4) (s:=[47]) rfl (L:=ET b2) rfl (by omega);rw[<-f3]at g3;obtain⟨b4,f4,k4⟩:=qeR b3 ⟨2,4,Lib.itoa (qc4 p.from_).2.1⟩;have g4:=zjT (ln:=4) m0 rfl (L:=ET b3) rfl (by omega);rw[<-f4]at g4;obtain⟨b5,f5,k5⟩:=qeR b4 ⟨4,4,[47]⟩;have g5:=qjS (ln:=4) (s:=[47]) rfl (L:=ET b4) rfl (by omega);rw[<-f5]at g5;obtain⟨b6,f6,k6⟩:=qeR b5 ⟨2,4,Lib.itoa (qc4 p.from_).2.2⟩;have g6:=zjT (ln:=4) d0 rfl (L:=ET b5) rfl (by omega);rw[<-f6]at g6;obtain⟨b7,f7,k7⟩:=qeR b6 ⟨4,4,[59]⟩;have g7:=qjS (ln:=4) (s:=[59]) rfl (L:=ET b6) rfl (by omega);rw[<-f7]at g7;refine(biS g1).trans ((biS g2).trans ((biS g3).trans ((biS g4).trans ((biS g5).trans ((biS g6).trans ((biS g7).trans ?_))))));obtain⟨c1,i1,j1⟩:=qeR b7 ⟨5,5,[101,118,101,114,121]⟩
  have h1:=qBC (ln:=4) (m:=5) (s:=[101,118,101,114,121]) rfl (by decide) (L:=ET b7) rfl (by omega);rw[<-i1]at h1;obtain⟨c2,i2,j2⟩:=qeR c1 ⟨2,5,Lib.itoa p.every⟩;have h2:=zjT (ln:=5) hP.every rfl (L:=ET c1) rfl (by omega);rw[<-i2]at h2;obtain⟨c3,i3,j3⟩:=qeR c2 ⟨4,5,[59]⟩;have h3:=qjS (ln:=5) (s:=[59]) rfl (L:=ET c2) rfl (by omega);rw[<-i3]at h3;obtain⟨c4,i4,j4⟩:=qeR c3 ⟨5,6,[111,118,101,114,100,114,97,102,116]⟩;have h4:=qBC (ln:=5) (m:=6) (s:=[111,118,101,114,100,114,97,102,116]) rfl (by decide) (L:=ET c3) rfl (by omega);rw[<-i4]at h4;obtain⟨c5,i5,j5⟩:=qeR c4 ⟨4,6,[36]⟩;have h5:=qjS (ln:=6) (s:=[36]) rfl (L:=ET c4) rfl (by omega);rw[<-i5]at h5;obtain⟨c6,i6,j6⟩:=qeR c5 ⟨2,6,Lib.itoa p.over⟩;have h6:=zjT (ln:=6) hP.over rfl (L:=ET c5) rfl (by omega);rw[<-i6]at h6;obtain⟨c7,i7,j7⟩:=qeR c6 ⟨4,6,[59]⟩;have h7:=qjS (ln:=6) (s:=[59]) rfl (L:=ET c6) rfl (by omega);rw[<-i7]at h7;obtain⟨c8,i8,j8⟩:=qeR c7 ⟨5,7,[116,97,120]⟩;have h8:=qBC (ln:=6) (m:=7) (s:=[116,97,120]) rfl (by decide) (L:=ET c7) rfl (by omega);rw[<-i8]at h8;obtain⟨c9,i9,j9⟩:=qeR c8 ⟨3,7,qiJ p.tax.toNat⟩;have h9:=zmV (ln:=7) hP.tax rfl (L:=ET c8) rfl (by omega);rw[<-i9]at h9;obtain⟨c0,i0,j0⟩:=qeR c9 ⟨4,7,[59]⟩;have h0:=qjS (ln:=7) (s:=[59]) rfl (L:=ET c9) rfl (by omega);rw[<-i0]at h0;refine(biS h1).trans ((biS h2).trans ((biS h3).trans ((biS h4).trans ((biS h5).trans ((biS h6).trans ((biS h7).trans ((biS h8).trans ((biS h9).trans ((biS h0).trans ?_)))))))));have hd:c0=qqP p:=by
   rw[i0,i9,i8,i7,i6,i5,i4,i3,i2,i1,f7,f6,f5,f4,f3,f2,f1,e9,e8,e7,e6,e5,e4,e3,e2,e1];simp only[qqP,lnT,jAs,jCe,jAf,jAk,jAx]
  have hdl:c0.length=(qqP p).length:=by rw[hd]
  clear e1 e2 e3 e4 e5 e6 e7 e8 e9 f1 f2 f3 f4 f5 f6 f7 i0 i1 i2 i3 i4 i5 i6 i7 i8 i9 l1 l2 l3 l4 l5 l6 l7 l8 l9 g1 g2 g3 g4 g5 g6 g7 h1 h2 h3 h4 h5 h6 h7 h8 h9 h0 n1 n2 n3 n4 n5 n6 n7 n8 n9 k1 k2 k3 k4 k5 k6 k7 j1 j2 j3 j4 j5 j6 j7 j8 j9 j0;obtain⟨a2,e2,n2⟩:=grow c0 (inT [99,114,101,100,105,116] (7+1) p.cr);have h2:=zoi (w:=[99,114,101,100,105,116]) hP.cr (ln:=7) (acc:=c0) (by omega) (by omega) (by omega);rw[<-e2]at h2;obtain⟨a3,e3,n3⟩:=grow a2 (inT [100,101,98,105,116] (7+2+(p.cr.tiers.length:Int)+1) p.de);have h3:=zoi (w:=[100,101,98,105,116]) hP.de (ln:=7+2+(p.cr.tiers.length:Int)) (acc:=a2) (by omega) (by omega) (by omega);rw[<-e3]at h3;have h4:=zoh w1 (fun x hx=>⟨hP.fees x hx,hN.fees x hx⟩) (ln:=7+2+(p.cr.tiers.length:Int)+2+(p.de.tiers.length:Int)) (acc:=a3) (by omega) (by omega) (by omega);obtain⟨a4,e4,n4⟩:=grow a3 (qbY feT (7+2+(p.cr.tiers.length:Int)+2+(p.de.tiers.length:Int)+1) p.fees);rw[<-e4]at h4;have h5:=zjB w2 (fun x hx=>⟨hP.rules x hx,hN.rules x hx⟩) (ln:=7+2+(p.cr.tiers.length:Int)+2+(p.de.tiers.length:Int)+(p.fees.length:Int)) (acc:=a4) (by omega) (by omega) (by omega);obtain⟨a5,e5,n5⟩:=grow a4 (qbY ruT (7+2+(p.cr.tiers.length:Int)+2+(p.de.tiers.length:Int)+(p.fees.length:Int)+1) p.rules);rw[<-e5]at h5;obtain⟨m,em⟩:∃m,m=7+2+(p.cr.tiers.length:Int)+2+(p.de.tiers.length:Int)+(p.fees.length:Int)+(p.rules.length:Int)+1:=⟨_,rfl⟩;have hbl:(lnT m [((4:Int),([125]:Bs))]).length=1:=rfl;rw[<-em]at hrng hlen ⊢;have h6:=qjS (ln:=m) (s:=[125]) rfl (L:=ET a5) rfl (by omega);obtain⟨a6,e6,n6⟩:=qeR a5 ⟨4,m,[125]⟩;rw[<-e6]at h6;have fin:a6=qqP p++(inT [99,114,101,100,105,116] (7+1) p.cr++(inT [100,101,98,105,116] (7+2+(p.cr.tiers.length:Int)+1) p.de++(qbY feT (7+2+(p.cr.tiers.length:Int)+2+(p.de.tiers.length:Int)+1) p.fees++(qbY ruT (7+2+(p.cr.tiers.length:Int)+2+(p.de.tiers.length:Int)+(p.fees.length:Int)+1) p.rules++lnT m [(4,[125])])))):=by
   rw[e6,e5,e4,e3,e2,hd];simp only[jAf,lnT,jAs,jCe]
  rw[<-fin]at hrng ⊢;have h4':pj 0 (qvd (HdP p 0 (7+2+(p.cr.tiers.length:Int)+2+(p.de.tiers.length:Int)) a3))=some (HdP p (p.fees.length:Int) (7+2+(p.cr.tiers.length:Int)+2+(p.de.tiers.length:Int)+(p.fees.length:Int)) a4):=by rw[h4];rfl
  have h5':pj 0 (qve (HdP p 0 (7+2+(p.cr.tiers.length:Int)+2+(p.de.tiers.length:Int)+(p.fees.length:Int)) a4))=some (HdP p (p.rules.length:Int) (7+2+(p.cr.tiers.length:Int)+2+(p.de.tiers.length:Int)+(p.fees.length:Int)+(p.rules.length:Int)) a5):=by rw[h5];rfl
  have hwr:IntKind.i64.wrap (7+2+(p.cr.tiers.length:Int)+2+(p.de.tiers.length:Int)+(p.fees.length:Int)+(p.rules.length:Int)+1)=m:=qzJ em.symm ⟨by omega,by omega⟩;have hj:qoX (ET a6)=some (qnr qaS a6):=by
   unfold q5b at hrng;simp only[jA1,jA6,jAb]at hrng;exact qHW (by simp only[big];omega) fun t ht=>(hrng.2 t ht).2.2
  refine(biS h2).trans ((biS h3).trans ((biS h4').trans ((biS h5').trans ?_)));show(DT.bi (qbi (ET a5) (IntKind.i64.wrap (7+2+(p.cr.tiers.length:Int)+2+(p.de.tiers.length:Int)+(p.fees.length:Int)+(p.rules.length:Int)+1)) [125]) _ _).ev=_;rw[hwr];exact(biS h6).trans ((biS hj).trans rfl)
theorem qPI{p:Pr}(hf:FitP p)(w1:∀x∈p.fees,FeW x)(w2:∀x∈p.rules,Wd x.amount):qKd p.name p.cur p.cal p.from_ p.every p.over p.tax (ETr p.cr.tiers) p.cr.marg p.cr.basis p.cr.mode p.cr.keep (ETr p.de.tiers) p.de.marg p.de.basis p.de.mode p.de.keep (EF p.fees) (ER p.rules)=some true:=by
 rw[qVD,qCz];refine(biS (qun w1 w2)).trans ?_;cases hg:grP p
 ·obtain⟨hs,g1,g2,g3,g4,_⟩:=zay hg;have hln:=fun h=>qMX (qxl h hf).1 g1 g2 g3 g4
  refine(brF rfl).trans ((biS (qmm hs hf hln)).trans ((biS (qHS hs hf w1 w2 hln)).trans ((biS (v:=true) ?_).trans ((biS (v:=true) ?_).trans rfl))))
  ·rw[beq_self_eq_true,beq_self_eq_true];rfl
  ·rw[qbK];rfl
 ·exact(brT rfl).trans ((biS qbK).trans rfl)
end Go.Proofs.H16

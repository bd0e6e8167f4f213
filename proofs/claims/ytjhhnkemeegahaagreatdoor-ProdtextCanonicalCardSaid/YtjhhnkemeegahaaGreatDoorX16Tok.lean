/- The program's tokens: what the printed functions come to. -/
import Derived.Test.YtjhhnkemeegahaaGreatDoorD16_1
import Derived.Test.YtjhhnkemeegahaaGreatDoorD16_5
import Derived.Test.YtjhhnkemeegahaaGreatDoorD16_8
import Derived.KernelRfl
import Derived.Test.YtjhhnkemeegahaaGreatDoorTkA
import Derived.Lib.TrimByte
import Derived.Lib.ParseIntBTie
set_option linter.all false
namespace Go.Proofs.H16
open Go Go.Eng Go.Tk
set_option maxRecDepth 20000
theorem qs5(x:Int):qoc x=some (qei x):=by
 rw[qNw,qrb];by_cases h:x>=97<;>simp[qei,h]
theorem ql7(x:Int):qiR x=some (qbh x):=by
 rw[qNL,qrq];by_cases h:x>=48<;>simp[qbh,h]
theorem qs4(x:Int):ql4 x=some (qco x):=by
 rw[qNv,qra,qs5,ql7,qco];cases qei x<;>cases qbh x<;>simp
theorem qGq(x:Int):qn8 x=some (qcM x):=by
 rw[qNb,qqR,qs4,qcM];cases qco x<;>cases(x==46)<;>simp
theorem qGp(x:Int):qn7 x=some (qhq x):=by
 rw[qNa,qqQ];rfl
theorem qHn{s:Bs}(hl:s.length<=big):qzH (s,0)=some (0,s,((s.takeWhile (at8 qhq)).length:Int)):=by
 rw[qxq];refine qnd (fun n h=>?_) ?_
 ·simp only[qnp,qo8,qaV h,qa4 h,qaZ h,w32,qGp,qar h hl,br_eq,jAa,sm_some,gv_some,ev_bi_some,ev_br,ev_at,cond_some]
 ·simp[qnp,qo8]
theorem qGB{s:Bs}(hl:s.length<=big):ql5 s=some (s.takeWhile (at8 qhq)):=by
 rw[qNy,qrd,qHn hl];simp[qbl (qgU s),qjl]
theorem qO5{s:Bs}(hl:s.length<=big):qKC (s,0)=some (0,s,((s.takeWhile (at8 qco)).length:Int)):=by
 rw[qDv];refine qnd (fun n h=>?_) ?_
 ·simp only[qv5,qv6,qaV h,qa4 h,qaZ h,w32,qs4,qar h hl,br_eq,jAa,sm_some,gv_some,ev_bi_some,ev_br,ev_at,cond_some]
 ·simp[qv5,qv6]
theorem qGt{s:Bs}(hl:s.length<=big):qsW s=some (s.takeWhile (at8 qco)):=by
 rw[qNk,qq0,qO5 hl];simp[qbl (qgU s),qjl]
theorem qO6{s:Bs}(hl:s.length<=big):qKD (s,0)=some (0,s,((s.takeWhile (at8 qcM)).length:Int)):=by
 rw[qDw];refine qnd (fun n h=>?_) ?_
 ·simp only[qv7,qv8,qaV h,qa4 h,qaZ h,w32,qGq,qar h hl,br_eq,jAa,sm_some,gv_some,ev_bi_some,ev_br,ev_at,cond_some]
 ·simp[qv7,qv8]
theorem qGu{s:Bs}(hl:s.length<=big):qsX s=some (s.takeWhile (at8 qcM)):=by
 rw[qNl,qq1,qO6 hl];simp[qbl (qgU s),qjl]
theorem qHi{s:Bs}(hl:s.length<=big):qzE (s,0)=some (0,s,((s.takeWhile (at8 qbh)).length:Int)):=by
 rw[qxn];refine qnd (fun n h=>?_) ?_
 ·simp only[qnn,qo2,qaV h,qa4 h,qaZ h,w32,ql7,qar h hl,br_eq,jAa,sm_some,gv_some,ev_bi_some,ev_br,ev_at,cond_some]
 ·simp[qnn,qo2]
theorem qsY{s:Bs}(hl:s.length<=big):qhv s=some (s.takeWhile (at8 qbh)):=by
 rw[qNm,qq2,qHi hl];simp[qbl (qgU s),qjl]
theorem qHm{s:Bs}(hl:s.length<=big):∀(k n:Nat),n+k=s.length-> ∃j,(j=0\/j=1)/\qt9 (s,(n:Int))=some (j,s,((n+blk false (s.drop n):Nat):Int)):=by
 intro k
 induction k using Nat.strongRecOn with
 |_ k ih=>
  intro n hn;rw[qkN];by_cases h:n<s.length
  ·have hst:(qlf (s,(n:Int))).ev=some (bif spI (s[n].toNat:Int)then .next (s,((n+1:Nat):Int))else bif (s[n].toNat:Int)==35 then .next (s,((n+((s.drop n).takeWhile (at8 qhq)).length:Nat):Int))else .done 0):=by
    have hw:IntKind.i64.wrap ((n:Int)+(((s.drop n).takeWhile (at8 qhq)).length:Int))=((n+((s.drop n).takeWhile (at8 qhq)).length:Nat):Int):=by
     have:=qgU (p:=at8 qhq) (s.drop n);simp only[jB0,big]at this hl;rw[wrap64 (by omega) (by omega)];simp
    have hd:(s.drop n).length<=big:=by simp;omega
    simp only[qlf,qo7,qaV h,qa4 h,qaZ h,qar h hl,qbl (Nat.le_of_lt h),jB5,qGB hd,hw,ev_bi_some,ev_br,ev_at,jAa,spI];cases((s[n].toNat:Int)==32)<;>cases((s[n].toNat:Int)==9)<;>cases((s[n].toNat:Int)==10)<;>cases((s[n].toNat:Int)==35)<;>rfl
   rw[drop_at h];simp only[blk];cases hs:spI (s[n].toNat:Int)
   ·cases hc:((s[n].toNat:Int)==35)
    ·rw[hs,hc]at hst;exact⟨0,.inl rfl,by rw[qag hst];simp⟩
    ·rw[hs,hc]at hst;rw[qao hst];have ht:((s.drop n).takeWhile (at8 qhq)).length=((s.drop (n+1)).takeWhile (at8 qhq)).length+1:=by
      have:at8 qhq s[n]=true:=by
       simp only[at8,qhq,bne_iff_ne,ne_eq];have:(s[n].toNat:Int)=35:=by simpa using hc
       omega
      rw[drop_at h,List.takeWhile_cons_of_pos this,jA0]
     have hle:=qgU (p:=at8 qhq) (s.drop n);simp only[jB0]at hle;obtain⟨j,h1,h2⟩:=ih (k-((s.drop n).takeWhile (at8 qhq)).length) (by omega) (n+((s.drop n).takeWhile (at8 qhq)).length) (by omega);rw[qkN]at h2;refine⟨j,h1,h2.trans ?_⟩;have e:s.drop (n+((s.drop n).takeWhile (at8 qhq)).length)=(s.drop (n+1)).drop ((s.drop (n+1)).takeWhile (at8 qhq)).length:=by rw[List.drop_drop,ht];congr 1;omega
     rw[e,jA9,jAa,qy6 (s.drop (n+1)),ht]
     congr 4;omega
   ·rw[hs]at hst;rw[qao hst];obtain⟨j,h1,h2⟩:=ih (k-1) (by omega) (n+1) (by omega);rw[qkN]at h2;refine⟨j,h1,h2.trans ?_⟩;rw[jAa];congr 4;omega
  ·have hn':n=s.length:=by omega
   subst hn';refine⟨1,.inr rfl,?_⟩;rw[qag (j:=1) (by simp[qlf,qo7])];simp[blk]
theorem qGz{s:Bs}(hl:s.length<=big):qcr s=some ((blk false s:Nat):Int):=by
 obtain⟨j,h1,h2⟩:=qHm hl s.length 0 (by omega);rw[qNu,qq9];simp only[Int.natCast_zero]at h2;rw[h2];rcases h1 with rfl|rfl<;>simp
theorem ql8:qgr=some (ES wordsS):=by
 rw[qoh,qfV];rfl
theorem qGH:qte=some (ES marksS):=by
 rw[qNM,qrr];rfl
theorem qoD{l:List Bs}(hl:l.length<=big)(s:Bs):qj2 (ES l,s,(l.length:Int),0)=some (qjD (s== ·) (fun _=>0) 1 l,ES l,s,(l.length:Int),((l.findIdx (s== ·):Nat):Int)):=by
 rw[qj3];refine qaP (hd:=fun n=>(ES l,s,(l.length:Int),(n:Int))) (jx:=fun _=>0) (s== ·) 1 (fun n h=>?_) ?_
 ·simp only[qgM,qgN,qaV h,qAf h,qs0 h,ev_br,ev_at,jAa,qar h hl];cases(s==l[n])<;>rfl
 ·simp[qgM,qgN]
theorem qtL{l:List Bs}(hl:l.length<=big)(s:Bs):qtK (ES l) s=some (has l s):=by
 rw[qzx,qnT,qs3,qji,jA5,qoD hl,qaY,has];cases l.any (s== ·)<;>simp
theorem qdi(s:Bs):qbS s=some (qbT s):=by
 rw[qoj,qfW,ql8];simp only[ev_bi_some,qtL (l:=wordsS) (by decide),ev_at,qbT]
theorem ql2{s:Bs}(hl:s.length<=big):ql1 s=some (qgR s):=by
 rw[qNj,qqZ,qsY hl];cases s with
 |nil=>rfl
 |cons c r=>
  have e1:((c::r).takeWhile (at8 qbh)==c::r)=(c::r).all (at8 qbh):=by
   rw[jC7,jB7];exact qlN
  have e2:qak (c::r) 0=(c.toNat:Int):=by simp[qak,qhp]
  have e3:((c.toNat:Int) != 48)=(some c != some 48):=by
   rw[jC7,bne_iff_ne,bne_iff_ne,ne_eq,ne_eq,Decidable.not_iff_not,jA7,<-UInt8.toNat_inj];exact Int.ofNat_inj
  have e4:inB (c::r).length 0=true:=by simp[inB]
  simp only[sm_some,gv_some,br_eq,jAa,e1,e2,e3,e4,qgR,List.head?_cons,cond_some,ev_bi_some,ev_at];cases(c::r).all (at8 qbh)<;>cases(((c::r).length:Int)==1)<;>simp
theorem qOF{s:Bs}(hl:s.length<=big):qCX s [37]=some (bif s.getLast? == some 37 then(s.dropLast,true)else(s,false)):=by
 rw[qU0,qBZ,q4V,qMr,q4Z,qMt];simp only[big]at hl;cases hs:s with
 |nil=>rfl
 |cons c r=>
  rw[<-hs];have h1:1<=s.length:=by rw[hs];simp
  have e1:decide ((s.length:Int)>=(([37]:Bs).length:Int))=true:=by simp;omega
  have e2:IntKind.i64.wrap ((s.length:Int)-(([37]:Bs).length:Int))=((s.length-1:Nat):Int):=by
   rw[wrap64 (by simp;omega) (by simp;omega)];simp;omega
  have e3:leB ((s.length-1:Nat):Int) s.length=true:=qbl (by omega);have e4:s.take (s.length-1)=s.dropLast:=by rw[List.dropLast_eq_take]
  have e5:(s.drop (s.length-1)== [37])=(s.getLast? == some 37):=by
   have hne:s≠ []:=by rw[hs];simp
   have:=List.dropLast_concat_getLast hne;rw[List.getLast?_eq_some_getLast hne]
   conv=>lhs;lhs;rw[<-this]
   rw[List.drop_append_of_le_length (by simp),show(s.dropLast++[s.getLast hne]).length-1=s.dropLast.length by simp,jC0];simp
  simp only[e1,e2,e3,e4,e5,br_eq,jAa,ev_bi_some,jB5,jBt,ev_br,ev_at];cases(s.getLast? == some 37)<;>rfl
theorem qNd(t:Bs):qCP t [46]=some (Lib.indexByte t 46):=by
 rw[qUk,qAY];have e1:((([46]:Bs).length:Int)==0)=false:=rfl;have e2:((([46]:Bs).length:Int)==1)=true:=rfl;have e3:inB ([46]:Bs).length 0=true:=rfl;have e4:(qak [46] 0).toNat.toUInt8=46:=rfl;simp only[e1,e2,e3,e4,br_eq,jA9,jAa,ev_bi_some,ev_br,ev_at];cases h:(([46]:Bs)==t)
 ·rfl
 ·have:=eq_of_beq h;subst this;rfl
theorem qtd{t:Bs}(hl:t.length<=big):qtc t [46]=some (qdt t):=by
 rw[qNK,qrp,qUo,qA3,qNd,q5f];simp only[big]at hl;have hdw:=drop_tw (p:=(· != 46)) t;by_cases h:(t.takeWhile (· != 46)).length<t.length
 ·have e1:decide (((t.takeWhile (· != 46)).length:Int)>=0)=true:=by simp
  have e2:IntKind.i64.wrap (((t.takeWhile (· != 46)).length:Int)+(([46]:Bs).length:Int))=(((t.takeWhile (· != 46)).length+1:Nat):Int):=by
   rw[wrap64 (by simp;omega) (by simp;omega)];simp
  have e3:leB ((t.takeWhile (· != 46)).length:Int) t.length=true:=qbl (Nat.le_of_lt h);have e4:leB (((t.takeWhile (· != 46)).length+1:Nat):Int) t.length=true:=qbl h;simp only[ev_bi_some,jAr h,e1,e2,e3,e4,ev_br,ev_at,jAa,jB5,jBt,qjl];unfold qdt;rw[<-hdw];rw[List.drop_eq_getElem_cons h]
 ·simp only[ev_bi_some,jAm h];unfold qdt;have hdn:t.drop (t.takeWhile (· != 46)).length= []:=List.drop_eq_nil_of_le (Nat.not_lt.1 h);rw[<-hdw,hdn];rfl
theorem qHt(w:Bs){p:Bs}(hp:p.length<=4):qzP (w,p)=some (0,w,qi3 p):=by
 rw[qxz];have key:∀(k:Nat) (p:Bs),p.length+k=4->qaf (fun v=>(qlk v).ev) (w,p)=some (0,w,qi3 p):=by
  intro k
  induction k with
  |zero=>
   intro p h;have:qi3 p=p:=by unfold qi3;rw[show 4-p.length=0 by omega];simp
   rw[this,qag (j:=0)];have:decide ((p.length:Int)<4)=false:=by simp;omega
   simp[qlk,qpd,this]
  |succ k ih=>
   intro p h;have e1:decide ((p.length:Int)<4)=true:=by simp;omega
   have e2:decide (p.length+1<=4611686018427387904)=true:=by simp;omega
   rw[qao (v':=(w,p++[48])) (by simp only[qlk,qpd,e1,e2,ev_br,ev_at,jAa]),ih (p++[48]) (by simp;omega)];have:qi3 (p++[48])=qi3 p:=by
    unfold qi3;rw[show 4-p.length=(4-(p++[48]).length)+1 by simp;omega,List.replicate_succ,jAf];rfl
   rw[this]
 exact key (4-p.length) p (by omega)
theorem qmc{s:Bs}(hl:s.length<=big):qjS s=some (qbm s):=by
 rw[qNZ,qrE,qOF hl,qbm];cases hs:(s.getLast? == some 37)
 ·have h1:(qdt s).1.length<=big:=by
   have:=qgU (p:=(· != 46)) s;unfold qdt;split<;>simp<;>omega
  simp only[jA9,ev_bi_some,qtd hl,ql2 h1,Bool.not_false,br_eq,jAa,ev_br,ev_at]
 ·have hd:s.dropLast.length<=big:=by simp;omega
  have h1:(qdt s.dropLast).1.length<=big:=by
   have:=qgU (p:=(· != 46)) s.dropLast;unfold qdt;split<;>simp at* <;>omega
  have h2:(qdt s.dropLast).2.1.length<=big:=by
   have:=drop_tw (p:=(· != 46)) s.dropLast;unfold qdt;split
   ·simp
   ·rename_i x y e;have h3:=congrArg List.length (this.trans e);simp at h3 hd ⊢;omega
  simp only[jAa,ev_bi_some,qtd hd,ql2 h1,Bool.not_true,br_eq,jA9,sm_some,gv_some];have h0:(qdt s.dropLast).2.2=false->(qdt s.dropLast).2.1= []:=by
   unfold qdt;split<;>simp
  generalize qdt s.dropLast=c at h0 h1 h2;obtain⟨w,p,pt⟩:=c;simp only at h0 h1 h2 ⊢;cases hi:qgR w
  ·simp only[Bool.not_false,jAa,ev_bi_some,ev_br,ev_at,Bool.true_or]
  ·simp only[Bool.not_true,jA9,Bool.false_or,ev_bi_some];have hpart:(bif pt then bif p== []then some true else bif decide ((p.length:Int)>4)then some true else bif sm (qhv p)then bif !gv (qhv p)==p then some true else bif inB p.length (IntKind.i64.wrap ((p.length:Int)-1))then some (qak p (IntKind.i64.wrap ((p.length:Int)-1))==48)else none else none else some false)=some (pt&& !qfT p):=by
    cases pt
    ·rfl
    ·cases hp:p with
     |nil=>rfl
     |cons x y=>
      rw[<-hp];have hne:p≠ []:=by rw[hp];simp
      have h1':1<=p.length:=by rw[hp];simp
      have e0:(p== [])=false:=by simpa using hne
      have e1:(p.takeWhile (at8 qbh)==p)=p.all (at8 qbh):=by
       rw[jC7,jB7];exact qlN
      have e2:IntKind.i64.wrap ((p.length:Int)-1)=((p.length-1:Nat):Int):=by
       simp only[big]at h2;rw[wrap64 (by omega) (by omega)];omega
      have e3:inB p.length ((p.length-1:Nat):Int)=true:=qa4 (by omega);have e4:(qak p ((p.length-1:Nat):Int)==48)=(p.getLast? == some 48):=by
       rw[qaZ (by omega),List.getLast?_eq_getElem?,jAh (by omega),jC7,jB7,jB7,jA7,<-UInt8.toNat_inj];exact Int.ofNat_inj
      have e5:decide ((p.length:Int)>4)= !decide (p.length<=4):=by
       by_cases h:p.length<=4<;>simp[h]<;>omega
      simp only[jAa,jA9,e0,qsY h2,sm_some,gv_some,e1,e2,e3,e4,e5,qfT,bne,jBm];cases decide (p.length<=4)<;>cases p.all (at8 qbh)<;>cases(p.getLast? == some 48)<;>rfl
   rw[hpart];simp only[ev_bi_some,ev_br,ev_at];cases hg:(pt&& !qfT p)
   ·simp only[jA9];have e6:decide ((w.length:Int)>3)=decide (w.length>3):=by
     by_cases h:w.length>3<;>simp[h]<;>omega
    rw[e6];cases h3:decide (w.length>3)
    ·simp only[jA9];have hw3:w.length<=3:=by simpa using h3
     have hp4:p.length<=4/\p.all (at8 qbh)=true:=by
      cases pt
      ·rw[h0 rfl];exact⟨by simp,rfl⟩
      ·have hb:qfT p=true:=by simpa using hg
       simp only[qfT,jA1,jA6]at hb;exact⟨hb.2.1,hb.2.2.1⟩
     have hw:w≠ []/\w.all (at8 qbh)=true:=by
      simp only[qgR,jA1,bne_iff_ne,ne_eq]at hi;exact⟨hi.2.1,hi.1⟩
     have hq:qi3 p=p++List.replicate (4-p.length) 48:=rfl;have hl7:(w++qi3 p).length<=7:=by rw[hq];simp;omega
     have had:(w++qi3 p).all (at8 qbh)=true:=by
      rw[hq,jCk,jCk,hw.2,hp4.2];simp[at8,qbh]
     have hne:w++qi3 p≠ []:=by simp[hw.1]
     have hlt:qa7 0 (w++qi3 p)<9223372036854775808:=by
      have h7:=qzb (w++qi3 p) 0 0 had (by omega);have:10^(0+(w++qi3 p).length)<=10^7:=Nat.pow_le_pow_right (by omega) (by omega);omega
     have hat:=qy4 had hne;rw[jAr hlt]at hat;have e7:decide (w.length+(qi3 p).length<=4611686018427387904)=true:=by
      rw[jA2]at hl7;simp;omega
     have e8:pOk (w++qi3 p)=true:=by simp only[pOk];simp at hl7 ⊢;omega
     rw[qHt w hp4.1];simp only[pj_some,jB2,ev_bi_some,e7,e8,hat,nOk,qPP,Bool.and_self,ev_br,jAa,ev_at,cond_some]
    ·rfl
   ·rfl
def zjb:Nat:=281474976710656
theorem qqu{n:Nat}(h:n<=zjb):n<=big:=jAz h (by decide)
theorem qGA{s:Bs}(hl:s.length<=zjb):qs6 s=some ((qAc s).1,0,(qAc s).2.1,(qAc s).2.2):=by
 rw[qNx,qrc,ql2 (qqu hl),qmc (qqu hl),qAc];have e:pOk s=true:=jA8 hl;simp only[ev_bi_some,ev_br,ev_at,e,jBm];cases qgR s
 ·simp only[jA9];cases((qbm s).2==0)<;>cases((qbm s).2==1)<;>rfl
 ·simp only[jAa];cases Lib.parseIntB 64 s<;>rfl
theorem qOG(s m:Bs):qCY s m=some (preB m s):=by
 rw[qU1,qB0,q4X,qMs];have e:decide ((s.length:Int)>=(m.length:Int))=decide (m.length<=s.length):=by
  by_cases h:m.length<=s.length<;>simp[h]<;>omega
 simp only[e,preB,zfl,jB5];cases decide (m.length<=s.length)<;>simp
theorem qHu(s:Bs):qud (s,ES marksS,(marksS.length:Int),0,0,0,[])=some (qjD (preB · s) (fun _=>0) 1 marksS,s,ES marksS,(marksS.length:Int),((marksS.findIdx (preB · s):Nat):Int),0,0,[]):=by
 rw[qxA];refine qaP (hd:=fun n=>(s,ES marksS,(marksS.length:Int),(n:Int),(0:Int),(0:Int),([]:Bs))) (jx:=fun _=>0) (preB · s) 1 (fun n h=>?_) ?_
 ·simp only[qnu,qpe,qaV h,qAf h,qs0 h,qOG,ev_bi_some,ev_br,ev_at,jAa,qar h (show marksS.length<=big by decide)];cases(preB marksS[n] s)<;>rfl
 ·simp[qnu,qpe]
theorem qGQ{s:Bs}(hne:s≠ [])(hl:s.length<=zjb):qeP s=some ((qay s).1,0,(qay s).2.1,(qay s).2.2):=by
 have hb:=qqu hl;rw[qN0,qrF];cases s with
 |nil=>exact absurd rfl hne
 |cons c r=>
  have e1:inB (c::r).length 0=true:=by simp[inB]
  have e2:qak (c::r) 0=(c.toNat:Int):=by simp[qak,qhp]
  simp only[e1,e2,w32,qs5,ql7,qGt hb,qGu hb,qdi,qGH,ev_bi_some,ev_br,ev_at,jAa,qay];rw[show at8 qei c=qei (c.toNat:Int)from rfl,show at8 qbh c=qbh (c.toNat:Int)from rfl];cases qei (c.toNat:Int)
  ·cases qbh (c.toNat:Int)
   ·simp only[jA9,jA5,qHu,qaY,q4z,pj_some];by_cases h:marksS.findIdx (preB · (c::r))<marksS.length
    ·have hf:=jCm (p:=(preB · (c::r))) (xs:=marksS);rw[jAh h]at hf;simp only[jA8 h,jAa,jB2,ev_bi_some,ev_at,qs0 h,hf]
    ·have hf:marksS.find? (preB · (c::r))=none:=by
      rw[jCm];exact List.getElem?_eq_none (Nat.not_lt.1 h)
     rw[hf];simp[h]
   ·have h2:((c::r).takeWhile (at8 qcM)).length<=zjb:=jAz (qgU _) hl;simp only[jA9,jAa,qGA h2,ev_bi_some,ev_at]
  ·simp only[jAa];have e:decide ((((c::r).takeWhile (at8 qco)).length:Int)>16)=decide (((c::r).takeWhile (at8 qco)).length>16):=by
    by_cases h:((c::r).takeWhile (at8 qco)).length>16<;>simp[h]<;>omega
   rw[e];cases qbT ((c::r).takeWhile (at8 qco))<;>cases decide (((c::r).takeWhile (at8 qco)).length>16)<;>rfl
noncomputable def qAU(o:Option (Nat×qeL)):DT qE0:=
  .bi (pj 0 o) (fun y0=>.at (([],0,0)))
   (.bi (pj 1 o) (fun y0=>
    .at (([],IntKind.i64.wrap ((sl y0).snd+(↑(Lib.countByte (List.take (gv (qcr (sl y0).fst)).toNat (sl y0).fst) 10):Int)),(gv (qeP (List.drop (gv (qcr (sl y0).fst)).toNat (sl y0).fst))).snd.snd.snd)))
    (.bi (pj 2 o) (fun y0=>.at (((sr y0).snd.snd,0,0)))
     (.bi (pj 3 o) (fun y0=>
      .at (([],IntKind.i64.wrap ((sr y0).snd.fst+(↑(Lib.countByte (List.take (gv (qcr (sr y0).fst)).toNat (sr y0).fst) 10):Int)),(gv (qeP (List.drop (gv (qcr (sr y0).fst)).toNat (sr y0).fst))).snd.snd.snd)))
      (.no))))
theorem qPF(s:Bs):qqP s= .br (decide ((s.length:Int)>2048)) (.at (([],0,5))) (qAU (qpW (Sum.inl (s,1)))):=rfl
def hdT(s:Bs)(line:Int):List Tok->qeL
 | []=>.inl (s,line)
 |acc=>.inr (s,line,ET acc)
theorem qMp:∀(k:Nat) (s:Bs) (line:Int) (acc:List Tok),s.length<k->0<=line->line+s.length<=10000->acc.length+s.length<=10000 ->
  (qAU (qpW (hdT s line acc))).ev=some (ET (qfU k s line acc).1,(qfU k s line acc).2.1,(qfU k s line acc).2.2)
 |0,s,line,acc,h,_,_,_=>by omega
 |k+1,s,line,acc,h,h0,h1,h2=>by
  have hl:s.length<=zjb:=jAz (show s.length<=10000 by omega) (by decide);have hb:=qGz (qqu hl);have hn:=qmQ false s;have hc:(s.take (blk false s)).count 10<=blk false s:=jAz List.count_le_length (by simp;omega);have hw:IntKind.i64.wrap (line+(Lib.countByte (s.take (blk false s)) 10:Int))=line+((s.take (blk false s)).count 10:Nat):=by
   show IntKind.i64.wrap (line+((s.take (blk false s)).count 10:Nat))=_;exact wrap64 (by omega) (by omega)
  rw[qun];simp only[qfU];cases hd:s.drop (blk false s)with
  |nil=>
   cases acc with
   |nil=>
    rw[qag (j:=0)]
    ·rfl
    ·simp only[hdT,qhI,jBy,qnG,hb,ev_bi_some,qbl hn,jB5,hd,jBt,ev_br,ev_at,jAa];rfl
   |cons a acc=>
    rw[qag (j:=2)]
    ·rfl
    ·simp only[hdT,qhI,jBx,qnH,hb,ev_bi_some,qbl hn,jB5,hd,jBt,ev_br,ev_at,jAa];rfl
  |cons c r=>
   have hlen:=congrArg List.length hd;simp only[jB0,jA0]at hlen;have hx:=qGQ (s:=c::r) (by simp) (by simp only[zjb,jA0]at hl ⊢;omega);have he:((c::r:Bs)== [])=false:=rfl;cases hz:((qay (c::r)).2.2 != 0)
   ·have hz':(qay (c::r)).2.2=0:=by simpa using hz
    obtain⟨g1,t,g2⟩:=qcx hz';have g3:(qay (c::r)).2.1.length<=(c::r).length:=by
     have:=congrArg List.length g2;rw[jA2]at this;omega
    have g4:1<=(qay (c::r)).2.1.length:=by
     cases hq:(qay (c::r)).2.1 with
     |nil=>exact absurd hq g1
     |cons _ _=>simp
    have hst:(qhI (hdT s line acc)).ev=some (.next (hdT ((c::r).drop (qay (c::r)).2.1.length) (line+((s.take (blk false s)).count 10:Nat)) (acc++[⟨(qay (c::r)).1,line+((s.take (blk false s)).count 10:Nat),(qay (c::r)).2.1⟩]))):=by
     cases acc with
     |nil=>
      simp only[hdT,qhI,jBy,qnG,hb,ev_bi_some,qbl hn,qbl g3,jB5,hd,he,hx,hz,hw,jBt,ev_br,ev_at,jAa,jA9];rfl
     |cons a acc=>
      have hr:room ((ET (a::acc)).length+1) 32=true:=qcY (by simp only[jA5,lim];omega);simp only[hdT,qhI,jBx,qnH,hb,ev_bi_some,qbl hn,qbl g3,jB5,hd,he,hx,hz,hw,hr,jBt,ev_br,ev_at,jAa,jA9,jAk,jCi];simp[hdT,Tok.av]
    rw[qao hst,<-qun];simp only[hz,jA9];simp only[jA0]at g3;exact qMp k _ _ _ (by simp only[jB0,jA0];omega) (by omega) (by simp only[jB0,jA0];omega) (by simp only[jB0,jA0,jA2,jA4];omega)
   ·cases acc with
    |nil=>
     rw[qag (j:=1)]
     ·simp(decide:=true) only[qAU,hdT,pj_some,jB2,jBg,ev_bi_none,ev_bi_some,ev_at,sl_inl,hb,gv_some,jB5,hd,hx,hw,hz,jAa];rfl
     ·simp only[hdT,qhI,jBy,qnG,hb,ev_bi_some,qbl hn,jB5,hd,he,hx,hz,jBt,ev_br,ev_at,jAa,jA9]
    |cons a acc=>
     rw[qag (j:=3)]
     ·simp(decide:=true) only[qAU,hdT,pj_some,jB2,jBg,ev_bi_none,ev_bi_some,ev_at,sr_inr,hb,gv_some,jB5,hd,hx,hw,hz,jAa];rfl
     ·simp only[hdT,qhI,jBx,qnH,hb,ev_bi_some,qbl hn,jB5,hd,he,hx,hz,jBt,ev_br,ev_at,jAa,jA9]
theorem qiL(s:Bs):qjL s=some (ET (qbp s).1,(qbp s).2.1,(qbp s).2.2):=by
 rw[qM9,qPF,qbp];cases h:decide ((s.length:Int)>2048)
 ·have h':s.length<=2048:=by
   have:=of_decide_eq_false h;omega
  simp only[ev_br,jA9];exact qMp (s.length+1) s 1 [] (by omega) (by omega) (by omega) (by simp;omega)
 ·rfl
end Go.Proofs.H16
namespace Go.Proofs.H16
open Go Go.Eng Go.Tk
set_option maxRecDepth 20000
theorem qGM{e:Ex}(h:e.nodes<=big):qzp e.op e.num e.txt (EX e.args)=some (e.nodes:Int):=by
 refine qdQ (n:=e.dep) ?_
 induction e using Ex.ind with
 |h o n s l ih=>
  intro m hm;cases m with
  |zero=>simp[Ex.dep]at hm
  |succ k=>
   simp only[Ex.op,Ex.num,Ex.txt,Ex.args,qhi,qBa];simp only[Ex.nodes,Ex.dep]at h hm;have hll:=Ex.nodesL_len l;have key:qzN (qhi k) (1,EX l,((EX l).length:Int),0)=some (0,((l.foldl (fun a x=>a+Ex.nodes x) 1:Nat):Int),EX l,(l.length:Int),(l.length:Int)):=by
    rw[qxx];refine qus (l:=l) (hd:=fun n a=>(((a:Nat):Int),EX l,((EX l).length:Int),(n:Int))) (f:=fun a x=>a+Ex.nodes x) (jx:=fun _=>0) (inv:=fun n a=>a=1+Ex.nodesL (l.take n)) ?_ ?_ ?_ ?_ |>.trans ?_
    ·simp[Ex.nodesL]
    ·intro n a hn ha;rw[ha,List.take_succ_eq_append_getElem hn,Ex.nodesL_app];simp[Ex.nodesL];omega
    ·intro n a hn ha;have hx:l[n]∈l:=jAi hn;have h1:=Ex.nodesL_mem hx;have h2:=Ex.depL_mem hx;have hs:Ex.nodesL (l.take (n+1))<=Ex.nodesL l:=by
      conv=>rhs;rw[<-jCc (n+1) l,Ex.nodesL_app]
      omega
     rw[List.take_succ_eq_append_getElem hn,Ex.nodesL_app]at hs;simp only[Ex.nodesL]at hs;have hw:IntKind.i64.wrap ((a:Int)+(l[n].nodes:Int))=((a+l[n].nodes:Nat):Int):=by
      simp only[big]at h;rw[wrap64 (by omega) (by omega)];simp
     have hg:=ih l[n] hx (by omega) k (by omega);simp only[qns,qpb,jA5,qaV hn,okX hn,qx0 hn,qx1 hn,qx2 hn,qx3 hn,hg,ev_br,ev_at,ev_bi_some,jAa,hw,qar hn (show l.length<=big by omega)]
    ·intro a ha;simp[qns,qpb]
    ·simp
   rw[key,Ex.nodes_fold];simp only[pj_some,jB2,ev_bi_some,ev_at,Ex.nodes]
   congr 2;omega
theorem qGN{e:Ex}(h:e.nodes<=big):qtk e.op e.num e.txt (EX e.args)=some (e.dep:Int):=by
 refine qdQ (n:=e.dep) ?_
 induction e using Ex.ind with
 |h o n s l ih=>
  intro m hm;cases m with
  |zero=>simp[Ex.dep]at hm
  |succ k=>
   have hdl:=Ex.dep_le (.mk o n s l);simp only[Ex.op,Ex.num,Ex.txt,Ex.args,qhj,qBb];simp only[Ex.nodes,Ex.dep]at h hm hdl;have hll:=Ex.nodesL_len l;have key:qzO (qhj k) (0,EX l,((EX l).length:Int),0)=some (0,((l.foldl (fun a x=>max a (Ex.dep x)) 0:Nat):Int),EX l,(l.length:Int),(l.length:Int)):=by
    rw[qxy];refine qus (l:=l) (hd:=fun n a=>(((a:Nat):Int),EX l,((EX l).length:Int),(n:Int))) (f:=fun a x=>max a (Ex.dep x)) (jx:=fun _=>0) (inv:=fun _ _=>True) trivial (fun _ _ _ _=>trivial) ?_ ?_ |>.trans ?_
    ·intro n a hn _;have hx:l[n]∈l:=jAi hn;have h1:=Ex.nodesL_mem hx;have h2:=Ex.depL_mem hx;have hg:=ih l[n] hx (by omega) k (by omega);have hm:(if (l[n].dep:Int)>(a:Int)then(l[n].dep:Int)else(a:Int))=((max a l[n].dep:Nat):Int):=by
      by_cases hc:a<l[n].dep
      ·rw[jAr (by omega),Nat.max_eq_right (by omega)]
      ·rw[jAm (by omega),Nat.max_eq_left (by omega)]
     simp only[qnt,qpc,jA5,qaV hn,okX hn,qx0 hn,qx1 hn,qx2 hn,qx3 hn,hg,ev_br,ev_at,ev_bi_some,jAa,hm,qar hn (show l.length<=big by omega)]
    ·intro a _;simp[qnt,qpc]
    ·simp
   rw[key,Ex.dep_fold];have hw:IntKind.i64.wrap (((max 0 (Ex.depL l):Nat):Int)+1)=((Ex.depL l+1:Nat):Int):=by
    simp only[big]at h;rw[Nat.zero_max,wrap64 (by omega) (by omega)];simp
   simp only[pj_some,jB2,ev_bi_some,ev_at,Ex.dep,hw]
theorem qGr(op:Int):qjM op=some (qaR op):=by
 rw[qNe,qqU];by_cases h1:op=1
 ·subst h1;rfl
 by_cases h2:op=2
 ·subst h2;rfl
 by_cases h3:op=3
 ·subst h3;rfl
 by_cases h4:op=4
 ·subst h4;rfl
 by_cases h5:op=9
 ·subst h5;rfl
 by_cases h6:op=16
 ·subst h6;rfl
 by_cases h7:op=19
 ·subst h7;rfl
 have e1:(op==1)=false:=by simpa using h1
 have e2:(op==2)=false:=by simpa using h2
 have e3:(op==3)=false:=by simpa using h3
 have e4:(op==4)=false:=by simpa using h4
 have e5:(op==9)=false:=by simpa using h5
 have e6:(op==16)=false:=by simpa using h6
 have e7:(op==19)=false:=by simpa using h7
 simp only[e1,e2,e3,e4,e5,e6,e7,ev_br,ev_at,jA9,qaR,h1,h2,h3,h4,h5,h6,h7,or_self,jBg,br_eq,cond_some,ev_bi_some];by_cases h8:5<=op<;>by_cases h9:op<=18<;>simp[h8,h9]
theorem qGG(e:Ex):qtb e.op e.num e.txt (EX e.args)=some (qaN e):=by
 rw[qNI,qrn];simp only[qGr,ev_bi_some,ev_br,ev_at,cond_some,qaN,qhE,jA5];by_cases h1:e.op=1
 ·simp only[h1];cases(qaR 1==(e.args.length:Int))<;>cases decide (e.num>=0)<;>cases(e.txt== [])<;>simp
 by_cases h2:e.op=2
 ·simp only[h2];cases(qaR 2==(e.args.length:Int))<;>cases decide (e.num>=0)<;>cases(e.txt== [])<;>simp
 by_cases h3:e.op=3
 ·simp only[h3];cases(qaR 3==(e.args.length:Int))<;>cases decide (e.num>=0)<;>cases(e.txt== [])<;>simp
 have e1:(e.op==1)=false:=by simpa using h1
 have e2:(e.op==2)=false:=by simpa using h2
 have e3:(e.op==3)=false:=by simpa using h3
 simp only[e1,e2,e3,h1,h2,h3,jBg,jA9];cases(qaR e.op==(e.args.length:Int))<;>cases decide (e.num>=0)<;>cases decide (e.num<=0)<;>cases(e.txt== [])<;>rfl
theorem qGs(s:Bs):qn9 s=some (qc4 s):=by
 rw[qNf,qqV,qiL,qc4];simp only[ev_bi_some,br_eq,cond_some,jA5];cases h0:((qbp s).2.2==0)
 ·simp
 ·cases hl:(qbp s).1 with
  |nil=>simp
  |cons t l=>
   cases l with
   |nil=>
    have e1:qaH ksT (ET [t]) 0=true:=okT (l:=[t]) (n:=0) (by simp);have e2:intOf (cellAt (ET [t]) 0 0)=t.kind:=qt0 (l:=[t]) (n:=0) (by simp);have e3:strOf (cellAt (ET [t]) 0 2)=t.text:=qt2 (l:=[t]) (n:=0) (by simp);simp only[jAa,e1,e2,e3,jA0,jA4,List.head?_cons];cases hk:(t.kind==1)<;>simp
   |cons u l=>
    have:(((t::u::l).length:Int)==1)=false:=by simp;omega
    simp only[this,jAa,jA9,ev_bi_some,ev_at];simp
theorem qGP(e:Ex):qtl e.op e.num e.txt (EX e.args)=some (qbw e):=by
 rw[qNY,qrD,qGs,qbw];cases(e.op != 4)<;>simp
theorem qUc:∀(e:Ex),e.nodes<=big-> ∀n,4*e.dep<=n->(qax n).1 e.op e.num e.txt (EX e.args)=some (e.allX qaN):=by
 intro e
 induction e using Ex.ind with
 |h o n s l ih=>
  intro h m hm;have hll:=Ex.nodesL_len l;have hal:=Ex.allX_eq qaN (.mk o n s l);simp only[Ex.nodes,Ex.dep]at h hm;obtain⟨k,rfl⟩:∃k,m=k+4:=⟨m-4,by omega⟩;have hloop:qVS ((qax (k+1)).1) ((qax (k+1)).2.1) ((qax (k+1)).2.2.1) ((qax (k+1)).2.2.2) (EX l,((EX l).length:Int),0)=some (qjD (fun x=>!Ex.allX qaN x) (fun _=>0) 1 l,EX l,((EX l).length:Int),((l.findIdx (fun x=>!Ex.allX qaN x):Nat):Int)):=by
   rw[qKz];refine qaP (hd:=fun n=>(EX l,((EX l).length:Int),(n:Int))) (jx:=fun _=>0) _ 1 (fun n hn=>?_) ?_
   ·have hx:l[n]∈l:=jAi hn;have h1:=Ex.nodesL_mem hx;have h2:=Ex.depL_mem hx;have hg:=ih l[n] hx (by omega) k (by omega);have hg1:(qax (k+1)).2.2.2 l[n].op l[n].num l[n].txt (EX l[n].args)=some (!l[n].allX qaN):=by
     simp only[qax,qA1,hg,ev_bi_some,ev_at]
    simp only[qEz,qAO,jA5,qaV hn,okX hn,qx0 hn,qx1 hn,qx2 hn,qx3 hn,hg1,ev_br,ev_at,ev_bi_some,jAa,qar hn (show l.length<=big by omega)];cases l[n].allX qaN<;>rfl
   ·simp[qEz,qAO]
  have hidx:(qax (k+2)).2.2.1 (EX l)=some (if l.any (fun x=>!Ex.allX qaN x)then((l.findIdx (fun x=>!Ex.allX qaN x):Nat):Int)else -1):=by
   rw[qax];simp only[q2a,hloop,qaY];cases l.any (fun x=>!Ex.allX qaN x)<;>simp
  have hcon:(qax (k+3)).2.1 (EX l)=some (l.any (fun x=>!Ex.allX qaN x)):=by
   rw[qax];simp only[q1Y,hidx,ev_bi_some,ev_at];cases l.any (fun x=>!Ex.allX qaN x)<;>simp
  rw[qax];have hf:=qGG (.mk o n s l);simp only[Ex.op,Ex.num,Ex.txt,Ex.args]at hf ⊢;simp only[qBc,hf,hcon,ev_bi_some,sm_some,gv_some,br_eq,jAa];rw[hal,Ex.args];have hna:(!l.any (fun x=>!Ex.allX qaN x))=l.all (Ex.allX qaN):=by
   rw[List.not_any_eq_all_not];simp
  cases qaN (.mk o n s l)<;>simp[hna]
theorem qGO{e:Ex}(h:e.nodes<=big):qzq e.op e.num e.txt (EX e.args)=some (e.allX qaN):=
 qdQ (qUc e h)
theorem qM1:∀(e:Ex),e.nodes<=big-> ∀n,4*e.dep<=n->(qaw n).1 e.op e.num e.txt (EX e.args)=some (e.allX qbw):=by
 intro e
 induction e using Ex.ind with
 |h o n s l ih=>
  intro h m hm;have hll:=Ex.nodesL_len l;have hal:=Ex.allX_eq qbw (.mk o n s l);simp only[Ex.nodes,Ex.dep]at h hm;obtain⟨k,rfl⟩:∃k,m=k+4:=⟨m-4,by omega⟩;have hloop:qVQ ((qaw (k+1)).1) ((qaw (k+1)).2.1) ((qaw (k+1)).2.2.1) ((qaw (k+1)).2.2.2) (EX l,((EX l).length:Int),0)=some (qjD (fun x=>!Ex.allX qbw x) (fun _=>0) 1 l,EX l,((EX l).length:Int),((l.findIdx (fun x=>!Ex.allX qbw x):Nat):Int)):=by
   rw[qKx];refine qaP (hd:=fun n=>(EX l,((EX l).length:Int),(n:Int))) (jx:=fun _=>0) _ 1 (fun n hn=>?_) ?_
   ·have hx:l[n]∈l:=jAi hn;have h1:=Ex.nodesL_mem hx;have h2:=Ex.depL_mem hx;have hg:=ih l[n] hx (by omega) k (by omega);have hg1:(qaw (k+1)).2.2.2 l[n].op l[n].num l[n].txt (EX l[n].args)=some (!l[n].allX qbw):=by
     simp only[qaw,qAX,hg,ev_bi_some,ev_at]
    simp only[qEy,qAN,jA5,qaV hn,okX hn,qx0 hn,qx1 hn,qx2 hn,qx3 hn,hg1,ev_br,ev_at,ev_bi_some,jAa,qar hn (show l.length<=big by omega)];cases l[n].allX qbw<;>rfl
   ·simp[qEy,qAN]
  have hidx:(qaw (k+2)).2.2.1 (EX l)=some (if l.any (fun x=>!Ex.allX qbw x)then((l.findIdx (fun x=>!Ex.allX qbw x):Nat):Int)else -1):=by
   rw[qaw];simp only[q1Z,hloop,qaY];cases l.any (fun x=>!Ex.allX qbw x)<;>simp
  have hcon:(qaw (k+3)).2.1 (EX l)=some (l.any (fun x=>!Ex.allX qbw x)):=by
   rw[qaw];simp only[q1X,hidx,ev_bi_some,ev_at];cases l.any (fun x=>!Ex.allX qbw x)<;>simp
  rw[qaw];have hf:=qGP (.mk o n s l);simp only[Ex.op,Ex.num,Ex.txt,Ex.args]at hf ⊢;simp only[qA4,hf,hcon,ev_bi_some,sm_some,gv_some,br_eq,jAa];rw[hal,Ex.args];have hna:(!l.any (fun x=>!Ex.allX qbw x))=l.all (Ex.allX qbw):=by
   rw[List.not_any_eq_all_not];simp
  cases qbw (.mk o n s l)<;>simp[hna]
theorem qGF{e:Ex}(h:e.nodes<=big):qzm e.op e.num e.txt (EX e.args)=some (e.allX qbw):=
 qdQ (qM1 e h)
theorem qd7{e:Ex}(h:e.nodes<=big):qiM e.op e.num e.txt (EX e.args)=some (qaO e):=by
 rw[qNc,qqT,qGM h,qGN h,qGO h,qGF h,qaO];have e1:decide ((e.nodes:Int)>64)=decide (e.nodes>64):=by
  by_cases h:e.nodes>64<;>simp[h]<;>omega
 have e2:decide (gv (some (e.dep:Int))>8)=decide (e.dep>8):=by
  show decide ((e.dep:Int)>8)=_;by_cases h:e.dep>8<;>simp[h]<;>omega
 simp only[ev_bi_some,br_eq,sm_some,e1,e2];cases decide (e.nodes>64)<;>cases decide (e.dep>8)<;>cases e.allX qaN<;>cases e.allX qbw<;>rfl
end Go.Proofs.H16
namespace Go.Tk
open Go Go.Eng
set_option linter.unusedSimpArgs false
set_option linter.unusedVariables false
theorem find_congr{α:Type}{p q:α->Bool}:∀{l:List α},(∀x∈l,p x=q x)->l.find? p=l.find? q
 | [],_=>rfl
 |x::l,h=>by
  simp only[List.find?_cons,h x (by simp)];rw[find_congr fun y hy=>h y (by simp[hy])]
theorem qEO{p:UInt8->Bool}{d:UInt8}(hd:p d=false):∀(l q:Bs),(l++d::q).takeWhile p=l.takeWhile p
 | [],q=>by simp[List.takeWhile,hd]
 |c::l,q=>by
  simp only[jAk,jBk];cases p c
  ·rfl
  ·rw[qEO hd l q]
theorem q2c{p:UInt8->Bool}(l:Bs):(l.takeWhile p).takeWhile p=l.takeWhile p:=qlN.2 q2d
def mk2:Bs->Bool
 | [_]=>true
 | [_,b]=>b==61
 |_=>false
theorem qDE:∀m∈marksS,mk2 m=true:=by decide
theorem zfL{m x:Bs}{d:UInt8}{q:Bs}(hx:x≠ [])(hm:mk2 m=true)(hd:d≠61):preB m (x++d::q)=preB m x:=by
 cases x with
 |nil=>exact absurd rfl hx
 |cons c r=>
  match m,hm with
  | [a],_=>simp[preB]
  | [a,b],hb=>
   have hb:b=61:=by simpa[mk2]using hb
   subst hb;cases r with
   |nil=>simp[preB,hd]
   |cons c' r=>simp[preB]
theorem qLN{x:Bs}(hx:x≠ []){d:UInt8}(hd:d=10\/d=32)(q:Bs):qay (x++d::q)=qay x:=by
 have h1:at8 qco d=false:=by rcases hd with rfl|rfl<;>rfl
 have h2:at8 qcM d=false:=by rcases hd with rfl|rfl<;>rfl
 have h3:d≠61:=by rcases hd with rfl|rfl<;>decide
 have hm:marksS.find? (preB · (x++d::q))=marksS.find? (preB · x):=find_congr fun m hm=>zfL hx (qDE m hm) h3
 have ht1:=qEO h1 x q;have ht2:=qEO h2 x q;cases x with
 |nil=>exact absurd rfl hx
 |cons c r=>
  simp only[jAk]at hm ht1 ht2 ⊢;simp only[qay,hm,ht1,ht2]
theorem qx4:∀m∈marksS,qay m=(4,m,0):=by decide
theorem qWJ{x:Bs}(h:(qay x).2.2=0):qay (qay x).2.1=qay x:=by
 cases x with
 |nil=>rfl
 |cons c r=>
  cases hl:at8 qei c
  ·cases hd:at8 qbh c
   ·have e:qay (c::r)=match marksS.find? (preB · (c::r))with|some m=>(4,m,0)|none=>(0,[],2):=by simp only[qay,hl,hd,jA9];rfl
    rw[e]at h ⊢;cases hf:marksS.find? (preB · (c::r))with
    |none=>rw[hf]at h;simp at h
    |some m=>exact qx4 m (jB4 hf)
   ·have e:qay (c::r)=qAc ((c::r).takeWhile (at8 qcM)):=by simp only[qay,hl,hd,jA9,jAa]
    have hn:at8 qcM c=true:=by simp only[at8,qcM,qco]at hd ⊢;simp[hd]
    have ht:(c::r).takeWhile (at8 qcM)=c::r.takeWhile (at8 qcM):=by simp[hn]
    have hk:(qAc ((c::r).takeWhile (at8 qcM))).2.2=0->(qAc ((c::r).takeWhile (at8 qcM))).2.1=(c::r).takeWhile (at8 qcM):=by
     unfold qAc;cases qgR ((c::r).takeWhile (at8 qcM))<;>cases nOk (Lib.parseIntB 64 ((c::r).takeWhile (at8 qcM)))<;>cases((qbm ((c::r).takeWhile (at8 qcM))).2==0)<;>cases((qbm ((c::r).takeWhile (at8 qcM))).2==1)<;>simp
    rw[e]at h ⊢;rw[hk h];have e2:qay ((c::r).takeWhile (at8 qcM))=qAc (((c::r).takeWhile (at8 qcM)).takeWhile (at8 qcM)):=by
     rw[ht];simp only[qay,hl,hd,jA9,jAa]
    rw[e2,q2c]
  ·have hn:at8 qco c=true:=by simp only[at8,qco]at hl ⊢;simp[hl]
   have ht:(c::r).takeWhile (at8 qco)=c::r.takeWhile (at8 qco):=by simp[hn]
   have e:∀y:Bs,qay (c::y)=bif qbT ((c::y).takeWhile (at8 qco))then(5,(c::y).takeWhile (at8 qco),0)else bif decide (((c::y).takeWhile (at8 qco)).length>16)then(0,[],4)else(1,(c::y).takeWhile (at8 qco),0):=by
    intro y;simp only[qay,hl,jAa]
   have hk:(qay (c::r)).2.1=(c::r).takeWhile (at8 qco):=by
    rw[e]at h ⊢;cases hw:qbT ((c::r).takeWhile (at8 qco))
    ·rw[hw]at h;cases hg:decide (((c::r).takeWhile (at8 qco)).length>16)
     ·rfl
     ·rw[hg]at h;simp at h
    ·rfl
   rw[hk]
   conv=>lhs;rw[ht,e]
   rw[<-ht,q2c,<-e]
def qPN:Bs->Bool
 | []=>false
 |c::_=>!spI c.toNat&& !((c.toNat:Int)==35)
theorem q5v:∀m∈marksS,qPN m=true:=by decide
theorem qWH{x:Bs}(h:(qay x).2.2=0):qPN x=true:=by
 cases x with
 |nil=>simp[qay]at h
 |cons c r=>
  cases hl:at8 qei c
  ·cases hd:at8 qbh c
   ·have e:qay (c::r)=match marksS.find? (preB · (c::r))with|some m=>(4,m,0)|none=>(0,[],2):=by simp only[qay,hl,hd,jA9];rfl
    rw[e]at h;cases hf:marksS.find? (preB · (c::r))with
    |none=>rw[hf]at h;simp at h
    |some m=>
     have h1:=q5v m (jB4 hf);have h2:=jC4 hf;simp only[preB,jA1,jA6,jB7]at h2;cases m with
     |nil=>cases h1
     |cons a m=>
      have h3:=h2.2;simp only[jA0,jCo,jC5]at h3;rw[h3.1];exact h1
   ·simp only[at8,qbh,jA1,jA6]at hd;simp only[qPN,spI,jA1,jB9,jB6,jBj];omega
  ·simp only[at8,qei,jA1,jA6]at hl;simp only[qPN,spI,jA1,jB9,jB6,jBj];omega
theorem zjJ{x:Bs}(h:qPN x=true):blk false x=0:=by
 cases x with
 |nil=>rfl
 |cons c r=>
  simp only[qPN,jA1,jB9]at h;simp only[blk,h.1,h.2,jA9]
theorem q5b{x y:Bs}(hx:x≠ []):qPN (x++y)=qPN x:=by
 cases x with
 |nil=>exact absurd rfl hx
 |cons c r=>rfl
theorem qTv{s:Bs}:∀(p:Bs),(p.all fun c=>spI c.toNat)=true->blk false (p++s)=p.length+blk false s
 | [],_=>by simp
 |c::p,h=>by
  simp only[jAw,jA1]at h;simp only[jAk,blk,h.1,jAa,jA0,qTv p h.2];omega
theorem qyy:∀(k k':Nat) (s:Bs) (line:Int) (acc:List Tok),s.length<k->s.length<k'->qfU k s line acc=qfU k' s line acc
 |0,_,s,_,_,h,_=>by omega
 |_,0,s,_,_,_,h=>by omega
 |k+1,k'+1,s,line,acc,h,h'=>by
  simp only[qfU];cases hq:s.drop (blk false s)with
  |nil=>rfl
  |cons c r=>
   simp only;cases he:((qay (c::r)).2.2 != 0)
   ·have he0:(qay (c::r)).2.2=0:=by simpa using he
    have hp:=jCp.2 (qcx he0).1;have hlen:(c::r).length<=s.length:=by rw[<-hq];simp
    simp only[jA0]at hlen;exact qyy k k' _ _ _ (by simp;omega) (by simp;omega)
   ·rfl
theorem qEL:∀(k:Nat) (s:Bs) (line:Int) (acc:List Tok),s.length<k->qfU k s line acc=bif (qfU k s line []).2.2 != 0 then qfU k s line []else(acc++(qfU k s line []).1,(qfU k s line []).2)
 |0,s,_,_,h=>by omega
 |k+1,s,line,acc,h=>by
  simp only[qfU];cases hq:s.drop (blk false s)with
  |nil=>simp
  |cons c r=>
   simp only;cases he:((qay (c::r)).2.2 != 0)
   ·have he0:(qay (c::r)).2.2=0:=by simpa using he
    have hp:=jCp.2 (qcx he0).1;have hlen:(c::r).length<=s.length:=by rw[<-hq];simp
    simp only[jA0]at hlen;simp only[jA9];have ih:=fun a=>qEL k ((c::r).drop (qay (c::r)).2.1.length) (line+(s.take (blk false s)).count 10) a (by simp;omega)
    rw[ih (acc++_),ih ([]++_)];cases hz:((qfU k ((c::r).drop (qay (c::r)).2.1.length) (line+(s.take (blk false s)).count 10) []).2.2 != 0)
    ·simp only[jA9,hz,jAf,jAx]
    ·simp only[jAa,hz]
   ·simp only[jAa,he]
def rdT(s:Bs)(line:Int):List Tok×Int×Int:=qfU (s.length+1) s line []
def qqa(t:Tok)(q:List Tok×Int×Int):List Tok×Int×Int:=bif q.2.2 != 0 then q else(t::q.1,q.2)
def stepT(x:Bs)(ln:Int):List Tok×Int×Int:=match x with
 | []=>([],0,0)
 |c::r=>bif (qay (c::r)).2.2 != 0 then([],ln,(qay (c::r)).2.2)else qqa ⟨(qay (c::r)).1,ln,(qay (c::r)).2.1⟩ (rdT ((c::r).drop (qay (c::r)).2.1.length) ln)
theorem qeW(s:Bs)(line:Int):rdT s line=stepT (s.drop (blk false s)) (line+(s.take (blk false s)).count 10):=by
 unfold rdT stepT;simp only[qfU];cases hq:s.drop (blk false s)with
 |nil=>rfl
 |cons c r=>
  simp only;cases he:((qay (c::r)).2.2 != 0)
  ·have he0:(qay (c::r)).2.2=0:=by simpa using he
   have hp:=jCp.2 (qcx he0).1;have hlen:(c::r).length<=s.length:=by rw[<-hq];simp
   simp only[jA0]at hlen;simp only[jA9];rw[qEL s.length _ _ _ (by simp;omega)];unfold rdT qqa;rw[qyy s.length (((c::r).drop (qay (c::r)).2.1.length).length+1) _ _ [] (by simp;omega) (by omega)];rfl
  ·rfl
theorem qpF{s:Bs}(h:s.length<=2048):qbp s=rdT s 1:=by
 unfold qbp rdT;rw[jAe (by omega)];rfl
theorem zcc(line:Int):rdT [] line=([],0,0):=rfl
theorem zpi{s:Bs}(h:qPN s=true)(line:Int):rdT s line=stepT s line:=by
 rw[qeW,zjJ h];simp
theorem zcd{p s:Bs}(h:blk false (p++s)=p.length+blk false s)(line:Int):rdT (p++s) line=rdT s (line+p.count 10):=by
 rw[qeW,qeW s,h];have h1:(p++s).drop (p.length+blk false s)=s.drop (blk false s):=by rw[<-List.drop_drop];simp
 have h2:(p++s).take (p.length+blk false s)=p++s.take (blk false s):=by rw[List.take_append];simp[jBb]
 rw[h1,h2,List.count_append]
 congr 1
 push_cast
 omega
def shT(d:Int)(q:List Tok×Int×Int):List Tok×Int×Int:=(q.1.map fun t=>⟨t.kind,t.line+d,t.text⟩,(bif q.2.2 != 0 then q.2.1+d else q.2.1),q.2.2)
def qaT(t:Tok):Bool:=(qbp t.text).2.2==0&&((qbp t.text).1.length==1&&match (qbp t.text).1 with
 |u::_=>u.kind==t.kind&&u.text==t.text
 | []=>false)
theorem qnL{t:Tok}(h:qay t.text=(t.kind,t.text,0))(hl:t.text.length<=2048):qaT t=true:=by
 have h0:(qay t.text).2.2=0:=by rw[h]
 have hh:=qWH h0;unfold qaT;rw[qpF hl,zpi hh];cases hx:t.text with
 |nil=>rw[hx]at hh;cases hh
 |cons c r=>
  rw[hx]at h h0;simp only[stepT,h];simp[zcc,qqa]
theorem qen{t:Tok}(h:qaT t=true):t.text.length<=2048/\qPN t.text=true/\qay t.text=(t.kind,t.text,0):=by
 by_cases hl:t.text.length<=2048
 ·refine⟨hl,?_⟩;unfold qaT at h;rw[qpF hl,qeW]at h;cases hx:t.text.drop (blk false t.text)with
  |nil=>rw[hx]at h;simp[stepT]at h
  |cons c r=>
   rw[hx]at h;simp only[stepT]at h;cases he:((qay (c::r)).2.2 != 0)
   ·have he0:(qay (c::r)).2.2=0:=by simpa using he
    rw[he]at h;simp only[jA9,qqa]at h;cases hz:((rdT ((c::r).drop (qay (c::r)).2.1.length) (1+((t.text.take (blk false t.text)).count 10:Nat))).2.2 != 0)
    ·rw[hz]at h;simp only[jA9,jA1,jB7]at h;obtain⟨_,_,h1,h2⟩:=h;obtain⟨_,y,hy⟩:=qcx he0;have hlen:(qay (c::r)).2.1.length+y.length+blk false t.text=t.text.length:=by
      have:=congrArg List.length hx;rw[jB0]at this;have h3:=congrArg List.length hy;rw[jA2]at h3;have:=qmQ false t.text;omega
     rw[h2]at hlen;have hb:blk false t.text=0:=by omega
     rw[hb,List.drop_zero]at hx;refine⟨?_,?_⟩
     ·rw[hx];exact qWH he0
     ·rw[hx]at h2 ⊢;exact Prod.ext h1 (Prod.ext h2 he0)
    ·rw[hz]at h;simp only[jAa,jA1,jB7]at h;rw[h.1]at hz;simp at hz
   ·rw[he]at h;simp only[jAa,jA1,jB7]at h;rw[h.1]at he;simp at he
 ·unfold qaT qbp at h;rw[jA8 (by omega)]at h;simp at h
def qkn(i:Nat)(n:Int)(t:Tok):Bs:=List.replicate (t.line-n).toNat 10++(if i>0/\t.line=n then[32]else[])
def qwF:Nat->Int->List Tok->Bs
 |_,_,[]=>[]
 |i,n,t::l=>qkn i n t++(t.text++qwF (i+1) t.line l)
def okJ:Nat->Int->Nat->List Tok->Bool
 |_,_,_,[]=>true
 |i,n,k,t::l=>decide (t.line-n<=2048)&&(decide (k+(qkn i n t).length+t.text.length<=2048)&&okJ (i+1) t.line (k+(qkn i n t).length+t.text.length) l)
theorem zfb:∀(l:List Tok) (i:Nat) (n:Int) (acc:Bs),jnF i n acc l=bif okJ i n acc.length l then(acc++qwF i n l,0)else([],5)
 | [],i,n,acc=>by simp[jnF,okJ,qwF]
 |t::l,i,n,acc=>by
  have ih:=zfb l (i+1) t.line (acc++List.replicate (t.line-n).toNat 10++(if i>0/\t.line=n then[32]else[])++t.text);have hacc:acc++List.replicate (t.line-n).toNat 10++(if i>0/\t.line=n then[32]else[])++t.text=acc++(qkn i n t++t.text):=by simp[qkn,jAf]
  rw[hacc]at ih;simp only[jnF,okJ,hacc,ih];by_cases h1:t.line-n>2048
  ·rw[jAr h1,jAe (by omega)];rfl
  ·rw[jAm h1,jA8 (by omega)];by_cases h2:2048<(acc++(qkn i n t++t.text)).length
   ·rw[jAr h2,jAe (by simp at h2;omega)];rfl
   ·rw[jAm h2,jA8 (by simp at h2;omega)];simp only[jBm,jA2,jCn,qwF,jAf]
theorem zmb(i:Nat)(n:Int)(t:Tok):((qkn i n t).all fun c=>spI c.toNat)=true:=by
 unfold qkn;rw[jCk,jA1];refine⟨by simp[spI],?_⟩;split<;>rfl
theorem q1D{i:Nat}{n:Int}{t:Tok}(h:n<=t.line):n+((qkn i n t).count 10:Nat)=t.line:=by
 unfold qkn;rw[List.count_append,List.count_replicate_self];have:(if i>0/\t.line=n then[(32:UInt8)]else[]).count 10=0:=by split<;>rfl
 rw[this];omega
theorem zmU{V:Tok->Bool}{i:Nat}{n:Int}:∀{l:List Tok},qlV V n l=true->qwF (i+1) n l= []\/ ∃d q,(d=10\/d=32)/\qwF (i+1) n l=d::q
 | [],_=>.inl rfl
 |t::l,h=>by
  simp only[qlV,jA1,jA6]at h;right;simp only[qwF,qkn];by_cases he:t.line=n
  ·rw[jAr ⟨Nat.succ_pos i,he⟩,he];exact⟨32,_,.inr rfl,by simp;rfl⟩
  ·obtain⟨k,hk⟩:∃k,(t.line-n).toNat=k+1:=⟨(t.line-n).toNat-1,by omega⟩;rw[hk,List.replicate_succ];exact⟨10,_,.inl rfl,by simp only[jAk];rfl⟩
theorem zjD:∀(l:List Tok) (i:Nat) (n:Int),qlV qaT n l=true->rdT (qwF i n l) n=(l,0,0)
 | [],i,n,_=>rfl
 |t::l,i,n,h=>by
  have h':=h;simp only[qlV,jA1,jA6]at h';obtain⟨hv,hn,hc⟩:=h';obtain⟨hl,hh,hx⟩:=qen hv;have hne:t.text≠ []:=by intro he;rw[he]at hh;cases hh
  have hnx:qay (t.text++qwF (i+1) t.line l)=(t.kind,t.text,0):=by
   rcases zmU (i:=i) hc with h1|⟨d,q,hd,h1⟩
   ·rw[h1,jC6,hx]
   ·rw[h1,qLN hne hd,hx]
  simp only[qwF];rw[zcd (qTv _ (zmb i n t)),q1D hn,zpi (by rw[q5b hne];exact hh)];have ih:=zjD l (i+1) t.line hc;have hdrop:(t.text++qwF (i+1) t.line l).drop t.text.length=qwF (i+1) t.line l:=by simp
  cases hq:t.text++qwF (i+1) t.line l with
  |nil=>exact absurd (List.append_eq_nil_iff.1 hq).1 hne
  |cons c r=>
   rw[hq]at hnx hdrop;simp only[stepT,hnx,hdrop,ih];rfl
theorem qTg:∀(k:Nat) (s:Bs) (n:Int) (l:List Tok),s.length<=k->s.length<=2048->rdT s n=(l,0,0)->qlV qaT n l=true/\ ∀i m,m+2*s.length<=2048->okJ i n m l=true:=by
 intro k
 induction k with
 |zero=>
  intro s n l h _ hT;have:s= []:=jAy.1 (by omega);subst this;rw[zcc]at hT;cases hT;exact⟨rfl,fun _ _ _=>rfl⟩
 |succ k ih=>
  intro s n l h h2 hT;rw[qeW]at hT;cases hx:s.drop (blk false s)with
  |nil=>rw[hx]at hT;cases hT;exact⟨rfl,fun _ _ _=>rfl⟩
  |cons c r=>
   rw[hx]at hT;simp only[stepT]at hT;have hlen:=congrArg List.length hx;rw[jB0]at hlen;have hble:=qmQ false s;have hcnt:(s.take (blk false s)).count 10<=blk false s:=jAz List.count_le_length (by simp;omega);cases he:((qay (c::r)).2.2 != 0)
   ·have he0:(qay (c::r)).2.2=0:=by simpa using he
    obtain⟨hp,y,hy⟩:=qcx he0;have hp:=jCp.2 hp;have hy':=congrArg List.length hy;rw[jA2]at hy';rw[he]at hT;simp only[jA9,qqa]at hT;cases hz:((rdT ((c::r).drop (qay (c::r)).2.1.length) (n+((s.take (blk false s)).count 10:Nat))).2.2 != 0)
    ·have hz0:(rdT ((c::r).drop (qay (c::r)).2.1.length) (n+((s.take (blk false s)).count 10:Nat))).2.2=0:=by simpa using hz
     rw[hz]at hT;simp only[jA9,jAd]at hT;obtain⟨rfl,ht2⟩:=hT;have hdl:((c::r).drop (qay (c::r)).2.1.length).length=(c::r).length-(qay (c::r)).2.1.length:=by rw[jB0]
     obtain⟨i1,i2⟩:=ih ((c::r).drop (qay (c::r)).2.1.length) (n+((s.take (blk false s)).count 10:Nat)) _ (by omega) (by omega) (Prod.ext rfl ht2);refine⟨?_,fun i m hm=>?_⟩
     ·simp only[qlV,jA1,jA6];refine⟨qnL ?_ ?_,by omega,i1⟩
      ·show qay (qay (c::r)).2.1=_;rw[qWJ he0,<-he0]
      ·show(qay (c::r)).2.1.length<=2048;omega
     ·have hsep:(qkn i n ⟨(qay (c::r)).1,n+((s.take (blk false s)).count 10:Nat),(qay (c::r)).2.1⟩).length<=blk false s+1:=by
       unfold qkn;simp only[jA2,List.length_replicate];split
       ·simp only[jA0,jA4];omega
       ·simp only[jA4];omega
      simp only[okJ,jA1,jA6];refine⟨by omega,by omega,i2 _ _ (by omega)⟩
    ·rw[hz]at hT;simp only[jAa]at hT;rw[hT]at hz;simp at hz
   ·rw[he]at hT;simp only[jAa,jAd]at hT;rw[hT.2.2]at he;simp at he
end Go.Tk
namespace Go.Tk
open Go Go.Eng
set_option linter.unusedSimpArgs false
set_option linter.unusedVariables false
def plS(s:Bs):Nat:=bif decide ((s.takeWhile (at8 qbh)).length>1)&&s.head? == some 48 then 0 else(s.takeWhile (at8 qbh)).length
def qVe(r:Bs):Bool:=r== []||(decide (2<=r.length)&&(decide (r.length<=5)&&(r.head? == some 46&&(r.getLast? != some 48&&(r.drop 1).all (at8 qbh)))))
def qot(s:Bs):Bool:=plS s != 0&&(s.getLast? == some 37&&qVe ((s.drop (plS s)).dropLast))
theorem qI2{c:UInt8}(h:at8 qbh c=true):c≠46:=by rintro rfl;cases h
theorem qyE{p:UInt8->Bool}{l:Bs}(hl:l.all p=true){d:UInt8}(hd:p d=false)(q:Bs):(l++d::q).takeWhile p=l:=by
 rw[qEO hd];exact qlN.2 hl
theorem qsQ(t:Bs):(t=(qdt t).1++(bif (qdt t).2.2 then 46::(qdt t).2.1 else[]))/\((qdt t).2.2=false->(qdt t).2.1= []):=by
 unfold qdt;cases h:t.dropWhile (· != 46)with
 |nil=>
  refine⟨by simp,fun _=>rfl⟩
 |cons x r=>
  simp only[jAa];have hx:x=46:=by
   have:=List.head?_dropWhile_not (p:=(· != 46)) (l:=t);rw[h]at this;simpa using this
  refine⟨?_,fun h=>by cases h⟩;subst hx;rw[<-h,List.takeWhile_append_dropWhile]
theorem q9o{p:UInt8->Bool}:∀{l:Bs},(∀x∈l,p x=true)->l.dropWhile p= []
 | [],_=>rfl
 |x::l,h=>by rw[List.dropWhile_cons,h x (by simp)];exact q9o fun y hy=>h y (by simp[hy])
theorem qsP{d:Bs}(hd:d.all (at8 qbh)=true):qdt d=(d,[],false):=by
 unfold qdt;have:d.dropWhile (· != 46)= []:=by
  refine q9o fun x hx=>?_
  have:=qI2 (jAb.1 hd x hx);simpa using this
 rw[this]
theorem qwT{d:Bs}(hd:d.all (at8 qbh)=true)(r:Bs):qdt (d++46::r)=(d,r,true):=by
 unfold qdt;have hall:d.all (· != 46)=true:=by
  rw[jAb];intro x hx;have:=qI2 (jAb.1 hd x hx);simpa using this
 have h1:(d++46::r).takeWhile (· != 46)=d:=qyE hall (by rfl) r;have h2:(d++46::r).dropWhile (· != 46)=46::r:=by
  have:=List.takeWhile_append_dropWhile (p:=(· != 46)) (l:=d++46::r);rw[h1]at this;exact List.append_cancel_left this
 rw[h1,h2]
theorem qbb{a:Bs}:qgR a=true ↔ a.all (at8 qbh)=true/\a≠ []/\(a.length=1\/a.head? ≠ some 48):=by
 unfold qgR;simp only[jA1,bne_iff_ne,ne_eq,jAv,jB7];constructor
 ·rintro⟨h1,h2,h3⟩;refine⟨h1,h2,h3.imp (fun h=>by omega) id⟩
 ·rintro⟨h1,h2,h3⟩;refine⟨h1,h2,h3.imp (fun h=>by omega) id⟩
theorem qAn{a:Bs}(h:qgR a=true){d:UInt8}(hd:at8 qbh d=false)(q:Bs):plS (a++d::q)=a.length:=by
 obtain⟨h1,h2,h3⟩:=qbb.1 h;unfold plS;rw[qyE h1 hd];have hh:(a++d::q).head? = a.head?:=by
  cases a with
  |nil=>exact absurd rfl h2
  |cons=>rfl
 rw[hh];rcases h3 with h3|h3
 ·simp[h3]
 ·have:(a.head? == some 48)=false:=by simpa using h3
  simp[this]
theorem qVf{b:Bs}:qVe (46::b)=qfT b:=by
 unfold qVe qfT;cases b with
 |nil=>rfl
 |cons c r=>
  have h1:((46::c::r:Bs)== [])=false:=rfl;have h2:((c::r:Bs) != [])=true:=rfl;have h3:(46::c::r:Bs).getLast? = (c::r).getLast?:=by simp[List.getLast?_cons_cons]
  rw[h1,h2,h3];simp only[Bool.false_or,jBm,jA0,List.head?_cons,List.drop_succ_cons,List.drop_zero,beq_self_eq_true];rw[show decide (2<=r.length+1+1)=true from jA8 (by omega)];have h4:decide (r.length+1+1<=5)=decide (r.length+1<=4):=by
   by_cases h:r.length+1<=4
   ·rw[jA8 h,jA8 (by omega)]
   ·rw[jAe h,jAe (by omega)]
  rw[h4];simp only[jBm];cases decide (r.length+1<=4)<;>cases((c::r).getLast? != some 48)<;>cases(c::r).all (at8 qbh)<;>rfl
def rtB(t:Bs):Bool:=qgR (qdt t).1&&(!(qdt t).2.2||qfT (qdt t).2.1)
theorem qHd(s:Bs):qot s=(s.getLast? == some 37&&rtB s.dropLast):=by
 by_cases hl:s.getLast? = some 37
 ·have hs:s=s.dropLast++[37]:=by
   have hne:s≠ []:=by rintro rfl;simp at hl
   have:=List.dropLast_concat_getLast hne;rw[List.getLast?_eq_some_getLast hne,jA7]at hl;rw[hl]at this;exact this.symm
  generalize ht:s.dropLast=t at hs;subst hs;have hb:((t++[37]).getLast? == some 37)=true:=by simp
  unfold qot;rw[hb,jBm,jBm];obtain⟨hc,hc0⟩:=qsQ t;unfold rtB;cases hi:qgR (qdt t).1
  ·simp only[Bool.false_and];cases hp:(plS (t++[37]) != 0)
   ·rfl
   ·simp only[jBm];have hp0:plS (t++[37])≠0:=by simpa using hp
    have htw:(t++[37]).takeWhile (at8 qbh)=t.takeWhile (at8 qbh):=qEO rfl t [];have hpl:plS (t++[37])=(t.takeWhile (at8 qbh)).length/\((t.takeWhile (at8 qbh)).length>1->(t++[37]).head? ≠ some 48):=by
     unfold plS at hp0 ⊢;rw[htw]at hp0 ⊢;cases hq:(decide ((t.takeWhile (at8 qbh)).length>1)&&(t++[37]).head? == some 48)
     ·rw[jA9];refine⟨rfl,fun h1 h2=>?_⟩;rw[jA8 h1,h2]at hq;simp at hq
     ·rw[hq]at hp0;simp at hp0
    obtain⟨hpl,hz⟩:=hpl;rw[hpl]at hp0;have hle:=qgU (p:=at8 qbh) t;have hdl:((t++[37]).drop (t.takeWhile (at8 qbh)).length).dropLast=t.drop (t.takeWhile (at8 qbh)).length:=by
     rw[List.drop_append_of_le_length hle];simp
    rw[hpl,hdl,drop_tw];have hsplit:=List.takeWhile_append_dropWhile (p:=at8 qbh) (l:=t);have hd:=q2d (p:=at8 qbh) (l:=t);have hdi:qgR (t.takeWhile (at8 qbh))=true:=by
     refine qbb.2 ⟨hd,fun h=>hp0 (by rw[h];rfl),?_⟩;by_cases h1:(t.takeWhile (at8 qbh)).length>1
     ·right;have:=hz h1;cases t with
      |nil=>simp at h1
      |cons c r=>
       cases hcd:at8 qbh c
       ·simp[hcd]at h1
       ·simpa[jBk,hcd]using this
     ·left;omega
    cases hr:t.dropWhile (at8 qbh)with
    |nil=>
     rw[hr,jC6]at hsplit;rw[<-hsplit,qsP hd]at hi;rw[hdi]at hi;cases hi
    |cons x r=>
     rw[hr]at hsplit;by_cases hx:x=46
     ·subst hx;rw[<-hsplit,qwT hd]at hi;rw[hdi]at hi;cases hi
     ·unfold qVe;have h1:((x::r:Bs)== [])=false:=rfl;have h2:((x::r:Bs).head? == some 46)=false:=by simpa using hx
      rw[h1,h2];simp
  ·simp only[jBm];cases hf:(qdt t).2.2
   ·rw[hf,jA9,jC6]at hc;have hpl:plS (t++[37])=t.length:=by
     rw[<-hc]at hi;exact qAn hi rfl []
    have ht0:t≠ []:=by
     rw[<-hc]at hi;exact(qbb.1 hi).2.1
    have:t.length≠0:=fun h=>ht0 (jAy.1 h)
    rw[hpl,List.drop_left];have h1:(t.length != 0)=true:=by simpa using this
    rw[h1];rfl
   ·rw[hf,jAa]at hc;have hne:=(qbb.1 hi).2.1;have hpl:plS (t++[37])=(qdt t).1.length:=by
     have:=qAn hi (d:=46) rfl ((qdt t).2.1++[37]);rw[show(qdt t).1++46::((qdt t).2.1++[37])=t++[37] by conv=>rhs;rw[hc];simp]at this;exact this
    have hd:((t++[37]).drop (qdt t).1.length).dropLast=46::(qdt t).2.1:=by
     have:t++[37]=(qdt t).1++(46::(qdt t).2.1++[37]):=by
      rw[show(qdt t).1++(46::(qdt t).2.1++[37])=((qdt t).1++46::(qdt t).2.1)++[37] by simp,<-hc]
     rw[this,List.drop_left,List.dropLast_concat]
    have h1:((qdt t).1.length != 0)=true:=by
     have:(qdt t).1.length≠0:=fun h=>hne (jAy.1 h)
     simpa using this
    rw[hpl,hd,h1,qVf];simp
 ·have:(s.getLast? == some 37)=false:=by simpa using hl
  unfold qot;rw[this];simp
theorem qAt(s:Bs):((qbm s).2 != 2)=qot s:=by
 rw[qHd];unfold qbm rtB;cases hl:(s.getLast? == some 37)
 ·rfl
 ·simp only[jAa,jBm];cases qgR (qdt s.dropLast).1<;>cases(qdt s.dropLast).2.2<;>cases qfT (qdt s.dropLast).2.1<;>cases decide ((qdt s.dropLast).1.length>3)<;>cases decide ((qa7 0 ((qdt s.dropLast).1++qi3 (qdt s.dropLast).2.1):Int)>1000000)<;>rfl
theorem qg2(a:Nat)(x y:Bs):qa7 a (x++y)=qa7 (qa7 a x) y:=by simp[qa7,List.foldl_append]
theorem qfR:∀(l:Bs) (a:Nat),qa7 a l=a*10^l.length+qa7 0 l
 | [],a=>by simp[qa7]
 |c::r,a=>by
  have h1:=qfR r (a*10+(c.toNat-48));have h2:=qfR r (0*10+(c.toNat-48));simp only[qa7,jC3,jA0]at h1 h2 ⊢;rw[h1,h2,Nat.pow_succ];simp only[Nat.zero_mul,jCl,jBe];rw[Nat.mul_assoc,Nat.mul_comm 10];omega
theorem qeM{c:UInt8}(h:at8 qbh c=true):48<=c.toNat/\c.toNat<=57:=by
 simp only[at8,qbh,jA1,jA6]at h;omega
theorem qH4{p:Bs}(h:p.length<=4):(qi3 p).length=4:=by simp[qi3];omega
theorem qY5{p:Bs}(h:p.all (at8 qbh)=true):(qi3 p).all (at8 qbh)=true:=by
 unfold qi3;rw[jCk,h];simp[at8,qbh]
theorem qh7{c:UInt8}(h:at8 qbh c=true):UInt8.ofNat (48+(c.toNat-48))=c:=by
 have:=qeM h;rw[show 48+(c.toNat-48)=c.toNat by omega];exact UInt8.ofNat_toNat
theorem qwU:∀(n:Nat) (a:Bs),a.length<=n->qgR a=true->Lib.decDigits (qa7 0 a)=a:=by
 intro n
 induction n with
 |zero=>
  intro a h hi;exact absurd (jAy.1 (by omega)) (qbb.1 hi).2.1
 |succ n ih=>
  intro a h hi;obtain⟨h1,h2,h3⟩:=qbb.1 hi;obtain⟨b,c,rfl⟩:∃b c,a=b++[c]:=⟨a.dropLast,a.getLast h2,(List.dropLast_concat_getLast h2).symm⟩;rw[jCk,jA1]at h1;have hc:at8 qbh c=true:=by simpa using h1.2
  have hr:=qeM hc;have hv:qa7 0 (b++[c])=qa7 0 b*10+(c.toNat-48):=by rw[qg2];rfl
  by_cases hb:b= []
  ·subst hb;rw[hv];show Lib.decDigits (0*10+(c.toNat-48))= [c];rw[Lib.decDigits,dif_pos (by omega),Nat.zero_mul,jCl,qh7 hc]
  ·have hhd:(b++[c]).head? = b.head?:=by
    cases b with
    |nil=>exact absurd rfl hb
    |cons=>rfl
   have hlen:(b++[c]).length≠1:=by
    have:b.length≠0:=fun h=>hb (jAy.1 h)
    simp;omega
   have h48:b.head? ≠ some 48:=by rw[<-hhd];exact h3.resolve_left hlen
   have hib:qgR b=true:=qbb.2 ⟨h1.1,hb,.inr h48⟩;have hpos:1<=qa7 0 b:=by
    cases b with
    |nil=>exact absurd rfl hb
    |cons x r=>
     have hx:=h1.1;simp only[jAw,jA1]at hx;have hxr:=qeM hx.1;have hx48:x.toNat≠48:=fun he=>h48 (by
      have:x=48:=UInt8.toNat_inj.1 (by simpa using he);rw[this];rfl)
     have:=qsR r (0*10+(x.toNat-48));show 1<=qa7 (0*10+(x.toNat-48)) r;omega
   rw[hv,Lib.decDigits,dif_neg (by omega),show(qa7 0 b*10+(c.toNat-48)) / 10=qa7 0 b by omega,show(qa7 0 b*10+(c.toNat-48))%10=c.toNat-48 by omega,ih b (by simp at h;omega) hib,qh7 hc]
theorem qc5{k:Nat}(h:k<10):at8 qbh (UInt8.ofNat (48+k))=true/\(UInt8.ofNat (48+k)).toNat=48+k:=by
 have h2:(UInt8.ofNat (48+k)).toNat=48+k:=by rw[UInt8.toNat_ofNat'];omega
 refine⟨?_,h2⟩;unfold at8 qbh;rw[h2,jA1];exact⟨jA8 (by omega),jA8 (by omega)⟩
theorem qhS:∀(n u:Nat),u<=n->qgR (Lib.decDigits u)=true/\qa7 0 (Lib.decDigits u)=u/\(u≠0->(Lib.decDigits u).head? ≠ some 48):=by
 intro n
 induction n using Nat.strongRecOn with
 |_ n ih=>
  intro u hu;by_cases h:u<10
  ·obtain⟨h1,h2⟩:=qc5 h;rw[Lib.decDigits,dif_pos h];refine⟨qbb.2 ⟨by simpa using h1,by simp,.inl rfl⟩,?_,fun h0 he=>?_⟩
   ·show 0*10+((UInt8.ofNat (48+u)).toNat-48)=u;rw[h2];omega
   ·simp only[List.head?_cons,jA7]at he;have:=congrArg UInt8.toNat he;rw[h2]at this;have:48+u=48:=this;omega
  ·have hlt:u%10<10:=Nat.mod_lt _ (by decide);obtain⟨h1,h2⟩:=qc5 hlt;obtain⟨i1,i2,i3⟩:=ih (u / 10) (by omega) (u / 10) (jAj _);obtain⟨j1,j2,j3⟩:=qbb.1 i1;rw[Lib.decDigits,dif_neg h];have hhd:(Lib.decDigits (u / 10)++[UInt8.ofNat (48+u%10)]).head? = (Lib.decDigits (u / 10)).head?:=by
    cases hq:Lib.decDigits (u / 10)with
    |nil=>exact absurd hq j2
    |cons=>rfl
   have h48:=i3 (by omega);refine⟨qbb.2 ⟨?_,by simp,.inr (by rw[hhd];exact h48)⟩,?_,fun _=>by rw[hhd];exact h48⟩
   ·rw[jCk,j1];simpa using h1
   ·rw[qg2,i2];show u / 10*10+((UInt8.ofNat (48+u%10)).toNat-48)=u;rw[h2];omega
def four(m:Nat):Bs:=[UInt8.ofNat (48+m / 1000%10),UInt8.ofNat (48+m / 100%10),UInt8.ofNat (48+m / 10%10),UInt8.ofNat (48+m%10)]
theorem q4L{m:Nat}(h:m<10000):Lib.decDigits (10000+m)=49::four m:=by
 rw[Lib.decDigits,dif_neg (by omega),Lib.decDigits,dif_neg (by omega),Lib.decDigits,dif_neg (by omega),Lib.decDigits,dif_neg (by omega),Lib.decDigits,dif_pos (by omega)];unfold four;have e1:(10000+m) / 10 / 10 / 10 / 10=1:=by omega
 have e2:(10000+m) / 10 / 10 / 10%10=m / 1000%10:=by omega
 have e3:(10000+m) / 10 / 10%10=m / 100%10:=by omega
 have e4:(10000+m) / 10%10=m / 10%10:=by omega
 have e5:(10000+m)%10=m%10:=by omega
 rw[e1,e2,e3,e4,e5];rfl
theorem q44(m:Nat):(four m).all (at8 qbh)=true:=by
 simp only[four,jAw,List.all_nil,jBt,jA1];exact⟨(qc5 (by omega)).1,(qc5 (by omega)).1,(qc5 (by omega)).1,(qc5 (by omega)).1⟩
theorem q45{m:Nat}(h:m<10000):qa7 0 (four m)=m:=by
 simp only[four,qa7,jC3,List.foldl_nil];rw[(qc5 (k:=m / 1000%10) (by omega)).2,(qc5 (k:=m / 100%10) (by omega)).2,(qc5 (k:=m / 10%10) (by omega)).2,(qc5 (k:=m%10) (by omega)).2];omega
theorem q4M{l:Bs}(hl:l.length=4)(ha:l.all (at8 qbh)=true):four (qa7 0 l)=l:=by
 match l,hl with
 | [x,y,z,u],_=>
  simp only[jAw,List.all_nil,jBt,jA1]at ha;obtain⟨h1,h2,h3,h4⟩:=ha;have r1:=qeM h1;have r2:=qeM h2;have r3:=qeM h3;have r4:=qeM h4;have hv:qa7 0 [x,y,z,u]=(((x.toNat-48)*10+(y.toNat-48))*10+(z.toNat-48))*10+(u.toNat-48):=by
   simp[qa7]
  rw[hv];unfold four;rw[show((((x.toNat-48)*10+(y.toNat-48))*10+(z.toNat-48))*10+(u.toNat-48)) / 1000%10=x.toNat-48 by omega,
   show((((x.toNat-48)*10+(y.toNat-48))*10+(z.toNat-48))*10+(u.toNat-48)) / 100%10=y.toNat-48 by omega,
   show((((x.toNat-48)*10+(y.toNat-48))*10+(z.toNat-48))*10+(u.toNat-48)) / 10%10=z.toNat-48 by omega,
   show((((x.toNat-48)*10+(y.toNat-48))*10+(z.toNat-48))*10+(u.toNat-48))%10=u.toNat-48 by omega,qh7 h1,qh7 h2,qh7 h3,qh7 h4]
theorem qnU(l:Bs)(c:UInt8):Lib.trimRightB (l++[c]) 48=if c=48 then Lib.trimRightB l 48 else l++[c]:=by
 unfold Lib.trimRightB;rw[List.reverse_append];simp only[List.reverse_cons,List.reverse_nil,jAx,jAk,List.dropWhile_cons,jB7];split
 ·rfl
 ·simp
theorem q2b{l:Bs}(h:l= []\/l.getLast? ≠ some 48)(k:Nat):Lib.trimRightB (l++List.replicate k 48) 48=l:=by
 induction k with
 |zero=>
  rw[List.replicate_zero,jC6];rcases h with rfl|h
  ·rfl
  ·by_cases hl:l= []
   ·subst hl;rfl
   ·obtain⟨b,c,rfl⟩:∃b c,l=b++[c]:=⟨l.dropLast,l.getLast hl,(List.dropLast_concat_getLast hl).symm⟩;rw[qnU,jAm (by simpa using h)]
 |succ k ih=>rw[List.replicate_succ',<-jAf,qnU,jAr rfl,ih]
theorem qwm:∀(n:Nat) (l:Bs),l.length=n-> ∃k,l=Lib.trimRightB l 48++List.replicate k 48/\(Lib.trimRightB l 48= []\/(Lib.trimRightB l 48).getLast? ≠ some 48):=by
 intro n
 induction n with
 |zero=>
  intro l h;have:l= []:=jAy.1 h;subst this;exact⟨0,rfl,.inl rfl⟩
 |succ n ih=>
  intro l h;have hl:l≠ []:=by rintro rfl;simp at h
  obtain⟨b,c,rfl⟩:∃b c,l=b++[c]:=⟨l.dropLast,l.getLast hl,(List.dropLast_concat_getLast hl).symm⟩;rw[qnU];split
  ·rename_i hc;subst hc;obtain⟨k,h1,h2⟩:=ih b (by simpa using h);refine⟨k+1,?_,h2⟩;rw[List.replicate_succ',<-jAf,<-h1]
  ·rename_i hc;exact⟨0,by simp,.inr (by simpa using hc)⟩
def qdl(p:Bs):Bs:=bif p != []then 46::p else[]
def qiu(n:Nat):Bs:=Lib.decDigits (n / 10000)++(qdl (Lib.trimRightB (four (n%10000)) 48)++[37])
theorem qkE{m:Nat}(h:m<10000):(Lib.trimRightB (four m) 48).all (at8 qbh)=true/\(Lib.trimRightB (four m) 48).length<=4/\qi3 (Lib.trimRightB (four m) 48)=four m/\(Lib.trimRightB (four m) 48≠ []->qfT (Lib.trimRightB (four m) 48)=true):=by
 obtain⟨k,h1,h2⟩:=qwm 4 (four m) rfl;have ha:=q44 m;rw[h1,jCk,jA1]at ha;have hlen:=congrArg List.length h1;rw[jA2,List.length_replicate]at hlen;have h4:(four m).length=4:=rfl;refine⟨ha.1,by omega,?_,fun hne=>?_⟩
 ·unfold qi3;rw[show 4-(Lib.trimRightB (four m) 48).length=k by omega,<-h1]
 ·unfold qfT;have e1:(Lib.trimRightB (four m) 48 != [])=true:=by simpa using hne
  have e2:((Lib.trimRightB (four m) 48).getLast? != some 48)=true:=by simpa using h2.resolve_left hne
  rw[e1,e2,ha.1,jA8 (by omega)];rfl
theorem qTM{a p:Bs}(ha:qgR a=true):qdt (a++qdl p)=(a,p,p != []):=by
 unfold qdl;have h1:=(qbb.1 ha).1;cases hp:(p != [])
 ·have:p= []:=by simpa using hp
  subst this;rw[jA9,jC6,qsP h1]
 ·rw[jAa,qwT h1]
theorem qH9{a p:Bs}(ha:qgR a=true)(hp:p≠ []->qfT p=true):qbm (a++(qdl p++[37]))=bif decide (a.length>3)then((0:Int),(1:Int))else bif decide ((qa7 0 (a++qi3 p):Int)>1000000)then(0,1)else(((qa7 0 (a++qi3 p):Nat):Int),0):=by
 have h1:((a++(qdl p++[37])).getLast? == some 37)=true:=by rw[<-jAf];simp
 have h2:(a++(qdl p++[37])).dropLast=a++qdl p:=by rw[<-jAf,List.dropLast_concat]
 unfold qbm;rw[h1,h2,qTM ha];simp only[jAa,ha,Bool.not_true,Bool.false_or];have h3:((p != [])&& !qfT p)=false:=by
  cases hq:(p != [])
  ·rfl
  ·rw[hp (by simpa using hq)];rfl
 rw[h3,jA9]
theorem qAs{n:Nat}(h:n<=1000000):qbm (qiu n)=((n:Int),0):=by
 obtain⟨i1,i2,_⟩:=qhS (n / 10000) (n / 10000) (jAj _);obtain⟨t1,t2,t3,t4⟩:=qkE (m:=n%10000) (Nat.mod_lt _ (by decide));unfold qiu;rw[qH9 i1 t4,t3];have hlen:(Lib.decDigits (n / 10000)).length<=3:=by
  rw[Lib.decDigits_length];have h1:n / 10000<=100:=by omega
  rcases jCb (n / 10000) 10 with h2|h2
  ·rw[Lib.nDigits_small h2];omega
  ·rw[Lib.nDigits_big (by omega)];rcases jCb (n / 10000 / 10) 10 with h3|h3
   ·rw[Lib.nDigits_small h3];omega
   ·rw[Lib.nDigits_big (by omega),Lib.nDigits_small (by omega)];omega
 have hv:qa7 0 (Lib.decDigits (n / 10000)++four (n%10000))=n:=by
  rw[qg2,i2,qfR,q45 (Nat.mod_lt _ (by decide))];show n / 10000*10^4+n%10000=n;omega
 rw[hv,jAe (by omega),jAe (by omega)];rfl
theorem q5P{s:Bs}(h:(qbm s).2=0):0<=(qbm s).1/\(qbm s).1<=1000000/\qiu (qbm s).1.toNat=s:=by
 have hf:qot s=true:=by rw[<-qAt,h];rfl
 rw[qHd,jA1,jB7]at hf;obtain⟨hl,hr⟩:=hf;have hs:s=s.dropLast++[37]:=by
  have hne:s≠ []:=by rintro rfl;simp at hl
  have:=List.dropLast_concat_getLast hne;rw[List.getLast?_eq_some_getLast hne,jA7]at hl;rw[hl]at this;exact this.symm
 generalize s.dropLast=t at hs hr;subst hs;unfold rtB at hr;rw[jA1]at hr;obtain⟨hi,hp⟩:=hr;obtain⟨hc,hc0⟩:=qsQ t;obtain⟨p,hpp,hcp⟩:∃p,(p≠ []->qfT p=true)/\t=(qdt t).1++qdl p:=by
  cases hq:(qdt t).2.2
  ·refine⟨[],fun h=>absurd rfl h,?_⟩;rw[hq]at hc;simpa[qdl]using hc
  ·rw[hq]at hp hc;have hpb:qfT (qdt t).2.1=true:=by simpa using hp
   refine⟨(qdt t).2.1,fun _=>hpb,?_⟩;have hne:((qdt t).2.1 != [])=true:=by
    unfold qfT at hpb;rw[jA1]at hpb;exact hpb.1
   unfold qdl;rw[hne];exact hc
 generalize (qdt t).1=a at hi hcp;subst hcp;rw[jAf]at h ⊢;rw[qH9 hi hpp]at h ⊢;have hpl:p.length<=4/\p.all (at8 qbh)=true/\(p= []\/p.getLast? ≠ some 48):=by
  by_cases hp0:p= []
  ·subst hp0;exact⟨by simp,rfl,.inl rfl⟩
  ·have:=hpp hp0;unfold qfT at this;simp only[jA1,jA6,bne_iff_ne,ne_eq]at this;exact⟨this.2.1,this.2.2.1,.inr this.2.2.2⟩
 cases h3:decide (a.length>3)
 ·rw[h3]at h;cases h4:decide ((qa7 0 (a++qi3 p):Int)>1000000)
  ·simp only[jA9];have h4':¬((qa7 0 (a++qi3 p):Int)>1000000):=of_decide_eq_false h4;refine⟨by omega,by omega,?_⟩;rw[jB5];have hlt:qa7 0 (qi3 p)<10000:=by
    have:=qzb (qi3 p) 0 0 (qY5 hpl.2.1) (by decide);rw[qH4 hpl.1]at this;exact this
   have hv:qa7 0 (a++qi3 p)=qa7 0 a*10000+qa7 0 (qi3 p):=by
    rw[qg2,qfR,qH4 hpl.1]
   unfold qiu;rw[hv,show(qa7 0 a*10000+qa7 0 (qi3 p)) / 10000=qa7 0 a by omega,show(qa7 0 a*10000+qa7 0 (qi3 p))%10000=qa7 0 (qi3 p) by omega,qwU _ a (jAj _) hi,q4M (qH4 hpl.1) (qY5 hpl.2.1)];unfold qi3;rw[q2b hpl.2.2]
  ·rw[h4]at h;simp at h
 ·rw[h3]at h;simp at h
end Go.Tk
namespace Go.Tk
open Go Go.Eng
set_option linter.unusedSimpArgs false
set_option linter.unusedVariables false
theorem qzc{l:Bs}(h:l.all (at8 qbh)=true):qa7 0 l<10^l.length:=by
 have:=qzb l 0 0 h (by decide);simpa using this
theorem q9S:∀(x y:Bs),x.length=y.length->x.all (at8 qbh)=true->y.all (at8 qbh)=true->qbk x y=decide (qa7 0 x<qa7 0 y)
 | [],[],_,_,_=>rfl
 | [],_::_,h,_,_=>by simp at h
 |_::_,[],h,_,_=>by simp at h
 |c::x,d::y,h,hx,hy=>by
  simp only[jAw,jA1]at hx hy;have hl:x.length=y.length:=by simpa using h
  have ih:=q9S x y hl hx.2 hy.2;have b1:=qzc hx.2;have b2:=qzc hy.2;have c1:=qeM hx.1;have c2:=qeM hy.1;have e1:qa7 0 (c::x)=(c.toNat-48)*10^x.length+qa7 0 x:=by
   show qa7 (0*10+(c.toNat-48)) x=_;rw[qfR];simp
  have e2:qa7 0 (d::y)=(d.toNat-48)*10^x.length+qa7 0 y:=by
   show qa7 (0*10+(d.toNat-48)) y=_;rw[qfR,hl];simp
  rw[<-hl]at b2;have hu:qbk (c::x) (d::y)=(decide (c<d)||(c==d&&qbk x y)):=rfl;rw[hu,ih,e1,e2];generalize 10^x.length=M at b1 b2 ⊢;rcases Nat.lt_trichotomy c.toNat d.toNat with hcd|hcd|hcd
  ·have h1:decide (c<d)=true:=jA8 hcd;have:(c.toNat-48+1)*M<=(d.toNat-48)*M:=jBc M (by omega);rw[jBe]at this;rw[h1,Bool.true_or,jBv];exact jA8 (by omega)
  ·have hcd':c=d:=UInt8.toNat_inj.1 hcd;subst hcd';have h1:decide (c<c)=false:=jAe (Nat.lt_irrefl c.toNat);rw[h1,Bool.false_or,beq_self_eq_true,jBm];by_cases hq:qa7 0 x<qa7 0 y
   ·rw[jA8 hq,jBv];exact jA8 (by omega)
   ·rw[jAe hq,jBv];exact jAe (by omega)
  ·have h1:decide (c<d)=false:=jAe (Nat.not_lt.2 (Nat.le_of_lt hcd));have h2:(c==d)=false:=by
    rw[jBj];intro he;rw[he]at hcd;omega
   have:(d.toNat-48+1)*M<=(c.toNat-48)*M:=jBc M (by omega);rw[jBe]at this;rw[h1,h2,Bool.false_or,Bool.false_and,jBv];exact jAe (by omega)
def qz6:Bs:=[57,50,50,51,51,55,50,48,51,54,56,53,52,55,55,53,56,48,55]
def qg5(s:Bs):Bool:=decide (s.length>19)||(s.length==19&&qbk qz6 s)
theorem qjZ{s:Bs}(h:qgR s=true):qg5 s=decide (9223372036854775808<=qa7 0 s):=by
 obtain⟨h1,h2,h3⟩:=qbb.1 h;have hb:=qzc h1;unfold qg5;rcases Nat.lt_trichotomy s.length 19 with hl|hl|hl
 ·have:10^s.length<=10^18:=Nat.pow_le_pow_right (by decide) (by omega);have:qa7 0 s<10^18:=by omega
  rw[jAe (by omega),show(s.length==19)=false by rw[jBj];omega,jBv];exact jAe (by omega)
 ·have hm:qa7 0 qz6=9223372036854775807:=by decide
  rw[jAe (by omega),hl,beq_self_eq_true,jBm,Bool.false_or,q9S qz6 s (by rw[hl];rfl) (by decide) h1,hm];by_cases hq:9223372036854775807<qa7 0 s
  ·rw[jA8 hq,jBv];exact jA8 (by omega)
  ·rw[jAe hq,jBv];exact jAe (by omega)
 ·rw[jA8 hl,Bool.true_or,jBv];refine jA8 ?_;cases s with
  |nil=>simp at hl
  |cons c r=>
   have hc:c.toNat-48>=1:=by
    have:=qeM (by simp only[jAw,jA1]at h1;exact h1.1);have h48:c.toNat≠48:=fun he=>by
     rcases h3 with h3|h3
     ·omega
     ·exact h3 (by rw[show c=48 from UInt8.toNat_inj.1 (by simpa using he)];rfl)
    omega
   have e1:qa7 0 (c::r)=(c.toNat-48)*10^r.length+qa7 0 r:=by
    show qa7 (0*10+(c.toNat-48)) r=_;rw[qfR];simp
   have:10^19<=10^r.length:=Nat.pow_le_pow_right (by decide) (by simp at hl;omega);have:=jBc (10^r.length) hc;rw[e1];omega
theorem qzz{s:Bs}(h:qgR s=true):nOk (Lib.parseIntB 64 s)= !qg5 s:=by
 rw[qjZ h];have h1:=(qbb.1 h).1;have h2:=(qbb.1 h).2.1;rw[Lib.parseIntB_64,qy4 h1 h2];by_cases hq:qa7 0 s<9223372036854775808
 ·rw[jAr hq,jAe (by omega)];rfl
 ·rw[jAm hq,jA8 (by omega)];rfl
end Go.Tk
namespace Go.Tk
open Go Go.Eng
set_option linter.unusedSimpArgs false
set_option linter.unusedVariables false
theorem q9K{a:Bs}(h:qgR a=true)(hl:a.length>1):10^(a.length-1)<=qa7 0 a:=by
 obtain⟨h1,h2,h3⟩:=qbb.1 h;cases a with
 |nil=>exact absurd rfl h2
 |cons c r=>
  have hc:c.toNat-48>=1:=by
   have:=qeM (by simp only[jAw,jA1]at h1;exact h1.1);have h48:c.toNat≠48:=fun he=>by
    rcases h3 with h3|h3
    ·omega
    ·exact h3 (by rw[show c=48 from UInt8.toNat_inj.1 (by simpa using he)];rfl)
   omega
  have e1:qa7 0 (c::r)=(c.toNat-48)*10^r.length+qa7 0 r:=by
   show qa7 (0*10+(c.toNat-48)) r=_;rw[qfR];simp
  have:=jBc (10^r.length) hc;rw[e1];simp only[jA0,Nat.add_sub_cancel];omega
def q4j(n:Int):Bs×Int:=bif decide (n<0)||decide (n>1000000)then([],1)else(qiu n.toNat,0)
end Go.Tk
namespace Go.Proofs.H16
open Go Go.Eng Go.Tk
set_option maxRecDepth 20000
theorem zbQ(k n:Int)(t:Bs)(q:List Tok×Int×Int)(h:qbp t=q):(DT.bi (some (ET q.1,q.2.1,q.2.2)) (fun y0=>.br (y0.snd.snd==0) (.br ((y0.fst.length:Int)==1) (.br (qaH [CS.int IntKind.i64,CS.int IntKind.i64,CS.str] y0.fst 0) (.br (intOf (cellAt y0.fst 0 0)==k) (.br (qaH [CS.int IntKind.i64,CS.int IntKind.i64,CS.str] y0.fst 0) (.at (strOf (cellAt y0.fst 0 2)==t)) .no) (.at false)) .no) (.at false)) (.at false)) .no).ev=some (qaT ⟨k,n,t⟩):=by
 subst h;unfold qaT;simp only[ev_bi_some,ev_br];cases((qbp t).2.2==0)
 ·rfl
 ·simp only[jAa,jBm];cases hq:(qbp t).1 with
  |nil=>rfl
  |cons u r=>
   cases r with
   |nil=>
    have h0:qaH [CS.int IntKind.i64,CS.int IntKind.i64,CS.str] (ET [u]) 0=true:=okT (l:=[u]) (n:=0) (by simp);have h1:intOf (cellAt (ET [u]) 0 0)=u.kind:=qt0 (l:=[u]) (n:=0) (by simp);have h2:strOf (cellAt (ET [u]) 0 2)=u.text:=qt2 (l:=[u]) (n:=0) (by simp);rw[h0,h1,h2];show(bif true then(bif true then(bif u.kind==k then(bif true then some (u.text==t)else none)else some false)else none)else some false)=some (true&&(u.kind==k&&u.text==t));cases(u.kind==k)<;>rfl
   |cons v r=>
    have e:(((ET (u::v::r)).length:Int)==1)=false:=by
     rw[jBj,jA5,jA0,jA0];omega
    have e2:((u::v::r).length==1)=false:=by simp
    rw[e,e2];rfl
theorem qGI(k n:Int)(t:Bs):qzn k n t=some (qaT ⟨k,n,t⟩):=by
 rw[qNN,qrs,qiL];exact zbQ k n t _ rfl
theorem q4N:∀d,d<10->List.take ((d+1)-d) (List.drop d ([48,49,50,51,52,53,54,55,56,57]:List UInt8))= [UInt8.ofNat (48+d)]:=by decide
theorem qd3{m:Nat}(hm:m<=1000000){x1:Int}{acc:Bs}(hacc:acc.length<=1000)(h:0<m\/(acc.length:Int)<x1):(qjc ((m:Int),x1,acc)).ev=some (.next (((m / 10:Nat):Int),x1,UInt8.ofNat (48+m%10)::acc)):=by
 have e1:((m:Int).tmod 10)=((m%10:Nat):Int):=rfl;have e2:((m:Int).tdiv 10)=((m / 10:Nat):Int):=rfl;have e3:IntKind.i64.wrap (((m%10:Nat):Int)+1)=((m%10+1:Nat):Int):=by rw[wrap64 (by omega) (by omega)];rfl
 have e4:IntKind.i64.wrap ((m / 10:Nat):Int)=((m / 10:Nat):Int):=wrap64 (by omega) (by omega);have hlt:m%10<10:=Nat.mod_lt _ (by decide);have g1:leB ((m%10+1:Nat):Int) 10=true:=qbl (by omega);have g2:leB ((m%10:Nat):Int) ((m%10+1:Nat):Int).toNat=true:=by rw[jB5];exact qbl (by omega)
 have hbr:br (decide ((m:Int)>0)) (some true) (some (decide ((acc.length:Int)<x1)))=some true:=by
  rcases h with h|h
  ·rw[jA8 (show(m:Int)>0 by omega)];rfl
  ·rw[jA8 h];cases decide ((m:Int)>0)<;>rfl
 have g3:decide (([UInt8.ofNat (48+m%10)]:Bs).length+acc.length<=4611686018427387904)=true:=jA8 (by simp only[jA0,jA4];omega);simp only[qjc,qpa,hbr,ev_bi_some,e1,e2,e3,e4,g1,g2,Bool.and_self,ev_br,jAa];simp only[jB5,q4N _ hlt,g3,ev_at,jAa];rfl
theorem qwW{x1:Int}{acc:Bs}(h:x1<=(acc.length:Int)):(qjc (((0:Nat):Int),x1,acc)).ev=some (.done 0):=by
 have:decide ((acc.length:Int)<x1)=false:=jAe (by omega);simp[qjc,qpa,this]
theorem qGf{x1:Int}:∀(b m:Nat) (acc:Bs),m<=b->m<=1000000->acc.length+m<=1000+1000000->acc.length+(bif decide (m>0)then Nat.log2 m+1 else 0)<=1000->x1<=(acc.length:Int)->qmt ((m:Int),x1,acc)=some (0,0,x1,(if m=0 then[]else Lib.decDigits m)++acc):=by
 intro b
 induction b using Nat.strongRecOn with
 |_ b ih=>
  intro m acc hb hm hs hlg hx;by_cases h0:m=0
  ·subst h0;rw[qef,qag (qwW hx)];rfl
  ·have hac:acc.length<=1000:=by omega
   rw[qef,qao (qd3 hm hac (.inl (by omega))),<-qef];have hlg2:(UInt8.ofNat (48+m%10)::acc).length+(bif decide (m / 10>0)then Nat.log2 (m / 10)+1 else 0)<=1000:=by
    rw[jA8 (show m>0 by omega),jAa]at hlg;simp only[jA0];by_cases h1:m / 10>0
    ·rw[jA8 h1,jAa];have:Nat.log2 (m / 10)+1<=Nat.log2 m:=by
      have h2:Nat.log2 (m / 10)<=Nat.log2 (m / 2):=by
       refine(Nat.le_log2 (by omega)).2 (jAz (Nat.log2_self_le (by omega)) (by omega))
      have h3:Nat.log2 m=Nat.log2 (m / 2)+1:=by
       conv=>lhs;rw[Nat.log2_def]
       rw[jAr (by omega)]
      omega
     omega
    ·rw[jAe h1,jA9];omega
   rw[ih (m / 10) (by omega) (m / 10) _ (jAj _) (by omega) (by simp only[jA0];omega) hlg2 (by simp only[jA0];omega),jAm h0]
   congr 4
   conv=>rhs;rw[Lib.decDigits]
   by_cases h1:m<10
   ·rw[dif_pos h1,jAr (by omega)];have:m%10=m:=Nat.mod_eq_of_lt h1;rw[this];rfl
   ·rw[dif_neg h1,jAm (by omega),jAf];rfl
theorem qWr{m:Nat}(h:m<=1000000)(h0:m>0):Nat.log2 m<=19:=by
 have:=(Nat.log2_lt (n:=m) (k:=20) (by omega)).2 (by omega);omega
theorem qwV{m:Nat}(hm:m<=1000000){x1:Int}{acc:Bs}(hac:acc.length<=100)(hx:x1<=(acc.length:Int)):qmt ((m:Int),x1,acc)=some (0,0,x1,(if m=0 then[]else Lib.decDigits m)++acc):=by
 refine qGf m m acc (jAj _) hm (by omega) ?_ hx;by_cases h0:m>0
 ·have:=qWr hm h0;rw[jA8 h0,jAa];omega
 ·rw[jAe h0,jA9];omega
theorem qTU{m:Nat}(h:m<=1000000):(Lib.decDigits m).length<=30:=by
 have:=qwV (x1:=0) (acc:=[]) h (by simp) (by simp);by_cases h0:(Lib.decDigits m).length<=1
 ·omega
 ·obtain⟨h1,h2,_⟩:=qhS m m (jAj _);have:=q9K h1 (by omega);rw[h2]at this;have h3:(Lib.decDigits m).length-1<8:=by
   rcases jCb ((Lib.decDigits m).length-1) 8 with h4|h4
   ·exact h4
   ·have:=Nat.pow_le_pow_right (n:=10) (by decide) h4;omega
  omega
theorem ql0(n:Int):qlZ n=some (q4j n):=by
 rw[qNi,qqY];unfold q4j;cases h0:decide (n<0)
 ·cases h1:decide (n>1000000)
  ·have h0:=of_decide_eq_false h0;have h1:=of_decide_eq_false h1;obtain⟨m,rfl⟩:=Int.eq_ofNat_of_zero_le (show 0<=n by omega);have hm:m<=1000000:=by omega
   have e1:((m:Int).tmod 10000)=((m%10000:Nat):Int):=rfl;have e2:((m:Int).tdiv 10000)=((m / 10000:Nat):Int):=rfl;have e3:IntKind.i64.wrap ((m / 10000:Nat):Int)=((m / 10000:Nat):Int):=wrap64 (by omega) (by omega);have e4:IntKind.i64.wrap (10000+((m%10000:Nat):Int))=((10000+m%10000:Nat):Int):=by rw[wrap64 (by omega) (by omega)];omega
   have hlt:m%10000<10000:=Nat.mod_lt _ (by decide);have hd:=qTU (m:=m / 10000) (by omega);obtain⟨_,ht,_⟩:=qkE hlt;have hw:∀k:Nat,k<=1000000->(decide (-9223372036854775808<=((k:Nat):Int))&&decide (((k:Nat):Int)<=9223372036854775807))=true:=fun k hk=>by
    rw[jA8 (by omega),jA8 (by omega)];rfl
   have q1:leB 1 (49::four (m%10000)).length=true:=rfl;have q2:List.drop 1 (49::four (m%10000))=four (m%10000):=rfl;have q3:decide ((four (m%10000)).length<=9223372036854775807)=true:=rfl;simp only[e1,e2,e3,e4,hw _ (show 10000+m%10000<=1000000 by omega),hw _ (show m / 10000<=1000000 by omega),Lib.itoa_nonneg,q4L hlt,q1,q2,q3,ev_bi_some,br_eq,jA9,jAa,ev_br,Bool.or_false];rw[jB5];unfold qiu qdl;generalize Lib.trimRightB (four (m%10000)) 48=p at ht;have g1:decide ((Lib.decDigits (m / 10000)).length+1<=4611686018427387904)=true:=jA8 (by omega);have g2:decide (1+p.length<=4611686018427387904)=true:=jA8 (by omega);have g3:decide ((Lib.decDigits (m / 10000)).length+([46]++p).length<=4611686018427387904)=true:=jA8 (by rw[jA2,jA0,jA4];omega);have g4:decide ((Lib.decDigits (m / 10000)++([46]++p)).length+1<=4611686018427387904)=true:=jA8 (by rw[jA2,jA2,jA0,jA4];omega);have e5:(p != [])= !(p== []):=rfl;rw[g1,g2,g3,g4,e5];cases(p== [])
   ·simp[jAf]
   ·simp
  ·simp
 ·simp
end Go.Proofs.H16

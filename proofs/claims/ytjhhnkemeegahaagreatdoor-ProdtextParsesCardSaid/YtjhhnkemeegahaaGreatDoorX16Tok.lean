/- The program's tokens: what the printed functions come to. -/
import Derived.Test.YtjhhnkemeegahaaGreatDoorD16_17
import Derived.Lib.TrimByte
import Derived.Lib.ParseIntBTie
set_option linter.all false
namespace Go.Proofs.H16
open Go Go.Eng Go.Tk
set_option maxRecDepth 20000
theorem qrO(x:Int):qnq x=some (qei x):=by
 rw[qLx,qp7];by_cases h:x>=97<;>simp[qei,h]
theorem qlt(x:Int):qij x=some (qbe x):=by
 rw[qLM,qqm];by_cases h:x>=48<;>simp[qbe,h]
theorem qrN(x:Int):qlq x=some (qch x):=by
 rw[qLw,qp6,qrO,qlt,qch];cases qei x<;>cases qbe x<;>simp
theorem qEu(x:Int):qnm x=some (qcD x):=by
 rw[qLd,qpP,qrN,qcD];cases qch x<;>cases(x==46)<;>simp
theorem qEt(x:Int):qnl x=some (qgV x):=by
 rw[qLc,qpO];rfl
theorem qFp{s:Bs}(hl:s.length<=big):qyb (s,0)=some (0,s,((s.takeWhile (at8 qgV)).length:Int)):=by
 rw[qvT];refine qmx (fun n h=>?_) ?_
 ·simp only[qmG,qoc,qa0 h,qa5 h,qaX h,w32,qEt,qat h hl,br_eq,jAa,sm_some,gv_some,ev_bi_some,ev_br,ev_at,cond_some]
 ·simp[qmG,qoc]
theorem qEF{s:Bs}(hl:s.length<=big):qlr s=some (s.takeWhile (at8 qgV)):=by
 rw[qLz,qp9,qFp hl];simp[qbj (qgt s),qiI]
theorem qM3{s:Bs}(hl:s.length<=big):qIR (s,0)=some (0,s,((s.takeWhile (at8 qch)).length:Int)):=by
 rw[qBx];refine qmx (fun n h=>?_) ?_
 ·simp only[quw,qux,qa0 h,qa5 h,qaX h,w32,qrN,qat h hl,br_eq,jAa,sm_some,gv_some,ev_bi_some,ev_br,ev_at,cond_some]
 ·simp[quw,qux]
theorem qEx{s:Bs}(hl:s.length<=big):qrH s=some (s.takeWhile (at8 qch)):=by
 rw[qLk,qpW,qM3 hl];simp[qbj (qgt s),qiI]
theorem qM4{s:Bs}(hl:s.length<=big):qIS (s,0)=some (0,s,((s.takeWhile (at8 qcD)).length:Int)):=by
 rw[qBy];refine qmx (fun n h=>?_) ?_
 ·simp only[quy,quz,qa0 h,qa5 h,qaX h,w32,qEu,qat h hl,br_eq,jAa,sm_some,gv_some,ev_bi_some,ev_br,ev_at,cond_some]
 ·simp[quy,quz]
theorem qEy{s:Bs}(hl:s.length<=big):qrI s=some (s.takeWhile (at8 qcD)):=by
 rw[qLl,qpX,qM4 hl];simp[qbj (qgt s),qiI]
theorem qM5{s:Bs}(hl:s.length<=big):qIT (s,0)=some (0,s,((s.takeWhile (at8 qbe)).length:Int)):=by
 rw[qBz];refine qmx (fun n h=>?_) ?_
 ·simp only[quA,quB,qa0 h,qa5 h,qaX h,w32,qlt,qat h hl,br_eq,jAa,sm_some,gv_some,ev_bi_some,ev_br,ev_at,cond_some]
 ·simp[quA,quB]
theorem qrJ{s:Bs}(hl:s.length<=big):qgY s=some (s.takeWhile (at8 qbe)):=by
 rw[qLm,qpY,qM5 hl];simp[qbj (qgt s),qiI]
theorem qFo{s:Bs}(hl:s.length<=big):∀(k n:Nat),n+k=s.length-> ∃j,(j=0\/j=1)/\qsS (s,(n:Int))=some (j,s,((n+blk false (s.drop n):Nat):Int)):=by
 intro k
 induction k using Nat.strongRecOn with
 |_ k ih=>
  intro n hn;rw[qj6];by_cases h:n<s.length
  ·have hst:(qkv (s,(n:Int))).ev=some (bif spI (s[n].toNat:Int)then .next (s,((n+1:Nat):Int))else bif (s[n].toNat:Int)==35 then .next (s,((n+((s.drop n).takeWhile (at8 qgV)).length:Nat):Int))else .done 0):=by
    have hw:IntKind.i64.wrap ((n:Int)+(((s.drop n).takeWhile (at8 qgV)).length:Int))=((n+((s.drop n).takeWhile (at8 qgV)).length:Nat):Int):=by
     have:=qgt (p:=at8 qgV) (s.drop n);simp only[jB0,big]at this hl;rw[wrap64 (by omega) (by omega)];simp
    have hd:(s.drop n).length<=big:=by simp;omega
    simp only[qkv,qob,qa0 h,qa5 h,qaX h,qat h hl,qbj (Nat.le_of_lt h),jB5,qEF hd,hw,ev_bi_some,ev_br,ev_at,jAa,spI];cases((s[n].toNat:Int)==32)<;>cases((s[n].toNat:Int)==9)<;>cases((s[n].toNat:Int)==10)<;>cases((s[n].toNat:Int)==35)<;>rfl
   rw[drop_at h];simp only[blk];cases hs:spI (s[n].toNat:Int)
   ·cases hc:((s[n].toNat:Int)==35)
    ·rw[hs,hc]at hst;exact⟨0,.inl rfl,by rw[qaf hst];simp⟩
    ·rw[hs,hc]at hst;rw[qaq hst];have ht:((s.drop n).takeWhile (at8 qgV)).length=((s.drop (n+1)).takeWhile (at8 qgV)).length+1:=by
      have:at8 qgV s[n]=true:=by
       simp only[at8,qgV,bne_iff_ne,ne_eq];have:(s[n].toNat:Int)=35:=by simpa using hc
       omega
      rw[drop_at h,List.takeWhile_cons_of_pos this,jA0]
     have hle:=qgt (p:=at8 qgV) (s.drop n);simp only[jB0]at hle;obtain⟨j,h1,h2⟩:=ih (k-((s.drop n).takeWhile (at8 qgV)).length) (by omega) (n+((s.drop n).takeWhile (at8 qgV)).length) (by omega);rw[qj6]at h2;refine⟨j,h1,h2.trans ?_⟩;have e:s.drop (n+((s.drop n).takeWhile (at8 qgV)).length)=(s.drop (n+1)).drop ((s.drop (n+1)).takeWhile (at8 qgV)).length:=by rw[List.drop_drop,ht];congr 1;omega
     rw[e,jA9,jAa,qxx (s.drop (n+1)),ht]
     congr 4;omega
   ·rw[hs]at hst;rw[qaq hst];obtain⟨j,h1,h2⟩:=ih (k-1) (by omega) (n+1) (by omega);rw[qj6]at h2;refine⟨j,h1,h2.trans ?_⟩;rw[jAa];congr 4;omega
  ·have hn':n=s.length:=by omega
   subst hn';refine⟨1,.inr rfl,?_⟩;rw[qaf (j:=1) (by simp[qkv,qob])];simp[blk]
theorem qED{s:Bs}(hl:s.length<=big):qcj s=some ((blk false s:Nat):Int):=by
 obtain⟨j,h1,h2⟩:=qFo hl s.length 0 (by omega);rw[qLu,qp5];simp only[Int.natCast_zero]at h2;rw[h2];rcases h1 with rfl|rfl<;>simp
theorem qrZ:qrY=some (ES wordsS):=by
 rw[qLP,qqp];rfl
theorem qEK:qrX=some (ES marksS):=by
 rw[qLN,qqn];rfl
theorem qMV{l:List Bs}(hl:l.length<=big)(s:Bs):qBp (ES l,s,(l.length:Int),0)=some (qjO (s== ·) (fun _=>0) 1 l,ES l,s,(l.length:Int),((l.findIdx (s== ·):Nat):Int)):=by
 rw[qBq];refine qbd (hd:=fun n=>(ES l,s,(l.length:Int),(n:Int))) (jx:=fun _=>0) (s== ·) 1 (fun n h=>?_) ?_
 ·simp only[quf,qug,qa0 h,qC0 h,qs0 h,ev_br,ev_at,jAa,qat h hl];cases(s==l[n])<;>rfl
 ·simp[quf,qug]
theorem qS4{l:List Bs}(hl:l.length<=big)(s:Bs):qS3 (ES l) s=some (has l s):=by
 rw[q22,qKE,qSn,qzz,jA5,qMV hl,qbm,has];cases l.any (s== ·)<;>simp
theorem qfR(s:Bs):qg1 s=some (qbT s):=by
 rw[qL2,qqC,qrZ];simp only[ev_bi_some,qS4 (l:=wordsS) (by decide),ev_at,qbT]
theorem qlo{s:Bs}(hl:s.length<=big):qln s=some (qgo s):=by
 rw[qLj,qpV,qrJ hl];cases s with
 |nil=>rfl
 |cons c r=>
  have e1:((c::r).takeWhile (at8 qbe)==c::r)=(c::r).all (at8 qbe):=by
   rw[jC7,jB7];exact qk8
  have e2:qal (c::r) 0=(c.toNat:Int):=by simp[qal,qgU]
  have e3:((c.toNat:Int) != 48)=(some c != some 48):=by
   rw[jC7,bne_iff_ne,bne_iff_ne,ne_eq,ne_eq,Decidable.not_iff_not,jA7,<-UInt8.toNat_inj];exact Int.ofNat_inj
  have e4:inB (c::r).length 0=true:=by simp[inB]
  simp only[sm_some,gv_some,br_eq,jAa,e1,e2,e3,e4,qgo,List.head?_cons,cond_some,ev_bi_some,ev_at];cases(c::r).all (at8 qbe)<;>cases(((c::r).length:Int)==1)<;>simp
theorem qMC{s:Bs}(hl:s.length<=big):qBe s [37]=some (bif s.getLast? == some 37 then(s.dropLast,true)else(s,false)):=by
 rw[qSQ,qAl,q2X,qKB,q21,qKD];simp only[big]at hl;cases hs:s with
 |nil=>rfl
 |cons c r=>
  rw[<-hs];have h1:1<=s.length:=by rw[hs];simp
  have e1:decide ((s.length:Int)>=(([37]:Bs).length:Int))=true:=by simp;omega
  have e2:IntKind.i64.wrap ((s.length:Int)-(([37]:Bs).length:Int))=((s.length-1:Nat):Int):=by
   rw[wrap64 (by simp;omega) (by simp;omega)];simp;omega
  have e3:leB ((s.length-1:Nat):Int) s.length=true:=qbj (by omega);have e4:s.take (s.length-1)=s.dropLast:=by rw[List.dropLast_eq_take]
  have e5:(s.drop (s.length-1)== [37])=(s.getLast? == some 37):=by
   have hne:s≠ []:=by rw[hs];simp
   have:=List.dropLast_concat_getLast hne;rw[List.getLast?_eq_some_getLast hne]
   conv=>lhs;lhs;rw[<-this]
   rw[List.drop_append_of_le_length (by simp),show(s.dropLast++[s.getLast hne]).length-1=s.dropLast.length by simp,jC0];simp
  simp only[e1,e2,e3,e4,e5,br_eq,jAa,ev_bi_some,jB5,jBt,ev_br,ev_at];cases(s.getLast? == some 37)<;>rfl
theorem qLi(t:Bs):qA5 t [46]=some (Lib.indexByte t 46):=by
 rw[qSm,qzw];have e1:((([46]:Bs).length:Int)==0)=false:=rfl;have e2:((([46]:Bs).length:Int)==1)=true:=rfl;have e3:inB ([46]:Bs).length 0=true:=rfl;have e4:(qal [46] 0).toNat.toUInt8=46:=rfl;simp only[e1,e2,e3,e4,br_eq,jA9,jAa,ev_bi_some,ev_br,ev_at];cases h:(([46]:Bs)==t)
 ·rfl
 ·have:=eq_of_beq h;subst this;rfl
theorem qrW{t:Bs}(hl:t.length<=big):qrV t [46]=some (qdc t):=by
 rw[qLL,qql,qSq,qzC,qLi,q3i];simp only[big]at hl;have hdw:=drop_tw (p:=(· != 46)) t;by_cases h:(t.takeWhile (· != 46)).length<t.length
 ·have e1:decide (((t.takeWhile (· != 46)).length:Int)>=0)=true:=by simp
  have e2:IntKind.i64.wrap (((t.takeWhile (· != 46)).length:Int)+(([46]:Bs).length:Int))=(((t.takeWhile (· != 46)).length+1:Nat):Int):=by
   rw[wrap64 (by simp;omega) (by simp;omega)];simp
  have e3:leB ((t.takeWhile (· != 46)).length:Int) t.length=true:=qbj (Nat.le_of_lt h);have e4:leB (((t.takeWhile (· != 46)).length+1:Nat):Int) t.length=true:=qbj h;simp only[ev_bi_some,jAr h,e1,e2,e3,e4,ev_br,ev_at,jAa,jB5,jBt,qiI];unfold qdc;rw[<-hdw];rw[List.drop_eq_getElem_cons h]
 ·simp only[ev_bi_some,jAm h];unfold qdc;have hdn:t.drop (t.takeWhile (· != 46)).length= []:=List.drop_eq_nil_of_le (Nat.not_lt.1 h);rw[<-hdw,hdn];rfl
theorem qFv(w:Bs){p:Bs}(hp:p.length<=4):qyj (w,p)=some (0,w,qiv p):=by
 rw[qv5];have key:∀(k:Nat) (p:Bs),p.length+k=4->qae (fun v=>(qkA v).ev) (w,p)=some (0,w,qiv p):=by
  intro k
  induction k with
  |zero=>
   intro p h;have:qiv p=p:=by unfold qiv;rw[show 4-p.length=0 by omega];simp
   rw[this,qaf (j:=0)];have:decide ((p.length:Int)<4)=false:=by simp;omega
   simp[qkA,qoh,this]
  |succ k ih=>
   intro p h;have e1:decide ((p.length:Int)<4)=true:=by simp;omega
   have e2:decide (p.length+1<=4611686018427387904)=true:=by simp;omega
   rw[qaq (v':=(w,p++[48])) (by simp only[qkA,qoh,e1,e2,ev_br,ev_at,jAa]),ih (p++[48]) (by simp;omega)];have:qiv (p++[48])=qiv p:=by
    unfold qiv;rw[show 4-p.length=(4-(p++[48]).length)+1 by simp;omega,List.replicate_succ,jAf];rfl
   rw[this]
 exact key (4-p.length) p (by omega)
theorem qlx{s:Bs}(hl:s.length<=big):qjl s=some (qbh s):=by
 rw[qL1,qqB,qMC hl,qbh];cases hs:(s.getLast? == some 37)
 ·have h1:(qdc s).1.length<=big:=by
   have:=qgt (p:=(· != 46)) s;unfold qdc;split<;>simp<;>omega
  simp only[jA9,ev_bi_some,qrW hl,qlo h1,Bool.not_false,br_eq,jAa,ev_br,ev_at]
 ·have hd:s.dropLast.length<=big:=by simp;omega
  have h1:(qdc s.dropLast).1.length<=big:=by
   have:=qgt (p:=(· != 46)) s.dropLast;unfold qdc;split<;>simp at* <;>omega
  have h2:(qdc s.dropLast).2.1.length<=big:=by
   have:=drop_tw (p:=(· != 46)) s.dropLast;unfold qdc;split
   ·simp
   ·rename_i x y e;have h3:=congrArg List.length (this.trans e);simp at h3 hd ⊢;omega
  simp only[jAa,ev_bi_some,qrW hd,qlo h1,Bool.not_true,br_eq,jA9,sm_some,gv_some];have h0:(qdc s.dropLast).2.2=false->(qdc s.dropLast).2.1= []:=by
   unfold qdc;split<;>simp
  generalize qdc s.dropLast=c at h0 h1 h2;obtain⟨w,p,pt⟩:=c;simp only at h0 h1 h2 ⊢;cases hi:qgo w
  ·simp only[Bool.not_false,jAa,ev_bi_some,ev_br,ev_at,Bool.true_or]
  ·simp only[Bool.not_true,jA9,Bool.false_or,ev_bi_some];have hpart:(bif pt then bif p== []then some true else bif decide ((p.length:Int)>4)then some true else bif sm (qgY p)then bif !gv (qgY p)==p then some true else bif inB p.length (IntKind.i64.wrap ((p.length:Int)-1))then some (qal p (IntKind.i64.wrap ((p.length:Int)-1))==48)else none else none else some false)=some (pt&& !qfx p):=by
    cases pt
    ·rfl
    ·cases hp:p with
     |nil=>rfl
     |cons x y=>
      rw[<-hp];have hne:p≠ []:=by rw[hp];simp
      have h1':1<=p.length:=by rw[hp];simp
      have e0:(p== [])=false:=by simpa using hne
      have e1:(p.takeWhile (at8 qbe)==p)=p.all (at8 qbe):=by
       rw[jC7,jB7];exact qk8
      have e2:IntKind.i64.wrap ((p.length:Int)-1)=((p.length-1:Nat):Int):=by
       simp only[big]at h2;rw[wrap64 (by omega) (by omega)];omega
      have e3:inB p.length ((p.length-1:Nat):Int)=true:=qa5 (by omega);have e4:(qal p ((p.length-1:Nat):Int)==48)=(p.getLast? == some 48):=by
       rw[qaX (by omega),List.getLast?_eq_getElem?,jAh (by omega),jC7,jB7,jB7,jA7,<-UInt8.toNat_inj];exact Int.ofNat_inj
      have e5:decide ((p.length:Int)>4)= !decide (p.length<=4):=by
       by_cases h:p.length<=4<;>simp[h]<;>omega
      simp only[jAa,jA9,e0,qrJ h2,sm_some,gv_some,e1,e2,e3,e4,e5,qfx,bne,jBm];cases decide (p.length<=4)<;>cases p.all (at8 qbe)<;>cases(p.getLast? == some 48)<;>rfl
   rw[hpart];simp only[ev_bi_some,ev_br,ev_at];cases hg:(pt&& !qfx p)
   ·simp only[jA9];have e6:decide ((w.length:Int)>3)=decide (w.length>3):=by
     by_cases h:w.length>3<;>simp[h]<;>omega
    rw[e6];cases h3:decide (w.length>3)
    ·simp only[jA9];have hw3:w.length<=3:=by simpa using h3
     have hp4:p.length<=4/\p.all (at8 qbe)=true:=by
      cases pt
      ·rw[h0 rfl];exact⟨by simp,rfl⟩
      ·have hb:qfx p=true:=by simpa using hg
       simp only[qfx,jA1,jA6]at hb;exact⟨hb.2.1,hb.2.2.1⟩
     have hw:w≠ []/\w.all (at8 qbe)=true:=by
      simp only[qgo,jA1,bne_iff_ne,ne_eq]at hi;exact⟨hi.2.1,hi.1⟩
     have hq:qiv p=p++List.replicate (4-p.length) 48:=rfl;have hl7:(w++qiv p).length<=7:=by rw[hq];simp;omega
     have had:(w++qiv p).all (at8 qbe)=true:=by
      rw[hq,jCk,jCk,hw.2,hp4.2];simp[at8,qbe]
     have hne:w++qiv p≠ []:=by simp[hw.1]
     have hlt:qa1 0 (w++qiv p)<9223372036854775808:=by
      have h7:=qxD (w++qiv p) 0 0 had (by omega);have:10^(0+(w++qiv p).length)<=10^7:=Nat.pow_le_pow_right (by omega) (by omega);omega
     have hat:=qxv had hne;rw[jAr hlt]at hat;have e7:decide (w.length+(qiv p).length<=4611686018427387904)=true:=by
      rw[jA2]at hl7;simp;omega
     have e8:pOk (w++qiv p)=true:=by simp only[pOk];simp at hl7 ⊢;omega
     rw[qFv w hp4.1];simp only[pj_some,jB2,ev_bi_some,e7,e8,hat,nOk,qNU,Bool.and_self,ev_br,jAa,ev_at,cond_some]
    ·rfl
   ·rfl
def zg0:Nat:=281474976710656
theorem qpu{n:Nat}(h:n<=zg0):n<=big:=jAz h (by decide)
theorem qEE{s:Bs}(hl:s.length<=zg0):qrP s=some ((qyG s).1,0,(qyG s).2.1,(qyG s).2.2):=by
 rw[qLy,qp8,qlo (qpu hl),qlx (qpu hl),qyG];have e:pOk s=true:=jA8 hl;simp only[ev_bi_some,ev_br,ev_at,e,jBm];cases qgo s
 ·simp only[jA9];cases((qbh s).2==0)<;>cases((qbh s).2==1)<;>rfl
 ·simp only[jAa];cases Lib.parseIntB 64 s<;>rfl
theorem qMD(s m:Bs):qBf s m=some (preB m s):=by
 rw[qSR,qAm,q2Z,qKC];have e:decide ((s.length:Int)>=(m.length:Int))=decide (m.length<=s.length):=by
  by_cases h:m.length<=s.length<;>simp[h]<;>omega
 simp only[e,preB,zdK,jB5];cases decide (m.length<=s.length)<;>simp
theorem qFw(s:Bs):qsW (s,ES marksS,(marksS.length:Int),0,0,0,[])=some (qjO (preB · s) (fun _=>0) 1 marksS,s,ES marksS,(marksS.length:Int),((marksS.findIdx (preB · s):Nat):Int),0,0,[]):=by
 rw[qv6];refine qbd (hd:=fun n=>(s,ES marksS,(marksS.length:Int),(n:Int),(0:Int),(0:Int),([]:Bs))) (jx:=fun _=>0) (preB · s) 1 (fun n h=>?_) ?_
 ·simp only[qmL,qoi,qa0 h,qC0 h,qs0 h,qMD,ev_bi_some,ev_br,ev_at,jAa,qat h (show marksS.length<=big by decide)];cases(preB marksS[n] s)<;>rfl
 ·simp[qmL,qoi]
theorem qET{s:Bs}(hne:s≠ [])(hl:s.length<=zg0):qeu s=some ((qaw s).1,0,(qaw s).2.1,(qaw s).2.2):=by
 have hb:=qpu hl;rw[qL3,qqD];cases s with
 |nil=>exact absurd rfl hne
 |cons c r=>
  have e1:inB (c::r).length 0=true:=by simp[inB]
  have e2:qal (c::r) 0=(c.toNat:Int):=by simp[qal,qgU]
  simp only[e1,e2,w32,qrO,qlt,qEx hb,qEy hb,qfR,qEK,ev_bi_some,ev_br,ev_at,jAa,qaw];rw[show at8 qei c=qei (c.toNat:Int)from rfl,show at8 qbe c=qbe (c.toNat:Int)from rfl];cases qei (c.toNat:Int)
  ·cases qbe (c.toNat:Int)
   ·simp only[jA9,jA5,qFw,qbm,q2C,pj_some];by_cases h:marksS.findIdx (preB · (c::r))<marksS.length
    ·have hf:=jCm (p:=(preB · (c::r))) (xs:=marksS);rw[jAh h]at hf;simp only[jA8 h,jAa,jB2,ev_bi_some,ev_at,qs0 h,hf]
    ·have hf:marksS.find? (preB · (c::r))=none:=by
      rw[jCm];exact List.getElem?_eq_none (Nat.not_lt.1 h)
     rw[hf];simp[h]
   ·have h2:((c::r).takeWhile (at8 qcD)).length<=zg0:=jAz (qgt _) hl;simp only[jA9,jAa,qEE h2,ev_bi_some,ev_at]
  ·simp only[jAa];have e:decide ((((c::r).takeWhile (at8 qch)).length:Int)>16)=decide (((c::r).takeWhile (at8 qch)).length>16):=by
    by_cases h:((c::r).takeWhile (at8 qch)).length>16<;>simp[h]<;>omega
   rw[e];cases qbT ((c::r).takeWhile (at8 qch))<;>cases decide (((c::r).takeWhile (at8 qch)).length>16)<;>rfl
noncomputable def qzp(o:Option (Nat×qeo)):DT qC3:=
  .bi (pj 0 o) (fun y0=>.at (([],0,0)))
   (.bi (pj 1 o) (fun y0=>
    .at (([],IntKind.i64.wrap ((sl y0).snd+(↑(Lib.countByte (List.take (gv (qcj (sl y0).fst)).toNat (sl y0).fst) 10):Int)),(gv (qeu (List.drop (gv (qcj (sl y0).fst)).toNat (sl y0).fst))).snd.snd.snd)))
    (.bi (pj 2 o) (fun y0=>.at (((sr y0).snd.snd,0,0)))
     (.bi (pj 3 o) (fun y0=>
      .at (([],IntKind.i64.wrap ((sr y0).snd.fst+(↑(Lib.countByte (List.take (gv (qcj (sr y0).fst)).toNat (sr y0).fst) 10):Int)),(gv (qeu (List.drop (gv (qcj (sr y0).fst)).toNat (sr y0).fst))).snd.snd.snd)))
      (.no))))
theorem qNJ(s:Bs):qpN s= .br (decide ((s.length:Int)>2048)) (.at (([],0,5))) (qzp (qoW (Sum.inl (s,1)))):=rfl
def hdT(s:Bs)(line:Int):List Tok->qeo
 | []=>.inl (s,line)
 |acc=>.inr (s,line,ET acc)
theorem qKz:∀(k:Nat) (s:Bs) (line:Int) (acc:List Tok),s.length<k->0<=line->line+s.length<=10000->acc.length+s.length<=10000 ->
  (qzp (qoW (hdT s line acc))).ev=some (ET (qfy k s line acc).1,(qfy k s line acc).2.1,(qfy k s line acc).2.2)
 |0,s,line,acc,h,_,_,_=>by omega
 |k+1,s,line,acc,h,h0,h1,h2=>by
  have hl:s.length<=zg0:=jAz (show s.length<=10000 by omega) (by decide);have hb:=qED (qpu hl);have hn:=qma false s;have hc:(s.take (blk false s)).count 10<=blk false s:=jAz List.count_le_length (by simp;omega);have hw:IntKind.i64.wrap (line+(Lib.countByte (s.take (blk false s)) 10:Int))=line+((s.take (blk false s)).count 10:Nat):=by
   show IntKind.i64.wrap (line+((s.take (blk false s)).count 10:Nat))=_;exact wrap64 (by omega) (by omega)
  rw[qs4];simp only[qfy];cases hd:s.drop (blk false s)with
  |nil=>
   cases acc with
   |nil=>
    rw[qaf (j:=0)]
    ·rfl
    ·simp only[hdT,qhb,jBy,qmV,hb,ev_bi_some,qbj hn,jB5,hd,jBt,ev_br,ev_at,jAa];rfl
   |cons a acc=>
    rw[qaf (j:=2)]
    ·rfl
    ·simp only[hdT,qhb,jBx,qmW,hb,ev_bi_some,qbj hn,jB5,hd,jBt,ev_br,ev_at,jAa];rfl
  |cons c r=>
   have hlen:=congrArg List.length hd;simp only[jB0,jA0]at hlen;have hx:=qET (s:=c::r) (by simp) (by simp only[zg0,jA0]at hl ⊢;omega);have he:((c::r:Bs)== [])=false:=rfl;cases hz:((qaw (c::r)).2.2 != 0)
   ·have hz':(qaw (c::r)).2.2=0:=by simpa using hz
    obtain⟨g1,t,g2⟩:=qcp hz';have g3:(qaw (c::r)).2.1.length<=(c::r).length:=by
     have:=congrArg List.length g2;rw[jA2]at this;omega
    have g4:1<=(qaw (c::r)).2.1.length:=by
     cases hq:(qaw (c::r)).2.1 with
     |nil=>exact absurd hq g1
     |cons _ _=>simp
    have hst:(qhb (hdT s line acc)).ev=some (.next (hdT ((c::r).drop (qaw (c::r)).2.1.length) (line+((s.take (blk false s)).count 10:Nat)) (acc++[⟨(qaw (c::r)).1,line+((s.take (blk false s)).count 10:Nat),(qaw (c::r)).2.1⟩]))):=by
     cases acc with
     |nil=>
      simp only[hdT,qhb,jBy,qmV,hb,ev_bi_some,qbj hn,qbj g3,jB5,hd,he,hx,hz,hw,jBt,ev_br,ev_at,jAa,jA9];rfl
     |cons a acc=>
      have hr:room ((ET (a::acc)).length+1) 32=true:=qdB (by simp only[jA5,lim];omega);simp only[hdT,qhb,jBx,qmW,hb,ev_bi_some,qbj hn,qbj g3,jB5,hd,he,hx,hz,hw,hr,jBt,ev_br,ev_at,jAa,jA9,jAk,jCi];simp[hdT,Tok.av]
    rw[qaq hst,<-qs4];simp only[hz,jA9];simp only[jA0]at g3;exact qKz k _ _ _ (by simp only[jB0,jA0];omega) (by omega) (by simp only[jB0,jA0];omega) (by simp only[jB0,jA0,jA2,jA4];omega)
   ·cases acc with
    |nil=>
     rw[qaf (j:=1)]
     ·simp(decide:=true) only[qzp,hdT,pj_some,jB2,jBg,ev_bi_none,ev_bi_some,ev_at,sl_inl,hb,gv_some,jB5,hd,hx,hw,hz,jAa];rfl
     ·simp only[hdT,qhb,jBy,qmV,hb,ev_bi_some,qbj hn,jB5,hd,he,hx,hz,jBt,ev_br,ev_at,jAa,jA9]
    |cons a acc=>
     rw[qaf (j:=3)]
     ·simp(decide:=true) only[qzp,hdT,pj_some,jB2,jBg,ev_bi_none,ev_bi_some,ev_at,sr_inr,hb,gv_some,jB5,hd,hx,hw,hz,jAa];rfl
     ·simp only[hdT,qhb,jBx,qmW,hb,ev_bi_some,qbj hn,jB5,hd,he,hx,hz,jBt,ev_br,ev_at,jAa,jA9]
theorem qfN(s:Bs):qjf s=some (ET (qbr s).1,(qbr s).2.1,(qbr s).2.2):=by
 rw[qLb,qNJ,qbr];cases h:decide ((s.length:Int)>2048)
 ·have h':s.length<=2048:=by
   have:=of_decide_eq_false h;omega
  simp only[ev_br,jA9];exact qKz (s.length+1) s 1 [] (by omega) (by omega) (by omega) (by simp;omega)
 ·rfl
end Go.Proofs.H16
namespace Go.Proofs.H16
open Go Go.Eng Go.Tk
set_option maxRecDepth 20000
theorem qEP{e:Ex}(h:e.nodes<=big):qxR e.op e.num e.txt (EX e.args)=some (e.nodes:Int):=by
 refine qdz (n:=e.dep) ?_
 induction e using Ex.ind with
 |h o n s l ih=>
  intro m hm;cases m with
  |zero=>simp[Ex.dep]at hm
  |succ k=>
   simp only[Ex.op,Ex.num,Ex.txt,Ex.args,qgP,qzG];simp only[Ex.nodes,Ex.dep]at h hm;have hll:=Ex.nodesL_len l;have key:qyh (qgP k) (1,EX l,((EX l).length:Int),0)=some (0,((l.foldl (fun a x=>a+Ex.nodes x) 1:Nat):Int),EX l,(l.length:Int),(l.length:Int)):=by
    rw[qv3];refine qta (l:=l) (hd:=fun n a=>(((a:Nat):Int),EX l,((EX l).length:Int),(n:Int))) (f:=fun a x=>a+Ex.nodes x) (jx:=fun _=>0) (inv:=fun n a=>a=1+Ex.nodesL (l.take n)) ?_ ?_ ?_ ?_ |>.trans ?_
    ·simp[Ex.nodesL]
    ·intro n a hn ha;rw[ha,List.take_succ_eq_append_getElem hn,Ex.nodesL_app];simp[Ex.nodesL];omega
    ·intro n a hn ha;have hx:l[n]∈l:=jAi hn;have h1:=Ex.nodesL_mem hx;have h2:=Ex.depL_mem hx;have hs:Ex.nodesL (l.take (n+1))<=Ex.nodesL l:=by
      conv=>rhs;rw[<-jCc (n+1) l,Ex.nodesL_app]
      omega
     rw[List.take_succ_eq_append_getElem hn,Ex.nodesL_app]at hs;simp only[Ex.nodesL]at hs;have hw:IntKind.i64.wrap ((a:Int)+(l[n].nodes:Int))=((a+l[n].nodes:Nat):Int):=by
      simp only[big]at h;rw[wrap64 (by omega) (by omega)];simp
     have hg:=ih l[n] hx (by omega) k (by omega);simp only[qmJ,qof,jA5,qa0 hn,okX hn,qx0 hn,qx1 hn,qx2 hn,qx3 hn,hg,ev_br,ev_at,ev_bi_some,jAa,hw,qat hn (show l.length<=big by omega)]
    ·intro a ha;simp[qmJ,qof]
    ·simp
   rw[key,Ex.nodes_fold];simp only[pj_some,jB2,ev_bi_some,ev_at,Ex.nodes]
   congr 2;omega
theorem qEQ{e:Ex}(h:e.nodes<=big):qsa e.op e.num e.txt (EX e.args)=some (e.dep:Int):=by
 refine qdz (n:=e.dep) ?_
 induction e using Ex.ind with
 |h o n s l ih=>
  intro m hm;cases m with
  |zero=>simp[Ex.dep]at hm
  |succ k=>
   have hdl:=Ex.dep_le (.mk o n s l);simp only[Ex.op,Ex.num,Ex.txt,Ex.args,qgQ,qzH];simp only[Ex.nodes,Ex.dep]at h hm hdl;have hll:=Ex.nodesL_len l;have key:qyi (qgQ k) (0,EX l,((EX l).length:Int),0)=some (0,((l.foldl (fun a x=>max a (Ex.dep x)) 0:Nat):Int),EX l,(l.length:Int),(l.length:Int)):=by
    rw[qv4];refine qta (l:=l) (hd:=fun n a=>(((a:Nat):Int),EX l,((EX l).length:Int),(n:Int))) (f:=fun a x=>max a (Ex.dep x)) (jx:=fun _=>0) (inv:=fun _ _=>True) trivial (fun _ _ _ _=>trivial) ?_ ?_ |>.trans ?_
    ·intro n a hn _;have hx:l[n]∈l:=jAi hn;have h1:=Ex.nodesL_mem hx;have h2:=Ex.depL_mem hx;have hg:=ih l[n] hx (by omega) k (by omega);have hm:(if (l[n].dep:Int)>(a:Int)then(l[n].dep:Int)else(a:Int))=((max a l[n].dep:Nat):Int):=by
      by_cases hc:a<l[n].dep
      ·rw[jAr (by omega),Nat.max_eq_right (by omega)]
      ·rw[jAm (by omega),Nat.max_eq_left (by omega)]
     simp only[qmK,qog,jA5,qa0 hn,okX hn,qx0 hn,qx1 hn,qx2 hn,qx3 hn,hg,ev_br,ev_at,ev_bi_some,jAa,hm,qat hn (show l.length<=big by omega)]
    ·intro a _;simp[qmK,qog]
    ·simp
   rw[key,Ex.dep_fold];have hw:IntKind.i64.wrap (((max 0 (Ex.depL l):Nat):Int)+1)=((Ex.depL l+1:Nat):Int):=by
    simp only[big]at h;rw[Nat.zero_max,wrap64 (by omega) (by omega)];simp
   simp only[pj_some,jB2,ev_bi_some,ev_at,Ex.dep,hw]
theorem qEv(op:Int):qjg op=some (qaN op):=by
 rw[qLf,qpS];by_cases h1:op=1
 ·subst h1;rfl
 by_cases h2:op=2
 ·subst h2;rfl
 by_cases h3:op=3
 ·subst h3;rfl
 by_cases h4:op=4
 ·subst h4;rfl
 by_cases h5:op=9
 ·subst h5;rfl
 by_cases h6:op=16
 ·subst h6;rfl
 by_cases h7:op=19
 ·subst h7;rfl
 have e1:(op==1)=false:=by simpa using h1
 have e2:(op==2)=false:=by simpa using h2
 have e3:(op==3)=false:=by simpa using h3
 have e4:(op==4)=false:=by simpa using h4
 have e5:(op==9)=false:=by simpa using h5
 have e6:(op==16)=false:=by simpa using h6
 have e7:(op==19)=false:=by simpa using h7
 simp only[e1,e2,e3,e4,e5,e6,e7,ev_br,ev_at,jA9,qaN,h1,h2,h3,h4,h5,h6,h7,or_self,jBg,br_eq,cond_some,ev_bi_some];by_cases h8:5<=op<;>by_cases h9:op<=18<;>simp[h8,h9]
theorem qEJ(e:Ex):qrU e.op e.num e.txt (EX e.args)=some (qaL e):=by
 rw[qLJ,qqj];simp only[qEv,ev_bi_some,ev_br,ev_at,cond_some,qaL,qg7,jA5];by_cases h1:e.op=1
 ·simp only[h1];cases(qaN 1==(e.args.length:Int))<;>cases decide (e.num>=0)<;>cases(e.txt== [])<;>simp
 by_cases h2:e.op=2
 ·simp only[h2];cases(qaN 2==(e.args.length:Int))<;>cases decide (e.num>=0)<;>cases(e.txt== [])<;>simp
 by_cases h3:e.op=3
 ·simp only[h3];cases(qaN 3==(e.args.length:Int))<;>cases decide (e.num>=0)<;>cases(e.txt== [])<;>simp
 have e1:(e.op==1)=false:=by simpa using h1
 have e2:(e.op==2)=false:=by simpa using h2
 have e3:(e.op==3)=false:=by simpa using h3
 simp only[e1,e2,e3,h1,h2,h3,jBg,jA9];cases(qaN e.op==(e.args.length:Int))<;>cases decide (e.num>=0)<;>cases decide (e.num<=0)<;>cases(e.txt== [])<;>rfl
theorem qEw(s:Bs):qnn s=some (qdE s):=by
 rw[qLg,qpT,qfN,qdE];simp only[ev_bi_some,br_eq,cond_some,jA5];cases h0:((qbr s).2.2==0)
 ·simp
 ·cases hl:(qbr s).1 with
  |nil=>simp
  |cons t l=>
   cases l with
   |nil=>
    have e1:qaG ksT (ET [t]) 0=true:=okT (l:=[t]) (n:=0) (by simp);have e2:intOf (cellAt (ET [t]) 0 0)=t.kind:=qt0 (l:=[t]) (n:=0) (by simp);have e3:strOf (cellAt (ET [t]) 0 2)=t.text:=qt2 (l:=[t]) (n:=0) (by simp);simp only[jAa,e1,e2,e3,jA0,jA4,List.head?_cons];cases hk:(t.kind==1)<;>simp
   |cons u l=>
    have:(((t::u::l).length:Int)==1)=false:=by simp;omega
    simp only[this,jAa,jA9,ev_bi_some,ev_at];simp
theorem qES(e:Ex):qsb e.op e.num e.txt (EX e.args)=some (qbu e):=by
 rw[qL0,qqA,qEw,qbu];cases(e.op != 4)<;>simp
theorem qSe:∀(e:Ex),e.nodes<=big-> ∀n,4*e.dep<=n->(qav n).1 e.op e.num e.txt (EX e.args)=some (e.allX qaL):=by
 intro e
 induction e using Ex.ind with
 |h o n s l ih=>
  intro h m hm;have hll:=Ex.nodesL_len l;have hal:=Ex.allX_eq qaL (.mk o n s l);simp only[Ex.nodes,Ex.dep]at h hm;obtain⟨k,rfl⟩:∃k,m=k+4:=⟨m-4,by omega⟩;have hloop:qTQ ((qav (k+1)).1) ((qav (k+1)).2.1) ((qav (k+1)).2.2.1) ((qav (k+1)).2.2.2) (EX l,((EX l).length:Int),0)=some (qjO (fun x=>!Ex.allX qaL x) (fun _=>0) 1 l,EX l,((EX l).length:Int),((l.findIdx (fun x=>!Ex.allX qaL x):Nat):Int)):=by
   rw[qIK];refine qbd (hd:=fun n=>(EX l,((EX l).length:Int),(n:Int))) (jx:=fun _=>0) _ 1 (fun n hn=>?_) ?_
   ·have hx:l[n]∈l:=jAi hn;have h1:=Ex.nodesL_mem hx;have h2:=Ex.depL_mem hx;have hg:=ih l[n] hx (by omega) k (by omega);have hg1:(qav (k+1)).2.2.2 l[n].op l[n].num l[n].txt (EX l[n].args)=some (!l[n].allX qaL):=by
     simp only[qav,qzA,hg,ev_bi_some,ev_at]
    simp only[qCz,qzi,jA5,qa0 hn,okX hn,qx0 hn,qx1 hn,qx2 hn,qx3 hn,hg1,ev_br,ev_at,ev_bi_some,jAa,qat hn (show l.length<=big by omega)];cases l[n].allX qaL<;>rfl
   ·simp[qCz,qzi]
  have hidx:(qav (k+2)).2.2.1 (EX l)=some (if l.any (fun x=>!Ex.allX qaL x)then((l.findIdx (fun x=>!Ex.allX qaL x):Nat):Int)else -1):=by
   rw[qav];simp only[q0k,hloop,qbm];cases l.any (fun x=>!Ex.allX qaL x)<;>simp
  have hcon:(qav (k+3)).2.1 (EX l)=some (l.any (fun x=>!Ex.allX qaL x)):=by
   rw[qav];simp only[q0i,hidx,ev_bi_some,ev_at];cases l.any (fun x=>!Ex.allX qaL x)<;>simp
  rw[qav];have hf:=qEJ (.mk o n s l);simp only[Ex.op,Ex.num,Ex.txt,Ex.args]at hf ⊢;simp only[qzI,hf,hcon,ev_bi_some,sm_some,gv_some,br_eq,jAa];rw[hal,Ex.args];have hna:(!l.any (fun x=>!Ex.allX qaL x))=l.all (Ex.allX qaL):=by
   rw[List.not_any_eq_all_not];simp
  cases qaL (.mk o n s l)<;>simp[hna]
theorem qER{e:Ex}(h:e.nodes<=big):qxS e.op e.num e.txt (EX e.args)=some (e.allX qaL):=
 qdz (qSe e h)
theorem qK5:∀(e:Ex),e.nodes<=big-> ∀n,4*e.dep<=n->(qau n).1 e.op e.num e.txt (EX e.args)=some (e.allX qbu):=by
 intro e
 induction e using Ex.ind with
 |h o n s l ih=>
  intro h m hm;have hll:=Ex.nodesL_len l;have hal:=Ex.allX_eq qbu (.mk o n s l);simp only[Ex.nodes,Ex.dep]at h hm;obtain⟨k,rfl⟩:∃k,m=k+4:=⟨m-4,by omega⟩;have hloop:qTO ((qau (k+1)).1) ((qau (k+1)).2.1) ((qau (k+1)).2.2.1) ((qau (k+1)).2.2.2) (EX l,((EX l).length:Int),0)=some (qjO (fun x=>!Ex.allX qbu x) (fun _=>0) 1 l,EX l,((EX l).length:Int),((l.findIdx (fun x=>!Ex.allX qbu x):Nat):Int)):=by
   rw[qIJ];refine qbd (hd:=fun n=>(EX l,((EX l).length:Int),(n:Int))) (jx:=fun _=>0) _ 1 (fun n hn=>?_) ?_
   ·have hx:l[n]∈l:=jAi hn;have h1:=Ex.nodesL_mem hx;have h2:=Ex.depL_mem hx;have hg:=ih l[n] hx (by omega) k (by omega);have hg1:(qau (k+1)).2.2.2 l[n].op l[n].num l[n].txt (EX l[n].args)=some (!l[n].allX qbu):=by
     simp only[qau,qzt,hg,ev_bi_some,ev_at]
    simp only[qCy,qzh,jA5,qa0 hn,okX hn,qx0 hn,qx1 hn,qx2 hn,qx3 hn,hg1,ev_br,ev_at,ev_bi_some,jAa,qat hn (show l.length<=big by omega)];cases l[n].allX qbu<;>rfl
   ·simp[qCy,qzh]
  have hidx:(qau (k+2)).2.2.1 (EX l)=some (if l.any (fun x=>!Ex.allX qbu x)then((l.findIdx (fun x=>!Ex.allX qbu x):Nat):Int)else -1):=by
   rw[qau];simp only[q0j,hloop,qbm];cases l.any (fun x=>!Ex.allX qbu x)<;>simp
  have hcon:(qau (k+3)).2.1 (EX l)=some (l.any (fun x=>!Ex.allX qbu x)):=by
   rw[qau];simp only[q0h,hidx,ev_bi_some,ev_at];cases l.any (fun x=>!Ex.allX qbu x)<;>simp
  rw[qau];have hf:=qES (.mk o n s l);simp only[Ex.op,Ex.num,Ex.txt,Ex.args]at hf ⊢;simp only[qzB,hf,hcon,ev_bi_some,sm_some,gv_some,br_eq,jAa];rw[hal,Ex.args];have hna:(!l.any (fun x=>!Ex.allX qbu x))=l.all (Ex.allX qbu):=by
   rw[List.not_any_eq_all_not];simp
  cases qbu (.mk o n s l)<;>simp[hna]
theorem qEI{e:Ex}(h:e.nodes<=big):qxO e.op e.num e.txt (EX e.args)=some (e.allX qbu):=
 qdz (qK5 e h)
theorem qlk{e:Ex}(h:e.nodes<=big):qie e.op e.num e.txt (EX e.args)=some (qaJ e):=by
 rw[qLe,qpR,qEP h,qEQ h,qER h,qEI h,qaJ];have e1:decide ((e.nodes:Int)>64)=decide (e.nodes>64):=by
  by_cases h:e.nodes>64<;>simp[h]<;>omega
 have e2:decide (gv (some (e.dep:Int))>8)=decide (e.dep>8):=by
  show decide ((e.dep:Int)>8)=_;by_cases h:e.dep>8<;>simp[h]<;>omega
 simp only[ev_bi_some,br_eq,sm_some,e1,e2];cases decide (e.nodes>64)<;>cases decide (e.dep>8)<;>cases e.allX qaL<;>cases e.allX qbu<;>rfl
end Go.Proofs.H16
namespace Go.Tk
open Go Go.Eng
set_option linter.unusedSimpArgs false
set_option linter.unusedVariables false
theorem qCO{p:UInt8->Bool}{d:UInt8}(hd:p d=false):∀(l q:Bs),(l++d::q).takeWhile p=l.takeWhile p
 | [],q=>by simp[List.takeWhile,hd]
 |c::l,q=>by
  simp only[jAk,jBk];cases p c
  ·rfl
  ·rw[qCO hd l q]
theorem q0m{p:UInt8->Bool}(l:Bs):(l.takeWhile p).takeWhile p=l.takeWhile p:=qk8.2 q0n
def mk2:Bs->Bool
 | [_]=>true
 | [_,b]=>b==61
 |_=>false
theorem qBJ:∀m∈marksS,mk2 m=true:=by decide
theorem qwt:∀m∈marksS,qaw m=(4,m,0):=by decide
theorem qUU{x:Bs}(h:(qaw x).2.2=0):qaw (qaw x).2.1=qaw x:=by
 cases x with
 |nil=>rfl
 |cons c r=>
  cases hl:at8 qei c
  ·cases hd:at8 qbe c
   ·have e:qaw (c::r)=match marksS.find? (preB · (c::r))with|some m=>(4,m,0)|none=>(0,[],2):=by simp only[qaw,hl,hd,jA9];rfl
    rw[e]at h ⊢;cases hf:marksS.find? (preB · (c::r))with
    |none=>rw[hf]at h;simp at h
    |some m=>exact qwt m (jB4 hf)
   ·have e:qaw (c::r)=qyG ((c::r).takeWhile (at8 qcD)):=by simp only[qaw,hl,hd,jA9,jAa]
    have hn:at8 qcD c=true:=by simp only[at8,qcD,qch]at hd ⊢;simp[hd]
    have ht:(c::r).takeWhile (at8 qcD)=c::r.takeWhile (at8 qcD):=by simp[hn]
    have hk:(qyG ((c::r).takeWhile (at8 qcD))).2.2=0->(qyG ((c::r).takeWhile (at8 qcD))).2.1=(c::r).takeWhile (at8 qcD):=by
     unfold qyG;cases qgo ((c::r).takeWhile (at8 qcD))<;>cases nOk (Lib.parseIntB 64 ((c::r).takeWhile (at8 qcD)))<;>cases((qbh ((c::r).takeWhile (at8 qcD))).2==0)<;>cases((qbh ((c::r).takeWhile (at8 qcD))).2==1)<;>simp
    rw[e]at h ⊢;rw[hk h];have e2:qaw ((c::r).takeWhile (at8 qcD))=qyG (((c::r).takeWhile (at8 qcD)).takeWhile (at8 qcD)):=by
     rw[ht];simp only[qaw,hl,hd,jA9,jAa]
    rw[e2,q0m]
  ·have hn:at8 qch c=true:=by simp only[at8,qch]at hl ⊢;simp[hl]
   have ht:(c::r).takeWhile (at8 qch)=c::r.takeWhile (at8 qch):=by simp[hn]
   have e:∀y:Bs,qaw (c::y)=bif qbT ((c::y).takeWhile (at8 qch))then(5,(c::y).takeWhile (at8 qch),0)else bif decide (((c::y).takeWhile (at8 qch)).length>16)then(0,[],4)else(1,(c::y).takeWhile (at8 qch),0):=by
    intro y;simp only[qaw,hl,jAa]
   have hk:(qaw (c::r)).2.1=(c::r).takeWhile (at8 qch):=by
    rw[e]at h ⊢;cases hw:qbT ((c::r).takeWhile (at8 qch))
    ·rw[hw]at h;cases hg:decide (((c::r).takeWhile (at8 qch)).length>16)
     ·rfl
     ·rw[hg]at h;simp at h
    ·rfl
   rw[hk]
   conv=>lhs;rw[ht,e]
   rw[<-ht,q0m,<-e]
def qNS:Bs->Bool
 | []=>false
 |c::_=>!spI c.toNat&& !((c.toNat:Int)==35)
theorem q3A:∀m∈marksS,qNS m=true:=by decide
theorem qUS{x:Bs}(h:(qaw x).2.2=0):qNS x=true:=by
 cases x with
 |nil=>simp[qaw]at h
 |cons c r=>
  cases hl:at8 qei c
  ·cases hd:at8 qbe c
   ·have e:qaw (c::r)=match marksS.find? (preB · (c::r))with|some m=>(4,m,0)|none=>(0,[],2):=by simp only[qaw,hl,hd,jA9];rfl
    rw[e]at h;cases hf:marksS.find? (preB · (c::r))with
    |none=>rw[hf]at h;simp at h
    |some m=>
     have h1:=q3A m (jB4 hf);have h2:=jC4 hf;simp only[preB,jA1,jA6,jB7]at h2;cases m with
     |nil=>cases h1
     |cons a m=>
      have h3:=h2.2;simp only[jA0,jCo,jC5]at h3;rw[h3.1];exact h1
   ·simp only[at8,qbe,jA1,jA6]at hd;simp only[qNS,spI,jA1,jB9,jB6,jBj];omega
  ·simp only[at8,qei,jA1,jA6]at hl;simp only[qNS,spI,jA1,jB9,jB6,jBj];omega
theorem zhN{x:Bs}(h:qNS x=true):blk false x=0:=by
 cases x with
 |nil=>rfl
 |cons c r=>
  simp only[qNS,jA1,jB9]at h;simp only[blk,h.1,h.2,jA9]
theorem qRB{s:Bs}:∀(p:Bs),(p.all fun c=>spI c.toNat)=true->blk false (p++s)=p.length+blk false s
 | [],_=>by simp
 |c::p,h=>by
  simp only[jAw,jA1]at h;simp only[jAk,blk,h.1,jAa,jA0,qRB p h.2];omega
theorem qwZ:∀(k k':Nat) (s:Bs) (line:Int) (acc:List Tok),s.length<k->s.length<k'->qfy k s line acc=qfy k' s line acc
 |0,_,s,_,_,h,_=>by omega
 |_,0,s,_,_,_,h=>by omega
 |k+1,k'+1,s,line,acc,h,h'=>by
  simp only[qfy];cases hq:s.drop (blk false s)with
  |nil=>rfl
  |cons c r=>
   simp only;cases he:((qaw (c::r)).2.2 != 0)
   ·have he0:(qaw (c::r)).2.2=0:=by simpa using he
    have hp:=jCp.2 (qcp he0).1;have hlen:(c::r).length<=s.length:=by rw[<-hq];simp
    simp only[jA0]at hlen;exact qwZ k k' _ _ _ (by simp;omega) (by simp;omega)
   ·rfl
theorem qCL:∀(k:Nat) (s:Bs) (line:Int) (acc:List Tok),s.length<k->qfy k s line acc=bif (qfy k s line []).2.2 != 0 then qfy k s line []else(acc++(qfy k s line []).1,(qfy k s line []).2)
 |0,s,_,_,h=>by omega
 |k+1,s,line,acc,h=>by
  simp only[qfy];cases hq:s.drop (blk false s)with
  |nil=>simp
  |cons c r=>
   simp only;cases he:((qaw (c::r)).2.2 != 0)
   ·have he0:(qaw (c::r)).2.2=0:=by simpa using he
    have hp:=jCp.2 (qcp he0).1;have hlen:(c::r).length<=s.length:=by rw[<-hq];simp
    simp only[jA0]at hlen;simp only[jA9];have ih:=fun a=>qCL k ((c::r).drop (qaw (c::r)).2.1.length) (line+(s.take (blk false s)).count 10) a (by simp;omega)
    rw[ih (acc++_),ih ([]++_)];cases hz:((qfy k ((c::r).drop (qaw (c::r)).2.1.length) (line+(s.take (blk false s)).count 10) []).2.2 != 0)
    ·simp only[jA9,hz,jAf,jAx]
    ·simp only[jAa,hz]
   ·simp only[jAa,he]
def rdT(s:Bs)(line:Int):List Tok×Int×Int:=qfy (s.length+1) s line []
def qpa(t:Tok)(q:List Tok×Int×Int):List Tok×Int×Int:=bif q.2.2 != 0 then q else(t::q.1,q.2)
def stepT(x:Bs)(ln:Int):List Tok×Int×Int:=match x with
 | []=>([],0,0)
 |c::r=>bif (qaw (c::r)).2.2 != 0 then([],ln,(qaw (c::r)).2.2)else qpa ⟨(qaw (c::r)).1,ln,(qaw (c::r)).2.1⟩ (rdT ((c::r).drop (qaw (c::r)).2.1.length) ln)
theorem qeB(s:Bs)(line:Int):rdT s line=stepT (s.drop (blk false s)) (line+(s.take (blk false s)).count 10):=by
 unfold rdT stepT;simp only[qfy];cases hq:s.drop (blk false s)with
 |nil=>rfl
 |cons c r=>
  simp only;cases he:((qaw (c::r)).2.2 != 0)
  ·have he0:(qaw (c::r)).2.2=0:=by simpa using he
   have hp:=jCp.2 (qcp he0).1;have hlen:(c::r).length<=s.length:=by rw[<-hq];simp
   simp only[jA0]at hlen;simp only[jA9];rw[qCL s.length _ _ _ (by simp;omega)];unfold rdT qpa;rw[qwZ s.length (((c::r).drop (qaw (c::r)).2.1.length).length+1) _ _ [] (by simp;omega) (by omega)];rfl
  ·rfl
theorem qoG{s:Bs}(h:s.length<=2048):qbr s=rdT s 1:=by
 unfold qbr rdT;rw[jAe (by omega)];rfl
theorem zaD(line:Int):rdT [] line=([],0,0):=rfl
theorem znz{s:Bs}(h:qNS s=true)(line:Int):rdT s line=stepT s line:=by
 rw[qeB,zhN h];simp
theorem zaE{p s:Bs}(h:blk false (p++s)=p.length+blk false s)(line:Int):rdT (p++s) line=rdT s (line+p.count 10):=by
 rw[qeB,qeB s,h];have h1:(p++s).drop (p.length+blk false s)=s.drop (blk false s):=by rw[<-List.drop_drop];simp
 have h2:(p++s).take (p.length+blk false s)=p++s.take (blk false s):=by rw[List.take_append];simp[jBb]
 rw[h1,h2,List.count_append]
 congr 1
 push_cast
 omega
def shT(d:Int)(q:List Tok×Int×Int):List Tok×Int×Int:=(q.1.map fun t=>⟨t.kind,t.line+d,t.text⟩,(bif q.2.2 != 0 then q.2.1+d else q.2.1),q.2.2)
def qaP(t:Tok):Bool:=(qbr t.text).2.2==0&&((qbr t.text).1.length==1&&match (qbr t.text).1 with
 |u::_=>u.kind==t.kind&&u.text==t.text
 | []=>false)
theorem qm0{t:Tok}(h:qaw t.text=(t.kind,t.text,0))(hl:t.text.length<=2048):qaP t=true:=by
 have h0:(qaw t.text).2.2=0:=by rw[h]
 have hh:=qUS h0;unfold qaP;rw[qoG hl,znz hh];cases hx:t.text with
 |nil=>rw[hx]at hh;cases hh
 |cons c r=>
  rw[hx]at h h0;simp only[stepT,h];simp[zaD,qpa]
theorem qd0{t:Tok}(h:qaP t=true):t.text.length<=2048/\qNS t.text=true/\qaw t.text=(t.kind,t.text,0):=by
 by_cases hl:t.text.length<=2048
 ·refine⟨hl,?_⟩;unfold qaP at h;rw[qoG hl,qeB]at h;cases hx:t.text.drop (blk false t.text)with
  |nil=>rw[hx]at h;simp[stepT]at h
  |cons c r=>
   rw[hx]at h;simp only[stepT]at h;cases he:((qaw (c::r)).2.2 != 0)
   ·have he0:(qaw (c::r)).2.2=0:=by simpa using he
    rw[he]at h;simp only[jA9,qpa]at h;cases hz:((rdT ((c::r).drop (qaw (c::r)).2.1.length) (1+((t.text.take (blk false t.text)).count 10:Nat))).2.2 != 0)
    ·rw[hz]at h;simp only[jA9,jA1,jB7]at h;obtain⟨_,_,h1,h2⟩:=h;obtain⟨_,y,hy⟩:=qcp he0;have hlen:(qaw (c::r)).2.1.length+y.length+blk false t.text=t.text.length:=by
      have:=congrArg List.length hx;rw[jB0]at this;have h3:=congrArg List.length hy;rw[jA2]at h3;have:=qma false t.text;omega
     rw[h2]at hlen;have hb:blk false t.text=0:=by omega
     rw[hb,List.drop_zero]at hx;refine⟨?_,?_⟩
     ·rw[hx];exact qUS he0
     ·rw[hx]at h2 ⊢;exact Prod.ext h1 (Prod.ext h2 he0)
    ·rw[hz]at h;simp only[jAa,jA1,jB7]at h;rw[h.1]at hz;simp at hz
   ·rw[he]at h;simp only[jAa,jA1,jB7]at h;rw[h.1]at he;simp at he
 ·unfold qaP qbr at h;rw[jA8 (by omega)]at h;simp at h
def qjP(i:Nat)(n:Int)(t:Tok):Bs:=List.replicate (t.line-n).toNat 10++(if i>0/\t.line=n then[32]else[])
def okJ:Nat->Int->Nat->List Tok->Bool
 |_,_,_,[]=>true
 |i,n,k,t::l=>decide (t.line-n<=2048)&&(decide (k+(qjP i n t).length+t.text.length<=2048)&&okJ (i+1) t.line (k+(qjP i n t).length+t.text.length) l)
theorem qRn:∀(k:Nat) (s:Bs) (n:Int) (l:List Tok),s.length<=k->s.length<=2048->rdT s n=(l,0,0)->qlg qaP n l=true/\ ∀i m,m+2*s.length<=2048->okJ i n m l=true:=by
 intro k
 induction k with
 |zero=>
  intro s n l h _ hT;have:s= []:=jAy.1 (by omega);subst this;rw[zaD]at hT;cases hT;exact⟨rfl,fun _ _ _=>rfl⟩
 |succ k ih=>
  intro s n l h h2 hT;rw[qeB]at hT;cases hx:s.drop (blk false s)with
  |nil=>rw[hx]at hT;cases hT;exact⟨rfl,fun _ _ _=>rfl⟩
  |cons c r=>
   rw[hx]at hT;simp only[stepT]at hT;have hlen:=congrArg List.length hx;rw[jB0]at hlen;have hble:=qma false s;have hcnt:(s.take (blk false s)).count 10<=blk false s:=jAz List.count_le_length (by simp;omega);cases he:((qaw (c::r)).2.2 != 0)
   ·have he0:(qaw (c::r)).2.2=0:=by simpa using he
    obtain⟨hp,y,hy⟩:=qcp he0;have hp:=jCp.2 hp;have hy':=congrArg List.length hy;rw[jA2]at hy';rw[he]at hT;simp only[jA9,qpa]at hT;cases hz:((rdT ((c::r).drop (qaw (c::r)).2.1.length) (n+((s.take (blk false s)).count 10:Nat))).2.2 != 0)
    ·have hz0:(rdT ((c::r).drop (qaw (c::r)).2.1.length) (n+((s.take (blk false s)).count 10:Nat))).2.2=0:=by simpa using hz
     rw[hz]at hT;simp only[jA9,jAd]at hT;obtain⟨rfl,ht2⟩:=hT;have hdl:((c::r).drop (qaw (c::r)).2.1.length).length=(c::r).length-(qaw (c::r)).2.1.length:=by rw[jB0]
     obtain⟨i1,i2⟩:=ih ((c::r).drop (qaw (c::r)).2.1.length) (n+((s.take (blk false s)).count 10:Nat)) _ (by omega) (by omega) (Prod.ext rfl ht2);refine⟨?_,fun i m hm=>?_⟩
     ·simp only[qlg,jA1,jA6];refine⟨qm0 ?_ ?_,by omega,i1⟩
      ·show qaw (qaw (c::r)).2.1=_;rw[qUU he0,<-he0]
      ·show(qaw (c::r)).2.1.length<=2048;omega
     ·have hsep:(qjP i n ⟨(qaw (c::r)).1,n+((s.take (blk false s)).count 10:Nat),(qaw (c::r)).2.1⟩).length<=blk false s+1:=by
       unfold qjP;simp only[jA2,List.length_replicate];split
       ·simp only[jA0,jA4];omega
       ·simp only[jA4];omega
      simp only[okJ,jA1,jA6];refine⟨by omega,by omega,i2 _ _ (by omega)⟩
    ·rw[hz]at hT;simp only[jAa]at hT;rw[hT]at hz;simp at hz
   ·rw[he]at hT;simp only[jAa,jAd]at hT;rw[hT.2.2]at he;simp at he
set_option linter.unusedSimpArgs false
set_option linter.unusedVariables false
def plS(s:Bs):Nat:=bif decide ((s.takeWhile (at8 qbe)).length>1)&&s.head? == some 48 then 0 else(s.takeWhile (at8 qbe)).length
def qS6(r:Bs):Bool:=r== []||(decide (2<=r.length)&&(decide (r.length<=5)&&(r.head? == some 46&&(r.getLast? != some 48&&(r.drop 1).all (at8 qbe)))))
def qnE(s:Bs):Bool:=plS s != 0&&(s.getLast? == some 37&&qS6 ((s.drop (plS s)).dropLast))
theorem qHj{c:UInt8}(h:at8 qbe c=true):c≠46:=by rintro rfl;cases h
theorem qw5{p:UInt8->Bool}{l:Bs}(hl:l.all p=true){d:UInt8}(hd:p d=false)(q:Bs):(l++d::q).takeWhile p=l:=by
 rw[qCO hd];exact qk8.2 hl
theorem qrC(t:Bs):(t=(qdc t).1++(bif (qdc t).2.2 then 46::(qdc t).2.1 else[]))/\((qdc t).2.2=false->(qdc t).2.1= []):=by
 unfold qdc;cases h:t.dropWhile (· != 46)with
 |nil=>
  refine⟨by simp,fun _=>rfl⟩
 |cons x r=>
  simp only[jAa];have hx:x=46:=by
   have:=List.head?_dropWhile_not (p:=(· != 46)) (l:=t);rw[h]at this;simpa using this
  refine⟨?_,fun h=>by cases h⟩;subst hx;rw[<-h,List.takeWhile_append_dropWhile]
theorem q7q{p:UInt8->Bool}:∀{l:Bs},(∀x∈l,p x=true)->l.dropWhile p= []
 | [],_=>rfl
 |x::l,h=>by rw[List.dropWhile_cons,h x (by simp)];exact q7q fun y hy=>h y (by simp[hy])
theorem qrB{d:Bs}(hd:d.all (at8 qbe)=true):qdc d=(d,[],false):=by
 unfold qdc;have:d.dropWhile (· != 46)= []:=by
  refine q7q fun x hx=>?_
  have:=qHj (jAb.1 hd x hx);simpa using this
 rw[this]
theorem qvt{d:Bs}(hd:d.all (at8 qbe)=true)(r:Bs):qdc (d++46::r)=(d,r,true):=by
 unfold qdc;have hall:d.all (· != 46)=true:=by
  rw[jAb];intro x hx;have:=qHj (jAb.1 hd x hx);simpa using this
 have h1:(d++46::r).takeWhile (· != 46)=d:=qw5 hall (by rfl) r;have h2:(d++46::r).dropWhile (· != 46)=46::r:=by
  have:=List.takeWhile_append_dropWhile (p:=(· != 46)) (l:=d++46::r);rw[h1]at this;exact List.append_cancel_left this
 rw[h1,h2]
theorem qa6{a:Bs}:qgo a=true ↔ a.all (at8 qbe)=true/\a≠ []/\(a.length=1\/a.head? ≠ some 48):=by
 unfold qgo;simp only[jA1,bne_iff_ne,ne_eq,jAv,jB7];constructor
 ·rintro⟨h1,h2,h3⟩;refine⟨h1,h2,h3.imp (fun h=>by omega) id⟩
 ·rintro⟨h1,h2,h3⟩;refine⟨h1,h2,h3.imp (fun h=>by omega) id⟩
theorem qyP{a:Bs}(h:qgo a=true){d:UInt8}(hd:at8 qbe d=false)(q:Bs):plS (a++d::q)=a.length:=by
 obtain⟨h1,h2,h3⟩:=qa6.1 h;unfold plS;rw[qw5 h1 hd];have hh:(a++d::q).head? = a.head?:=by
  cases a with
  |nil=>exact absurd rfl h2
  |cons=>rfl
 rw[hh];rcases h3 with h3|h3
 ·simp[h3]
 ·have:(a.head? == some 48)=false:=by simpa using h3
  simp[this]
theorem qS7{b:Bs}:qS6 (46::b)=qfx b:=by
 unfold qS6 qfx;cases b with
 |nil=>rfl
 |cons c r=>
  have h1:((46::c::r:Bs)== [])=false:=rfl;have h2:((c::r:Bs) != [])=true:=rfl;have h3:(46::c::r:Bs).getLast? = (c::r).getLast?:=by simp[List.getLast?_cons_cons]
  rw[h1,h2,h3];simp only[Bool.false_or,jBm,jA0,List.head?_cons,List.drop_succ_cons,List.drop_zero,beq_self_eq_true];rw[show decide (2<=r.length+1+1)=true from jA8 (by omega)];have h4:decide (r.length+1+1<=5)=decide (r.length+1<=4):=by
   by_cases h:r.length+1<=4
   ·rw[jA8 h,jA8 (by omega)]
   ·rw[jAe h,jAe (by omega)]
  rw[h4];simp only[jBm];cases decide (r.length+1<=4)<;>cases((c::r).getLast? != some 48)<;>cases(c::r).all (at8 qbe)<;>rfl
def rtB(t:Bs):Bool:=qgo (qdc t).1&&(!(qdc t).2.2||qfx (qdc t).2.1)
theorem qFj(s:Bs):qnE s=(s.getLast? == some 37&&rtB s.dropLast):=by
 by_cases hl:s.getLast? = some 37
 ·have hs:s=s.dropLast++[37]:=by
   have hne:s≠ []:=by rintro rfl;simp at hl
   have:=List.dropLast_concat_getLast hne;rw[List.getLast?_eq_some_getLast hne,jA7]at hl;rw[hl]at this;exact this.symm
  generalize ht:s.dropLast=t at hs;subst hs;have hb:((t++[37]).getLast? == some 37)=true:=by simp
  unfold qnE;rw[hb,jBm,jBm];obtain⟨hc,hc0⟩:=qrC t;unfold rtB;cases hi:qgo (qdc t).1
  ·simp only[Bool.false_and];cases hp:(plS (t++[37]) != 0)
   ·rfl
   ·simp only[jBm];have hp0:plS (t++[37])≠0:=by simpa using hp
    have htw:(t++[37]).takeWhile (at8 qbe)=t.takeWhile (at8 qbe):=qCO rfl t [];have hpl:plS (t++[37])=(t.takeWhile (at8 qbe)).length/\((t.takeWhile (at8 qbe)).length>1->(t++[37]).head? ≠ some 48):=by
     unfold plS at hp0 ⊢;rw[htw]at hp0 ⊢;cases hq:(decide ((t.takeWhile (at8 qbe)).length>1)&&(t++[37]).head? == some 48)
     ·rw[jA9];refine⟨rfl,fun h1 h2=>?_⟩;rw[jA8 h1,h2]at hq;simp at hq
     ·rw[hq]at hp0;simp at hp0
    obtain⟨hpl,hz⟩:=hpl;rw[hpl]at hp0;have hle:=qgt (p:=at8 qbe) t;have hdl:((t++[37]).drop (t.takeWhile (at8 qbe)).length).dropLast=t.drop (t.takeWhile (at8 qbe)).length:=by
     rw[List.drop_append_of_le_length hle];simp
    rw[hpl,hdl,drop_tw];have hsplit:=List.takeWhile_append_dropWhile (p:=at8 qbe) (l:=t);have hd:=q0n (p:=at8 qbe) (l:=t);have hdi:qgo (t.takeWhile (at8 qbe))=true:=by
     refine qa6.2 ⟨hd,fun h=>hp0 (by rw[h];rfl),?_⟩;by_cases h1:(t.takeWhile (at8 qbe)).length>1
     ·right;have:=hz h1;cases t with
      |nil=>simp at h1
      |cons c r=>
       cases hcd:at8 qbe c
       ·simp[hcd]at h1
       ·simpa[jBk,hcd]using this
     ·left;omega
    cases hr:t.dropWhile (at8 qbe)with
    |nil=>
     rw[hr,jC6]at hsplit;rw[<-hsplit,qrB hd]at hi;rw[hdi]at hi;cases hi
    |cons x r=>
     rw[hr]at hsplit;by_cases hx:x=46
     ·subst hx;rw[<-hsplit,qvt hd]at hi;rw[hdi]at hi;cases hi
     ·unfold qS6;have h1:((x::r:Bs)== [])=false:=rfl;have h2:((x::r:Bs).head? == some 46)=false:=by simpa using hx
      rw[h1,h2];simp
  ·simp only[jBm];cases hf:(qdc t).2.2
   ·rw[hf,jA9,jC6]at hc;have hpl:plS (t++[37])=t.length:=by
     rw[<-hc]at hi;exact qyP hi rfl []
    have ht0:t≠ []:=by
     rw[<-hc]at hi;exact(qa6.1 hi).2.1
    have:t.length≠0:=fun h=>ht0 (jAy.1 h)
    rw[hpl,List.drop_left];have h1:(t.length != 0)=true:=by simpa using this
    rw[h1];rfl
   ·rw[hf,jAa]at hc;have hne:=(qa6.1 hi).2.1;have hpl:plS (t++[37])=(qdc t).1.length:=by
     have:=qyP hi (d:=46) rfl ((qdc t).2.1++[37]);rw[show(qdc t).1++46::((qdc t).2.1++[37])=t++[37] by conv=>rhs;rw[hc];simp]at this;exact this
    have hd:((t++[37]).drop (qdc t).1.length).dropLast=46::(qdc t).2.1:=by
     have:t++[37]=(qdc t).1++(46::(qdc t).2.1++[37]):=by
      rw[show(qdc t).1++(46::(qdc t).2.1++[37])=((qdc t).1++46::(qdc t).2.1)++[37] by simp,<-hc]
     rw[this,List.drop_left,List.dropLast_concat]
    have h1:((qdc t).1.length != 0)=true:=by
     have:(qdc t).1.length≠0:=fun h=>hne (jAy.1 h)
     simpa using this
    rw[hpl,hd,h1,qS7];simp
 ·have:(s.getLast? == some 37)=false:=by simpa using hl
  unfold qnE;rw[this];simp
theorem qyV(s:Bs):((qbh s).2 != 2)=qnE s:=by
 rw[qFj];unfold qbh rtB;cases hl:(s.getLast? == some 37)
 ·rfl
 ·simp only[jAa,jBm];cases qgo (qdc s.dropLast).1<;>cases(qdc s.dropLast).2.2<;>cases qfx (qdc s.dropLast).2.1<;>cases decide ((qdc s.dropLast).1.length>3)<;>cases decide ((qa1 0 ((qdc s.dropLast).1++qiv (qdc s.dropLast).2.1):Int)>1000000)<;>rfl
theorem qgB(a:Nat)(x y:Bs):qa1 a (x++y)=qa1 (qa1 a x) y:=by simp[qa1,List.foldl_append]
theorem qAZ:∀(k a:Nat),qa1 a (List.replicate k 48)=a*10^k
 |0,a=>by simp[qa1]
 |k+1,a=>by
  have:=qAZ k (a*10+((48:UInt8).toNat-48));simp only[List.replicate_succ,qa1,jC3]at this ⊢;rw[this];simp[Nat.pow_succ,Nat.mul_assoc,Nat.mul_comm]
theorem qfu:∀(l:Bs) (a:Nat),qa1 a l=a*10^l.length+qa1 0 l
 | [],a=>by simp[qa1]
 |c::r,a=>by
  have h1:=qfu r (a*10+(c.toNat-48));have h2:=qfu r (0*10+(c.toNat-48));simp only[qa1,jC3,jA0]at h1 h2 ⊢;rw[h1,h2,Nat.pow_succ];simp only[Nat.zero_mul,jCl,jBe];rw[Nat.mul_assoc,Nat.mul_comm 10];omega
theorem qer{c:UInt8}(h:at8 qbe c=true):48<=c.toNat/\c.toNat<=57:=by
 simp only[at8,qbe,jA1,jA6]at h;omega
theorem qhy{c:UInt8}(h:at8 qbe c=true):UInt8.ofNat (48+(c.toNat-48))=c:=by
 have:=qer h;rw[show 48+(c.toNat-48)=c.toNat by omega];exact UInt8.ofNat_toNat
theorem qvu:∀(n:Nat) (a:Bs),a.length<=n->qgo a=true->Lib.decDigits (qa1 0 a)=a:=by
 intro n
 induction n with
 |zero=>
  intro a h hi;exact absurd (jAy.1 (by omega)) (qa6.1 hi).2.1
 |succ n ih=>
  intro a h hi;obtain⟨h1,h2,h3⟩:=qa6.1 hi;obtain⟨b,c,rfl⟩:∃b c,a=b++[c]:=⟨a.dropLast,a.getLast h2,(List.dropLast_concat_getLast h2).symm⟩;rw[jCk,jA1]at h1;have hc:at8 qbe c=true:=by simpa using h1.2
  have hr:=qer hc;have hv:qa1 0 (b++[c])=qa1 0 b*10+(c.toNat-48):=by rw[qgB];rfl
  by_cases hb:b= []
  ·subst hb;rw[hv];show Lib.decDigits (0*10+(c.toNat-48))= [c];rw[Lib.decDigits,dif_pos (by omega),Nat.zero_mul,jCl,qhy hc]
  ·have hhd:(b++[c]).head? = b.head?:=by
    cases b with
    |nil=>exact absurd rfl hb
    |cons=>rfl
   have hlen:(b++[c]).length≠1:=by
    have:b.length≠0:=fun h=>hb (jAy.1 h)
    simp;omega
   have h48:b.head? ≠ some 48:=by rw[<-hhd];exact h3.resolve_left hlen
   have hib:qgo b=true:=qa6.2 ⟨h1.1,hb,.inr h48⟩;have hpos:1<=qa1 0 b:=by
    cases b with
    |nil=>exact absurd rfl hb
    |cons x r=>
     have hx:=h1.1;simp only[jAw,jA1]at hx;have hxr:=qer hx.1;have hx48:x.toNat≠48:=fun he=>h48 (by
      have:x=48:=UInt8.toNat_inj.1 (by simpa using he);rw[this];rfl)
     have:=qrD r (0*10+(x.toNat-48));show 1<=qa1 (0*10+(x.toNat-48)) r;omega
   rw[hv,Lib.decDigits,dif_neg (by omega),show(qa1 0 b*10+(c.toNat-48)) / 10=qa1 0 b by omega,show(qa1 0 b*10+(c.toNat-48))%10=c.toNat-48 by omega,ih b (by simp at h;omega) hib,qhy hc]
theorem qcQ{k:Nat}(h:k<10):at8 qbe (UInt8.ofNat (48+k))=true/\(UInt8.ofNat (48+k)).toNat=48+k:=by
 have h2:(UInt8.ofNat (48+k)).toNat=48+k:=by rw[UInt8.toNat_ofNat'];omega
 refine⟨?_,h2⟩;unfold at8 qbe;rw[h2,jA1];exact⟨jA8 (by omega),jA8 (by omega)⟩
theorem qhk:∀(n u:Nat),u<=n->qgo (Lib.decDigits u)=true/\qa1 0 (Lib.decDigits u)=u/\(u≠0->(Lib.decDigits u).head? ≠ some 48):=by
 intro n
 induction n using Nat.strongRecOn with
 |_ n ih=>
  intro u hu;by_cases h:u<10
  ·obtain⟨h1,h2⟩:=qcQ h;rw[Lib.decDigits,dif_pos h];refine⟨qa6.2 ⟨by simpa using h1,by simp,.inl rfl⟩,?_,fun h0 he=>?_⟩
   ·show 0*10+((UInt8.ofNat (48+u)).toNat-48)=u;rw[h2];omega
   ·simp only[List.head?_cons,jA7]at he;have:=congrArg UInt8.toNat he;rw[h2]at this;have:48+u=48:=this;omega
  ·have hlt:u%10<10:=Nat.mod_lt _ (by decide);obtain⟨h1,h2⟩:=qcQ hlt;obtain⟨i1,i2,i3⟩:=ih (u / 10) (by omega) (u / 10) (jAj _);obtain⟨j1,j2,j3⟩:=qa6.1 i1;rw[Lib.decDigits,dif_neg h];have hhd:(Lib.decDigits (u / 10)++[UInt8.ofNat (48+u%10)]).head? = (Lib.decDigits (u / 10)).head?:=by
    cases hq:Lib.decDigits (u / 10)with
    |nil=>exact absurd hq j2
    |cons=>rfl
   have h48:=i3 (by omega);refine⟨qa6.2 ⟨?_,by simp,.inr (by rw[hhd];exact h48)⟩,?_,fun _=>by rw[hhd];exact h48⟩
   ·rw[jCk,j1];simpa using h1
   ·rw[qgB,i2];show u / 10*10+((UInt8.ofNat (48+u%10)).toNat-48)=u;rw[h2];omega
def four(m:Nat):Bs:=[UInt8.ofNat (48+m / 1000%10),UInt8.ofNat (48+m / 100%10),UInt8.ofNat (48+m / 10%10),UInt8.ofNat (48+m%10)]
theorem qm8(l:Bs)(c:UInt8):Lib.trimRightB (l++[c]) 48=if c=48 then Lib.trimRightB l 48 else l++[c]:=by
 unfold Lib.trimRightB;rw[List.reverse_append];simp only[List.reverse_cons,List.reverse_nil,jAx,jAk,List.dropWhile_cons,jB7];split
 ·rfl
 ·simp
theorem quU:∀(n:Nat) (l:Bs),l.length=n-> ∃k,l=Lib.trimRightB l 48++List.replicate k 48/\(Lib.trimRightB l 48= []\/(Lib.trimRightB l 48).getLast? ≠ some 48):=by
 intro n
 induction n with
 |zero=>
  intro l h;have:l= []:=jAy.1 h;subst this;exact⟨0,rfl,.inl rfl⟩
 |succ n ih=>
  intro l h;have hl:l≠ []:=by rintro rfl;simp at h
  obtain⟨b,c,rfl⟩:∃b c,l=b++[c]:=⟨l.dropLast,l.getLast hl,(List.dropLast_concat_getLast hl).symm⟩;rw[qm8];split
  ·rename_i hc;subst hc;obtain⟨k,h1,h2⟩:=ih b (by simpa using h);refine⟨k+1,?_,h2⟩;rw[List.replicate_succ',<-jAf,<-h1]
  ·rename_i hc;exact⟨0,by simp,.inr (by simpa using hc)⟩
def qc4(p:Bs):Bs:=bif p != []then 46::p else[]
def qk4(n:Nat):Bs:=Lib.decDigits (n / 10000)++(qc4 (Lib.trimRightB (four (n%10000)) 48)++[37])
theorem qRP{a p:Bs}(ha:qgo a=true):qdc (a++qc4 p)=(a,p,p != []):=by
 unfold qc4;have h1:=(qa6.1 ha).1;cases hp:(p != [])
 ·have:p= []:=by simpa using hp
  subst this;rw[jA9,jC6,qrB h1]
 ·rw[jAa,qvt h1]
theorem qF8{a p:Bs}(ha:qgo a=true)(hp:p≠ []->qfx p=true):qbh (a++(qc4 p++[37]))=bif decide (a.length>3)then((0:Int),(1:Int))else bif decide ((qa1 0 (a++qiv p):Int)>1000000)then(0,1)else(((qa1 0 (a++qiv p):Nat):Int),0):=by
 have h1:((a++(qc4 p++[37])).getLast? == some 37)=true:=by rw[<-jAf];simp
 have h2:(a++(qc4 p++[37])).dropLast=a++qc4 p:=by rw[<-jAf,List.dropLast_concat]
 unfold qbh;rw[h1,h2,qRP ha];simp only[jAa,ha,Bool.not_true,Bool.false_or];have h3:((p != [])&& !qfx p)=false:=by
  cases hq:(p != [])
  ·rfl
  ·rw[hp (by simpa using hq)];rfl
 rw[h3,jA9]
set_option linter.unusedSimpArgs false
set_option linter.unusedVariables false
theorem qxE{l:Bs}(h:l.all (at8 qbe)=true):qa1 0 l<10^l.length:=by
 have:=qxD l 0 0 h (by decide);simpa using this
theorem q7V:∀(x y:Bs),x.length=y.length->x.all (at8 qbe)=true->y.all (at8 qbe)=true->qbi x y=decide (qa1 0 x<qa1 0 y)
 | [],[],_,_,_=>rfl
 | [],_::_,h,_,_=>by simp at h
 |_::_,[],h,_,_=>by simp at h
 |c::x,d::y,h,hx,hy=>by
  simp only[jAw,jA1]at hx hy;have hl:x.length=y.length:=by simpa using h
  have ih:=q7V x y hl hx.2 hy.2;have b1:=qxE hx.2;have b2:=qxE hy.2;have c1:=qer hx.1;have c2:=qer hy.1;have e1:qa1 0 (c::x)=(c.toNat-48)*10^x.length+qa1 0 x:=by
   show qa1 (0*10+(c.toNat-48)) x=_;rw[qfu];simp
  have e2:qa1 0 (d::y)=(d.toNat-48)*10^x.length+qa1 0 y:=by
   show qa1 (0*10+(d.toNat-48)) y=_;rw[qfu,hl];simp
  rw[<-hl]at b2;have hu:qbi (c::x) (d::y)=(decide (c<d)||(c==d&&qbi x y)):=rfl;rw[hu,ih,e1,e2];generalize 10^x.length=M at b1 b2 ⊢;rcases Nat.lt_trichotomy c.toNat d.toNat with hcd|hcd|hcd
  ·have h1:decide (c<d)=true:=jA8 hcd;have:(c.toNat-48+1)*M<=(d.toNat-48)*M:=jBc M (by omega);rw[jBe]at this;rw[h1,Bool.true_or,jBv];exact jA8 (by omega)
  ·have hcd':c=d:=UInt8.toNat_inj.1 hcd;subst hcd';have h1:decide (c<c)=false:=jAe (Nat.lt_irrefl c.toNat);rw[h1,Bool.false_or,beq_self_eq_true,jBm];by_cases hq:qa1 0 x<qa1 0 y
   ·rw[jA8 hq,jBv];exact jA8 (by omega)
   ·rw[jAe hq,jBv];exact jAe (by omega)
  ·have h1:decide (c<d)=false:=jAe (Nat.not_lt.2 (Nat.le_of_lt hcd));have h2:(c==d)=false:=by
    rw[jBj];intro he;rw[he]at hcd;omega
   have:(d.toNat-48+1)*M<=(c.toNat-48)*M:=jBc M (by omega);rw[jBe]at this;rw[h1,h2,Bool.false_or,Bool.false_and,jBv];exact jAe (by omega)
def qyA:Bs:=[57,50,50,51,51,55,50,48,51,54,56,53,52,55,55,53,56,48,55]
def qgD(s:Bs):Bool:=decide (s.length>19)||(s.length==19&&qbi qyA s)
theorem qjt{s:Bs}(h:qgo s=true):qgD s=decide (9223372036854775808<=qa1 0 s):=by
 obtain⟨h1,h2,h3⟩:=qa6.1 h;have hb:=qxE h1;unfold qgD;rcases Nat.lt_trichotomy s.length 19 with hl|hl|hl
 ·have:10^s.length<=10^18:=Nat.pow_le_pow_right (by decide) (by omega);have:qa1 0 s<10^18:=by omega
  rw[jAe (by omega),show(s.length==19)=false by rw[jBj];omega,jBv];exact jAe (by omega)
 ·have hm:qa1 0 qyA=9223372036854775807:=by decide
  rw[jAe (by omega),hl,beq_self_eq_true,jBm,Bool.false_or,q7V qyA s (by rw[hl];rfl) (by decide) h1,hm];by_cases hq:9223372036854775807<qa1 0 s
  ·rw[jA8 hq,jBv];exact jA8 (by omega)
  ·rw[jAe hq,jBv];exact jAe (by omega)
 ·rw[jA8 hl,Bool.true_or,jBv];refine jA8 ?_;cases s with
  |nil=>simp at hl
  |cons c r=>
   have hc:c.toNat-48>=1:=by
    have:=qer (by simp only[jAw,jA1]at h1;exact h1.1);have h48:c.toNat≠48:=fun he=>by
     rcases h3 with h3|h3
     ·omega
     ·exact h3 (by rw[show c=48 from UInt8.toNat_inj.1 (by simpa using he)];rfl)
    omega
   have e1:qa1 0 (c::r)=(c.toNat-48)*10^r.length+qa1 0 r:=by
    show qa1 (0*10+(c.toNat-48)) r=_;rw[qfu];simp
   have:10^19<=10^r.length:=Nat.pow_le_pow_right (by decide) (by simp at hl;omega);have:=jBc (10^r.length) hc;rw[e1];omega
theorem qx4{s:Bs}(h:qgo s=true):nOk (Lib.parseIntB 64 s)= !qgD s:=by
 rw[qjt h];have h1:=(qa6.1 h).1;have h2:=(qa6.1 h).2.1;rw[Lib.parseIntB_64,qxv h1 h2];by_cases hq:qa1 0 s<9223372036854775808
 ·rw[jAr hq,jAe (by omega)];rfl
 ·rw[jAm hq,jA8 (by omega)];rfl
set_option linter.unusedSimpArgs false
set_option linter.unusedVariables false
theorem zln{x:Int}(h0:0<=x)(h1:x<256):IntKind.u8.wrap x=x:=by
 simp[IntKind.wrap,IntKind.bits,IntKind.signed];omega
theorem qGU{τ:Type}{st:τ->Option (Rd τ)}{p:UInt8->Bool}{s:Bs}(hd:Nat->τ)(j:Nat)(hs:∀n (h:n<s.length),st (hd n)=some (bif p s[n]then .next (hd (n+1))else .done j))(he:st (hd s.length)=some (.done j)) :
  ∀(k n:Nat),n+k=s.length->qae st (hd n)=some (j,hd (n+((s.drop n).takeWhile p).length)):=by
 intro k
 induction k with
 |zero=>
  intro n hn;have:n=s.length:=by omega
  subst this;rw[qaf he];simp
 |succ k ih=>
  intro n hn;have h:n<s.length:=by omega
  rw[drop_at h,jBk];have:=hs n h;cases hp:p s[n]
  ·rw[hp]at this;rw[qaf this];simp[hp]
  ·rw[hp]at this;rw[qaq this,ih (n+1) (by omega)];simp only[hp,jB2,jA0]
   congr 3;omega
theorem q7W:∀x y:Bs,qbi y x= !(qbi x y||x==y)
 | [],[]=>rfl
 | [],_::_=>rfl
 |_::_,[]=>rfl
 |a::x,b::y=>by
  have ih:=q7W x y;have e1:qbi (b::y) (a::x)=(decide (b<a)||(b==a&&qbi y x)):=rfl;have e2:qbi (a::x) (b::y)=(decide (a<b)||(a==b&&qbi x y)):=rfl;have e3:((a::x:Bs)==b::y)=(a==b&&x==y):=rfl;rw[e1,e2,e3,ih];rcases Nat.lt_trichotomy a.toNat b.toNat with h|h|h
  ·have h1:decide (a<b)=true:=jA8 h;have h2:decide (b<a)=false:=jAe (Nat.not_lt.2 (Nat.le_of_lt h));have h3:(b==a)=false:=by rw[jBj];rintro rfl;omega
   rw[h1,h2,h3];rfl
  ·have h':a=b:=UInt8.toNat_inj.1 h;subst h';have h1:decide (a<a)=false:=jAe (Nat.lt_irrefl a.toNat);rw[h1,beq_self_eq_true];cases qbi x y<;>cases(x==y)<;>rfl
  ·have h1:decide (b<a)=true:=jA8 h;have h2:decide (a<b)=false:=jAe (Nat.not_lt.2 (Nat.le_of_lt h));have h3:(a==b)=false:=by rw[jBj];rintro rfl;omega
   rw[h1,h2,h3];rfl
theorem q3c(s:Bs):(bif decide ((s.length:Int)>19)then true else bif (s.length:Int)==19 then !(qbi s qyA||s==qyA)else false)=qgD s:=by
 rw[<-q7W];unfold qgD;have e1:decide ((s.length:Int)>19)=decide (s.length>19):=by
  by_cases h:s.length>19
  ·rw[jA8 h,jA8 (by omega)]
  ·rw[jAe h,jAe (by omega)]
 have e2:((s.length:Int)==19)=(s.length==19):=by
  rw[jC7,jB7,jB7];omega
 rw[e1,e2];cases decide (s.length>19)<;>cases(s.length==19)<;>cases qbi qyA s<;>rfl
theorem qwK(s:Bs):qbh s=(0,2)\/qbh s=(0,1)\/(qbh s).2=0:=by
 have key:∀(b1 b2 b3 b4:Bool) (n:Int),(bif b1 then(bif b2 then((0:Int),(2:Int))else bif b3 then(0,1)else bif b4 then(0,1)else(n,0))else(0,2))=(0,2)\/(bif b1 then(bif b2 then((0:Int),(2:Int))else bif b3 then(0,1)else bif b4 then(0,1)else(n,0))else(0,2))=(0,1) \/
   (bif b1 then(bif b2 then((0:Int),(2:Int))else bif b3 then(0,1)else bif b4 then(0,1)else(n,0))else(0,2)).2=0:=by
  intro b1 b2 b3 b4 n;cases b1<;>cases b2<;>cases b3<;>cases b4<;>simp
 exact key _ _ _ _ _
theorem q3X{s:Bs}(h:qnE s=false):qbh s=(0,2):=by
 have h2:=qyV s;rw[h]at h2;rcases qwK s with h3|h3|h3
 ·exact h3
 ·rw[h3]at h2;cases h2
 ·rw[h3]at h2;cases h2
theorem qMH{s:Bs}(h:qnE s=true):∃a p,qgo a=true/\(p≠ []->qfx p=true)/\s=a++(qc4 p++[37]):=by
 rw[qFj,jA1,jB7]at h;obtain⟨hl,hr⟩:=h;have hs:s=s.dropLast++[37]:=by
  have hne:s≠ []:=by rintro rfl;simp at hl
  have:=List.dropLast_concat_getLast hne;rw[List.getLast?_eq_some_getLast hne,jA7]at hl;rw[hl]at this;exact this.symm
 unfold rtB at hr;rw[jA1]at hr;obtain⟨hi,hp⟩:=hr;obtain⟨hc,hc0⟩:=qrC s.dropLast;cases hq:(qdc s.dropLast).2.2
 ·rw[hq,jA9,jC6]at hc;refine⟨(qdc s.dropLast).1,[],hi,fun h=>absurd rfl h,?_⟩;rw[<-hc];exact hs
 ·rw[hq]at hp hc;have hpb:qfx (qdc s.dropLast).2.1=true:=by simpa using hp
  refine⟨(qdc s.dropLast).1,(qdc s.dropLast).2.1,hi,fun _=>hpb,?_⟩;have hne:((qdc s.dropLast).2.1 != [])=true:=by
   unfold qfx at hpb;rw[jA1]at hpb;exact hpb.1
  unfold qc4;rw[hne,jAa,<-jAf];rw[jAa]at hc;rw[<-hc];exact hs
theorem qwE{p:Bs}(h:p≠ []->qfx p=true):p.length<=4/\p.all (at8 qbe)=true:=by
 by_cases hp0:p= []
 ·subst hp0;exact⟨by simp,rfl⟩
 ·have:=h hp0;unfold qfx at this;simp only[jA1,jA6]at this;exact⟨this.2.1,this.2.2.1⟩
theorem q7L{a:Bs}(h:qgo a=true)(hl:a.length>1):10^(a.length-1)<=qa1 0 a:=by
 obtain⟨h1,h2,h3⟩:=qa6.1 h;cases a with
 |nil=>exact absurd rfl h2
 |cons c r=>
  have hc:c.toNat-48>=1:=by
   have:=qer (by simp only[jAw,jA1]at h1;exact h1.1);have h48:c.toNat≠48:=fun he=>by
    rcases h3 with h3|h3
    ·omega
    ·exact h3 (by rw[show c=48 from UInt8.toNat_inj.1 (by simpa using he)];rfl)
   omega
  have e1:qa1 0 (c::r)=(c.toNat-48)*10^r.length+qa1 0 r:=by
   show qa1 (0*10+(c.toNat-48)) r=_;rw[qfu];simp
  have:=jBc (10^r.length) hc;rw[e1];simp only[jA0,Nat.add_sub_cancel];omega
theorem q3Z{a p:Bs}(ha:qgo a=true)(hp:p≠ []->qfx p=true):qbh (a++(qc4 p++[37]))=bif decide (qa1 0 (a++p)*10^(4-p.length)>1000000)then(0,1)else(((qa1 0 (a++p)*10^(4-p.length):Nat):Int),0):=by
 have hv:qa1 0 (a++qiv p)=qa1 0 (a++p)*10^(4-p.length):=by
  unfold qiv;rw[<-jAf,qgB,qAZ]
 rw[qF8 ha hp,hv];have e1:decide (((qa1 0 (a++p)*10^(4-p.length):Nat):Int)>1000000)=decide (qa1 0 (a++p)*10^(4-p.length)>1000000):=by
  by_cases h:qa1 0 (a++p)*10^(4-p.length)>1000000
  ·rw[jA8 h,jA8 (by omega)]
  ·rw[jAe h,jAe (by omega)]
 rw[e1];by_cases h3:a.length>3
 ·have h1:=q7L ha (by omega);have h2:10^3<=10^(a.length-1):=Nat.pow_le_pow_right (by decide) (by omega);have h4:qa1 0 (a++p)=qa1 0 a*10^p.length+qa1 0 p:=by rw[qgB,qfu]
  have hpl:=(qwE hp).1;have h5:qa1 0 a*10^p.length*10^(4-p.length)=qa1 0 a*10^4:=by
   rw[Nat.mul_assoc,<-Nat.pow_add,show p.length+(4-p.length)=4 by omega]
  have h6:qa1 0 a*10^4<=qa1 0 (a++p)*10^(4-p.length):=by
   rw[<-h5,h4];exact jBc _ (by omega)
  rw[jA8 h3,jA8 (by omega)];rfl
 ·rw[jAe h3];rfl
def rlp(w:Nat):Nat->Nat->Nat->Bs->Option (Nat×Nat)
 |_,n,q,[]=>some (n,q)
 |i,n,q,c::r=>bif at8 qbe c then(bif decide (10*n+(c.toNat-48)>1000000)then none else rlp w (i+1) (10*n+(c.toNat-48)) (bif decide (i>w)then q+1 else q) r)else rlp w (i+1) n q r
theorem qn2{w:Nat}{g:Bool}:∀(l r:Bs) (i n q:Nat),l.all (at8 qbe)=true->(∀j,i<=j->j<i+l.length->decide (j>w)=g)->n<=1000000->rlp w i n q (l++r)=bif decide (qa1 n l>1000000)then none else rlp w (i+l.length) (qa1 n l) (q+bif g then l.length else 0) r
 | [],r,i,n,q,_,_,hn=>by
  have:decide (qa1 n []>1000000)=false:=jAe (by show ¬n>1000000;omega);rw[this];cases g<;>rfl
 |c::l,r,i,n,q,h,hg,hn=>by
  simp only[jAw,jA1]at h;have hd:qa1 n (c::l)=qa1 (10*n+(c.toNat-48)) l:=by
   show qa1 (n*10+(c.toNat-48)) l=_;rw[Nat.mul_comm]
  have hge:=qrD l (10*n+(c.toNat-48));simp only[jAk,rlp,h.1,jAa,hd];by_cases hb:10*n+(c.toNat-48)>1000000
  ·rw[jA8 hb,jA8 (show qa1 (10*n+(c.toNat-48)) l>1000000 by omega)];rfl
  ·rw[jAe hb,jA9,qn2 l r (i+1) _ _ h.2 (fun j h1 h2=>hg j (by omega) (by simp only[jA0];omega)) (by omega),hg i (jAj i) (by simp)];have e1:i+1+l.length=i+(c::l).length:=by simp only[jA0];omega
   rw[e1];cases g
   ·rfl
   ·simp only[jAa,jA0];rw[show q+1+l.length=q+(l.length+1) by omega]
theorem q36{a p:Bs}(ha:a.all (at8 qbe)=true)(hp:p.all (at8 qbe)=true):rlp a.length 0 0 0 (a++qc4 p)=bif decide (qa1 0 (a++p)>1000000)then none else some (qa1 0 (a++p),p.length):=by
 have hge:qa1 0 a<=qa1 0 (a++p):=by rw[qgB];exact qrD _ _
 rw[qn2 (g:=false) a (qc4 p) 0 0 0 ha (fun j _ h=>jAe (by omega)) (by omega)];by_cases hb:qa1 0 a>1000000
 ·rw[jA8 hb,jA8 (by omega)];rfl
 ·rw[jAe hb,jA9,jA9];unfold qc4;cases hq:(p != [])
  ·have:p= []:=by simpa using hq
   subst this;rw[jC6,jAe hb];rfl
  ·have h46:at8 qbe 46=false:=rfl;simp only[jAa,rlp,h46,jA9];have:=qn2 (w:=a.length) (g:=true) p [] (0+a.length+1) (qa1 0 a) (0+0) hp (fun j h1 _=>jA8 (by omega)) (by omega);rw[jC6]at this;rw[this,<-qgB];cases decide (qa1 0 (a++p)>1000000)
   ·simp[rlp]
   ·rfl
def qkS(x:Bs):Nat:=match marksS.find? (preB · x)with
 |some m=>m.length
 |none=>0
def one13:Bs:=[123,125,40,41,44,59,58,36,43,45,42,47,60]
theorem q3z{c d:UInt8}{r:Bs}(h:(d==61&&(c==61||(c==33||c==60)))=true):marksS.find? (preB · (c::d::r))=some [c,61]:=by
 simp only[jA1,jAv,jB7]at h;obtain⟨rfl,rfl|rfl|rfl⟩:=h<;>rfl
theorem qJS{c:UInt8}{r:Bs}(h:(match r with|d::_=>d==61&&(c==61||(c==33||c==60)) | []=>false)=false):marksS.find? (preB · (c::r))=bif one13.any (· == c)then some [c]else none:=by
 have key:∀a,preB [a,61] (c::r)=true->(a=61\/a=33\/a=60)->False:=by
  intro a ha hq;cases r with
  |nil=>simp[preB]at ha
  |cons d r=>
   simp only[preB,jA1,jA6,jB7,jA0,jA4,jCo,List.take_zero,jC5,and_true]at ha;obtain⟨_,rfl,rfl⟩:=ha;rcases hq with rfl|rfl|rfl<;>simp at h
 have h1:preB [61,61] (c::r)=false:=by cases hq:preB [61,61] (c::r);rfl;exact(key _ hq (by simp)).elim
 have h2:preB [33,61] (c::r)=false:=by cases hq:preB [33,61] (c::r);rfl;exact(key _ hq (by simp)).elim
 have h3:preB [60,61] (c::r)=false:=by cases hq:preB [60,61] (c::r);rfl;exact(key _ hq (by simp)).elim
 have hs:∀a,preB [a] (c::r)=(a==c):=by
  intro a;simp only[preB,jA0,jA4,jCo,List.take_zero];rw[jA8 (by omega),jBm,jC7,jB7,jB7];constructor
  ·intro h;cases h;rfl
  ·rintro rfl;rfl
 unfold marksS one13;simp only[List.find?_cons,h1,h2,h3,hs,List.find?_nil,List.any_cons,List.any_nil];cases q1:(123==c)<;>simp only[q1,Bool.true_or,Bool.false_or,jAa]
 ·cases q2:(125==c)<;>simp only[q2,Bool.true_or,Bool.false_or,jAa]
  ·cases q3:(40==c)<;>simp only[q3,Bool.true_or,Bool.false_or,jAa]
   ·cases q4:(41==c)<;>simp only[q4,Bool.true_or,Bool.false_or,jAa]
    ·cases q5:(44==c)<;>simp only[q5,Bool.true_or,Bool.false_or,jAa]
     ·cases q6:(59==c)<;>simp only[q6,Bool.true_or,Bool.false_or,jAa]
      ·cases q7:(58==c)<;>simp only[q7,Bool.true_or,Bool.false_or,jAa]
       ·cases q8:(36==c)<;>simp only[q8,Bool.true_or,Bool.false_or,jAa]
        ·cases q9:(43==c)<;>simp only[q9,Bool.true_or,Bool.false_or,jAa]
         ·cases q10:(45==c)<;>simp only[q10,Bool.true_or,Bool.false_or,jAa]
          ·cases q11:(42==c)<;>simp only[q11,Bool.true_or,Bool.false_or,jAa]
           ·cases q12:(47==c)<;>simp only[q12,Bool.true_or,Bool.false_or,jAa]
            ·cases q13:(60==c)<;>simp only[q13,Bool.true_or,Bool.false_or,jAa,jA9];rw[<-jB7.1 q13]
            ·rw[<-jB7.1 q12]
           ·rw[<-jB7.1 q11]
          ·rw[<-jB7.1 q10]
         ·rw[<-jB7.1 q9]
        ·rw[<-jB7.1 q8]
       ·rw[<-jB7.1 q7]
      ·rw[<-jB7.1 q6]
     ·rw[<-jB7.1 q5]
    ·rw[<-jB7.1 q4]
   ·rw[<-jB7.1 q3]
  ·rw[<-jB7.1 q2]
 ·rw[<-jB7.1 q1]
theorem qBI{x m:Bs}(h:marksS.find? (preB · x)=some m):x.take m.length=m:=by
 have h1:=jC4 h;simp only[preB,jA1,jA6,jB7]at h1;exact h1.2
def qk5(x:Bs):Int×Bs×Int:=match x with
 | []=>(0,[],2)
 |c::_=>
  bif at8 qei c then(bif qbT (x.takeWhile (at8 qch))then(5,x.takeWhile (at8 qch),0)else bif decide ((x.takeWhile (at8 qch)).length>16)then(1,x.takeWhile (at8 qch),4)else(1,x.takeWhile (at8 qch),0))
  else bif at8 qbe c then
   (bif qgo (x.takeWhile (at8 qcD))then(bif qgD (x.takeWhile (at8 qcD))then(2,x.takeWhile (at8 qcD),6)else(2,x.takeWhile (at8 qcD),0))
   else bif !qnE (x.takeWhile (at8 qcD))then(3,x.takeWhile (at8 qcD),2)else bif (qbh (x.takeWhile (at8 qcD))).2 != 0 then(3,x.takeWhile (at8 qcD),6)else(3,x.takeWhile (at8 qcD),0))
  else bif qkS x==0 then(0,[],2)else(4,x.take (qkS x),0)
theorem q3Y(s:Bs):(qbh s).2=0\/(qbh s).2=1\/(qbh s).2=2:=by
 rcases qwK s with h|h|h
 ·rw[h];exact .inr (.inr rfl)
 ·rw[h];exact .inr (.inl rfl)
 ·exact .inl h
theorem qNm(x:Bs):(qk5 x).2.2=(qaw x).2.2/\((qaw x).2.2=0->qk5 x=qaw x):=by
 cases x with
 |nil=>exact⟨rfl,fun h=>by cases h⟩
 |cons c r=>
  unfold qk5 qaw;simp only;cases hl:at8 qei c
  ·simp only[jA9];cases hd:at8 qbe c
   ·simp only[jA9];unfold qkS;cases hf:marksS.find? (preB · (c::r))with
    |none=>exact⟨rfl,fun h=>by cases h⟩
    |some m=>
     have h1:=qBI hf;have h2:=qBJ m (jB4 hf);have h0:(m.length==0)=false:=by
      cases m with
      |nil=>cases h2
      |cons=>rfl
     simp only[h0,jA9,h1];exact⟨trivial,fun _=>trivial⟩
   ·simp only[jAa];generalize (c::r).takeWhile (at8 qcD)=t;unfold qyG;cases hi:qgo t
    ·have hs:=qyV t;simp only[jA9];rcases q3Y t with h|h|h
     ·rw[h]at hs;rw[<-hs,h];exact⟨rfl,fun _=>rfl⟩
     ·rw[h]at hs;rw[<-hs,h];exact⟨rfl,fun h=>by cases h⟩
     ·rw[h]at hs;rw[<-hs,h];exact⟨rfl,fun h=>by cases h⟩
    ·rw[qx4 hi];simp only[jAa];cases qgD t
     ·exact⟨rfl,fun _=>rfl⟩
     ·exact⟨rfl,fun h=>by cases h⟩
  ·simp only[jAa];cases qbT ((c::r).takeWhile (at8 qch))
   ·cases decide (((c::r).takeWhile (at8 qch)).length>16)
    ·exact⟨rfl,fun _=>rfl⟩
    ·exact⟨rfl,fun h=>by cases h⟩
   ·exact⟨rfl,fun _=>rfl⟩
theorem qRl(s:Bs)(line:Int)(h:((rdT s line).2.2 != 0)=true):(rdT s line).1= []:=by
 rw[qeB]at h ⊢;have:∀x ln,((stepT x ln).2.2 != 0)=true->(stepT x ln).1= []->(stepT x ln).1= []:=fun _ _ _ h=>h
 have key:∀(k:Nat) (s:Bs) (line:Int),s.length<=k->((rdT s line).2.2 != 0)=true->(rdT s line).1= []:=by
  intro k
  induction k with
  |zero=>
   intro s line hk h;have:s= []:=jAy.1 (by omega);subst this;rfl
  |succ k ih=>
   intro s line hk h;rw[qeB]at h ⊢;cases hx:s.drop (blk false s)with
   |nil=>rfl
   |cons c r=>
    rw[hx]at h;simp only[stepT]at h ⊢;have hlen:=congrArg List.length hx;rw[jB0]at hlen;cases he:((qaw (c::r)).2.2 != 0)
    ·have he0:(qaw (c::r)).2.2=0:=by simpa using he
     have hp:=jCp.2 (qcp he0).1;rw[he]at h;simp only[jA9,qpa]at h ⊢;cases hz:((rdT ((c::r).drop (qaw (c::r)).2.1.length) (line+((s.take (blk false s)).count 10:Nat))).2.2 != 0)
     ·rw[hz]at h;simp only[jA9]at h;rw[h]at hz;cases hz
     ·rw[jAa];exact ih _ _ (by simp only[jB0,jA0]at hlen ⊢;omega) hz
    ·rfl
 rw[<-qeB]at h ⊢;exact key s.length s line (jAj _) h
end Go.Tk
namespace Go.Proofs.H16
open Go Go.Eng Go.Tk
set_option maxRecDepth 20000
theorem qr6(x:Int):qlv x=some (qei x):=by
 rw[qLR,qqq];by_cases h:x>=97<;>simp[qei,h]
theorem qfT(x:Int):qfS x=some (qbe x):=by
 rw[qL7,qqH];by_cases h:x>=48<;>simp[qbe,h]
def qNQ(b:Bool):UInt8->Bool:=at8 (bif b then qcD else qch)
theorem qFQ{s:Bs}(hl:s.length<=big)(b:Bool){n:Nat}(hn:n<=s.length):qys (s,(n:Int),b)=some (0,s,((n+((s.drop n).takeWhile (qNQ b)).length:Nat):Int),b):=by
 rw[qwn];refine qGU (p:=qNQ b) (s:=s) (fun n=>(s,(n:Int),b)) 0 (fun n h=>?_) ?_ (s.length-n) n (by omega)
 ·simp only[qmU,qoB,qa0 h,qa5 h,qaX h,qr6,qfT,qat h hl,br_eq,jAa,sm_some,gv_some,qNQ,at8];cases b<;>simp only[jAa,jA9,qcD,qch]<;>cases qei (s[n].toNat:Int)<;>cases qbe (s[n].toNat:Int)<;>cases((s[n].toNat:Int)==95)<;>cases((s[n].toNat:Int)==46)<;>cases((s[n].toNat:Int)==37)<;>rfl
 ·simp[qmU,qoB]
theorem qsv{s:Bs}(hl:s.length<=big)(b:Bool){n:Nat}(hn:n<=s.length):qnB s (n:Int) b=some ((n+((s.drop n).takeWhile (qNQ b)).length:Nat):Int):=by
 rw[qMx,qq8,qFQ hl b hn];rfl
theorem qFz{s:Bs}(hl:s.length<=big):qyk (s,0)=some (0,s,((s.takeWhile (at8 qbe)).length:Int)):=by
 rw[qv9];refine qmx (fun n h=>?_) ?_
 ·simp only[qmM,qoj,qa0 h,qa5 h,qaX h,qfT,qat h hl,br_eq,jAa,sm_some,gv_some,ev_bi_some,ev_br,ev_at,cond_some]
 ·simp[qmM,qoj]
theorem qlA{s:Bs}(hl:s.length<=big):qlz s=some ((plS s:Nat):Int):=by
 rw[qL9,qqJ,qFz hl];have e1:decide (((s.takeWhile (at8 qbe)).length:Int)>1)=decide ((s.takeWhile (at8 qbe)).length>1):=by
  by_cases h:(s.takeWhile (at8 qbe)).length>1
  ·rw[jA8 h,jA8 (by omega)]
  ·rw[jAe h,jAe (by omega)]
 simp only[pj_some,jB2,ev_bi_some,e1,br_eq];unfold plS;cases hd:decide ((s.takeWhile (at8 qbe)).length>1)
 ·rfl
 ·have hs:0<s.length:=by
   have:=qgt (p:=at8 qbe) s;have:=jBd hd;omega
  have e2:inB s.length 0=true:=qa5 (n:=0) hs;have e3:(qal s 0==48)=(s.head? == some 48):=by
   cases s with
   |nil=>simp at hs
   |cons c r=>
    have:qal (c::r) 0=(c.toNat:Int):=by simp[qal,qgU]
    rw[this,jC7,jB7,jB7,List.head?_cons,jA7,<-UInt8.toNat_inj];exact Int.ofNat_inj
  simp only[jAa,e2,e3,ev_bi_some,jBm];cases(s.head? == some 48)<;>rfl
theorem qEX(s:Bs):qsd s=some (qgD s):=by
 rw[qL8,qqI,<-q3c];have e:([57,50,50,51,51,55,50,48,51,54,56,53,52,55,55,53,56,48,55]:List UInt8)=qyA:=rfl;rw[e];show DT.ev (.bi (br (decide ((s.length:Int)>19)) (some true) (br ((s.length:Int)==19) (some (!(qbi s qyA||s==qyA))) (some false))) _ _)=_;simp only[br_eq];cases decide ((s.length:Int)>19)<;>cases((s.length:Int)==19)<;>rfl
theorem qFK{s:Bs}(hl:s.length<=big){n:Nat}(hn:n<=s.length):∃v,qnR (s,(n:Int))=some ((bif (s.drop n).all (at8 qbe)then 1 else 0),v):=by
 rw[qwg];have key:∀(k n:Nat),n+k=s.length-> ∃v,qae (fun v=>(qiE v).ev) (s,(n:Int))=some ((bif (s.drop n).all (at8 qbe)then 1 else 0),v):=by
  intro k
  induction k with
  |zero=>
   intro n hn;have:n=s.length:=by omega
   subst this;rw[qaf (j:=1) (by simp[qiE,qox])];exact⟨_,by rw[jC0];rfl⟩
  |succ k ih=>
   intro n hn;have h:n<s.length:=by omega
   rw[drop_at h,jAw];have hst:(qiE (s,(n:Int))).ev=some (bif !at8 qbe s[n]then .done 0 else .next (s,((n+1:Nat):Int))):=by
    simp only[qiE,qox,qa0 h,qa5 h,qaX h,qfT,qat h hl,ev_br,jAa,ev_bi_some,ev_at,cond_some,at8]
   cases hd:at8 qbe s[n]
   ·rw[hd]at hst;exact⟨_,by rw[qaf hst];rfl⟩
   ·rw[hd]at hst;rw[qaq hst];exact ih (n+1) (by omega)
 exact key (s.length-n) n (by omega)
theorem qsp{s:Bs}(hl:s.length<=big):qny s=some (qnE s):=by
 rw[qMo,qqY,qlA hl];simp only[ev_bi_some,br_eq];unfold qnE;have e0:(((plS s:Nat):Int)==0)= !(plS s != 0):=by
  rw[jC7,jB7];simp
 rw[e0];cases h0:(plS s != 0)
 ·rfl
 ·have h0':plS s≠0:=by simpa using h0
  have hple:plS s<=(s.takeWhile (at8 qbe)).length:=by
   unfold plS;cases(decide ((s.takeWhile (at8 qbe)).length>1)&&s.head? == some 48)<;>simp
  have htl:=qgt (p:=at8 qbe) s;have hs:0<s.length:=by omega
  have e2:IntKind.i64.wrap ((s.length:Int)-1)=((s.length-1:Nat):Int):=qCQ hs hl;have e3:inB s.length ((s.length-1:Nat):Int)=true:=qa5 (by omega);have e4:(qal s ((s.length-1:Nat):Int) != 37)= !(s.getLast? == some 37):=by
   rw[qaX (by omega),List.getLast?_eq_getElem?,jAh (by omega),jC7];simp only[bne_iff_ne,ne_eq,jB9,jBj,jA7,<-UInt8.toNat_inj];exact not_congr Int.ofNat_inj
  simp only[Bool.not_true,jA9,e2,e3,e4,jAa,ev_bi_some,jBm];cases hq:(s.getLast? == some 37)
  ·rfl
  ·simp only[Bool.not_true,ev_br,jA9,jBm];have hpl:plS s<=s.length-1:=by
    rcases jCb (plS s) s.length with h|h
    ·omega
    ·have hall:(s.takeWhile (at8 qbe))=s:=by
      have:=qiI (p:=at8 qbe) s;rw[show(s.takeWhile (at8 qbe)).length=s.length by omega,List.take_length]at this;exact this.symm
     have:=jAb.1 (qk8.1 hall) 37 (List.mem_of_getLast? (by simpa using hq));cases this
   rw[qbj (show s.length-1<=s.length by omega)];have e5:leB ((plS s:Nat):Int) (((s.length-1:Nat):Int)).toNat=true:=by rw[jB5];exact qbj hpl
   rw[e5];have e6:List.take ((((s.length-1:Nat):Int)).toNat-(((plS s:Nat):Int)).toNat) (List.drop (((plS s:Nat):Int)).toNat s)=(s.drop (plS s)).dropLast:=by
    rw[jB5,jB5,List.dropLast_eq_take,jB0]
    congr 1;omega
   simp only[e6,Bool.and_self,ev_br,jAa];have hrl:((s.drop (plS s)).dropLast).length<=big:=by rw[List.length_dropLast,jB0];omega
   generalize (s.drop (plS s)).dropLast=r at hrl;unfold qS6;cases hr:r with
   |nil=>rfl
   |cons c t=>
    rw[<-hr];have hne:(r== [])=false:=by rw[hr];rfl
    have h1:1<=r.length:=by rw[hr];simp
    have f1:decide ((r.length:Int)<2)= !decide (2<=r.length):=by
     by_cases h:2<=r.length
     ·rw[jA8 h,jAe (by omega)];rfl
     ·rw[jAe h,jA8 (by omega)];rfl
    have f2:decide ((r.length:Int)>5)= !decide (r.length<=5):=by
     by_cases h:r.length<=5
     ·rw[jA8 h,jAe (by omega)];rfl
     ·rw[jAe h,jA8 (by omega)];rfl
    have f3:inB r.length 0=true:=qa5 (n:=0) h1;have f4:(qal r 0 != 46)= !(r.head? == some 46):=by
     have:qal r 0=(c.toNat:Int):=by rw[hr];simp[qal,qgU]
     rw[this,hr,List.head?_cons,jC7];simp only[bne_iff_ne,ne_eq,jB9,jBj,jA7,<-UInt8.toNat_inj];exact not_congr Int.ofNat_inj
    have f5:IntKind.i64.wrap ((r.length:Int)-1)=((r.length-1:Nat):Int):=qCQ h1 hrl;have f6:inB r.length ((r.length-1:Nat):Int)=true:=qa5 (by omega);have f7:(qal r ((r.length-1:Nat):Int)==48)=(r.getLast? == some 48):=by
     rw[qaX (by omega),List.getLast?_eq_getElem?,jAh (by omega),jC7,jB7,jB7,jA7,<-UInt8.toNat_inj];exact Int.ofNat_inj
    obtain⟨v,hv⟩:=qFK hrl (n:=1) h1;have hv':qnR (r,1)=some ((bif (r.drop 1).all (at8 qbe)then 1 else 0),v):=hv;have f8:(r.getLast? != some 48)= !(r.getLast? == some 48):=rfl;simp only[hne,jA9,f1,f2,f3,f4,f5,f6,f7,f8,hv',Bool.false_or];cases decide (2<=r.length)<;>cases decide (r.length<=5)<;>cases(r.head? == some 46)<;>cases(r.getLast? == some 48)<;>cases(r.drop 1).all (at8 qbe)<;>rfl
theorem qFH{s:Bs}(hl:s.length<=1000000)(w:Nat):∀(k i n q:Nat),i+k=s.length-1->n<=1000000->q<=i ->
  match rlp w i n q (s.dropLast.drop i)with
  |some x=>∃v:Int,qjv (s,(w:Int),(n:Int),(q:Int),(i:Int))=some (1,s,(w:Int),(x.1:Int),(x.2:Int),v)
  |none=>∃v,qjv (s,(w:Int),(n:Int),(q:Int),(i:Int))=some (0,v):=by
 intro k
 induction k with
 |zero=>
  intro i n q hi hn hq;have hd:s.dropLast.drop i= []:=List.drop_eq_nil_of_le (by simp;omega);rw[hd,qht];simp only[rlp];refine⟨(i:Int),?_⟩;rw[qaf (j:=1)];have e1:decide ((i:Int)<IntKind.i64.wrap ((s.length:Int)-1))=false:=by
   rw[wrap64 (by omega) (by omega)];exact jAe (by omega)
  simp only[qkE,qov,e1,ev_br,jA9,ev_at]
 |succ k ih=>
  intro i n q hi hn hq;have hlt:i<s.length:=by omega
  have hlt2:i<s.dropLast.length:=by simp;omega
  have hg:s.dropLast[i]=s[i]:=by simp
  rw[drop_at hlt2,hg];have e1:decide ((i:Int)<IntKind.i64.wrap ((s.length:Int)-1))=true:=by
   rw[wrap64 (by omega) (by omega)];exact jA8 (by omega)
  have hb:s.length<=big:=jAz hl (by decide);have hst:(qkE (s,(w:Int),(n:Int),(q:Int),(i:Int))).ev=some (bif at8 qbe s[i]then(bif decide (10*n+(s[i].toNat-48)>1000000)then .done 0 else .next (s,(w:Int),((10*n+(s[i].toNat-48):Nat):Int),(((bif decide (i>w)then q+1 else q):Nat):Int),((i+1:Nat):Int)))else .next (s,(w:Int),(n:Int),(q:Int),((i+1:Nat):Int))):=by
   simp only[qkE,qov,e1,qa5 hlt,qaX hlt,qfT,ev_br,ev_bi_some,jAa,qat hlt hb];show(bif at8 qbe s[i]then _ else _)=_;cases hd:at8 qbe s[i]
   ·rfl
   ·have hr:=qer hd;have e2:IntKind.u8.wrap ((s[i].toNat:Int)-48)=((s[i].toNat-48:Nat):Int):=by rw[zln (by omega) (by omega)];omega
    have e3:IntKind.i64.wrap (IntKind.i64.wrap (10*(n:Int))+IntKind.i64.wrap ((s[i].toNat-48:Nat):Int))=((10*n+(s[i].toNat-48):Nat):Int):=by
     rw[wrap64 (n:=10*(n:Int)) (by omega) (by omega),wrap64 (n:=((s[i].toNat-48:Nat):Int)) (by omega) (by omega),wrap64 (by omega) (by omega)]
     push_cast;rfl
    have e4:decide (((10*n+(s[i].toNat-48):Nat):Int)>1000000)=decide (10*n+(s[i].toNat-48)>1000000):=by
     by_cases h:10*n+(s[i].toNat-48)>1000000
     ·rw[jA8 h,jA8 (by omega)]
     ·rw[jAe h,jAe (by omega)]
    have e5:decide ((i:Int)>(w:Int))=decide (i>w):=by
     by_cases h:i>w
     ·rw[jA8 h,jA8 (by omega)]
     ·rw[jAe h,jAe (by omega)]
    have e6:IntKind.i64.wrap ((q:Int)+1)=((q+1:Nat):Int):=by rw[wrap64 (by omega) (by omega)];omega
    simp only[jAa,e2,e3,e4,e5,e6,ev_br,ev_at];cases decide (10*n+(s[i].toNat-48)>1000000)<;>cases decide (i>w)<;>rfl
  rw[qht];simp only[rlp];cases hd:at8 qbe s[i]
  ·rw[hd]at hst;rw[qaq hst,<-qht];exact ih (i+1) n q (by omega) hn (by omega)
  ·rw[hd]at hst;simp only[jAa]at hst ⊢;by_cases hbig:10*n+(s[i].toNat-48)>1000000
   ·rw[jA8 hbig]at hst ⊢;exact⟨_,qaf hst⟩
   ·rw[jAe hbig]at hst ⊢;rw[jA9,qaq hst,<-qht];exact ih (i+1) _ _ (by omega) (by omega) (by cases decide (i>w)<;>simp<;>omega)
theorem qFI:∀(k q n:Nat),q+k=4->n*10^k<=10000000000-> ∃v:Int,qyq ((n:Int),(q:Int))=some (0,((n*10^k:Nat):Int),v):=by
 intro k
 induction k with
 |zero=>
  intro q n hq hn;rw[qke,qaf (j:=0)]
  ·exact⟨_,by rw[Nat.pow_zero,Nat.mul_one]⟩
  ·have:decide ((q:Int)<4)=false:=jAe (by omega);simp only[qmT,qow,this,ev_br,jA9,ev_at]
 |succ k ih=>
  intro q n hq hn;have e0:n*10^(k+1)=10*n*10^k:=by rw[Nat.pow_succ,Nat.mul_comm 10 n,Nat.mul_assoc,Nat.mul_comm 10]
  have hp:1<=10^k:=Nat.one_le_pow _ _ (by decide);have hle:10*n<=10*n*10^k:=Nat.le_mul_of_pos_right _ hp;rw[e0]at hn ⊢;rw[qke,qaq (v':=(((10*n:Nat):Int),((q+1:Nat):Int)))]
  ·have:=ih (q+1) (10*n) (by omega) hn;rw[qke]at this;exact this
  ·have:decide ((q:Int)<4)=true:=jA8 (by omega);have e1:IntKind.i64.wrap (10*(n:Int))=((10*n:Nat):Int):=by rw[wrap64 (by omega) (by omega)];push_cast;rfl
   have e2:IntKind.i64.wrap ((q:Int)+1)=((q+1:Nat):Int):=by rw[wrap64 (by omega) (by omega)];omega
   simp only[qmT,qow,this,e1,e2,ev_br,jAa,ev_at]
theorem qlC{s:Bs}(hl:s.length<=1000000):qlB s=some (qbh s):=by
 have hb:s.length<=big:=jAz hl (by decide);rw[qMm,qqW,qsp hb];cases hf:qnE s
 ·rw[q3X hf];rfl
 ·obtain⟨a,p,ha,hp,rfl⟩:=qMH hf;obtain⟨hp4,hpd⟩:=qwE hp;have had:=(qa6.1 ha).1;have hdl:(a++(qc4 p++[37])).dropLast=a++qc4 p:=by rw[<-jAf,List.dropLast_concat]
  have hpl:plS (a++(qc4 p++[37]))=a.length:=by
   unfold qc4;cases(p != [])
   ·exact qyP ha rfl []
   ·exact qyP ha (d:=46) rfl (p++[37])
  have h0:=qFH hl a.length ((a++(qc4 p++[37])).length-1) 0 0 0 (by omega) (by omega) (jAj _);rw[List.drop_zero,hdl,q36 had hpd]at h0;rw[q3Z ha hp];simp only[ev_bi_some,Bool.not_true,ev_br,jA9,qlA hb,hpl];by_cases hbig:qa1 0 (a++p)>1000000
  ·rw[jA8 hbig]at h0;obtain⟨v,hv⟩:=h0;have hge:qa1 0 (a++p)*10^(4-p.length)>1000000:=jBz hbig (Nat.le_mul_of_pos_right _ (Nat.one_le_pow _ _ (by decide)));rw[jA8 hge];have hv':qjv (a++(qc4 p++[37]),(a.length:Int),0,0,0)=some (0,v):=hv;rw[hv'];rfl
  ·rw[jAe hbig]at h0;obtain⟨v,hv⟩:=h0;have hv':qjv (a++(qc4 p++[37]),(a.length:Int),0,0,0)=some (1,a++(qc4 p++[37]),(a.length:Int),((qa1 0 (a++p):Nat):Int),((p.length:Nat):Int),v):=hv;have hpw:10^(4-p.length)<=10^4:=Nat.pow_le_pow_right (by decide) (by omega);obtain⟨u,hu⟩:=qFI (4-p.length) p.length (qa1 0 (a++p)) (by omega) (by
    have:=Nat.mul_le_mul (show qa1 0 (a++p)<=1000000 by omega) hpw;omega)
   rw[hv'];have n0:pj 0 (some (1,a++(qc4 p++[37]),(a.length:Int),((qa1 0 (a++p):Nat):Int),((p.length:Nat):Int),v))=none:=rfl;have n1:pj 1 (some (1,a++(qc4 p++[37]),(a.length:Int),((qa1 0 (a++p):Nat):Int),((p.length:Nat):Int),v))=some (a++(qc4 p++[37]),(a.length:Int),((qa1 0 (a++p):Nat):Int),((p.length:Nat):Int),v):=rfl;rw[n0,ev_bi_none,n1,ev_bi_some];simp only[hu,pj_some,jB2,ev_bi_some];have e4:decide (((qa1 0 (a++p)*10^(4-p.length):Nat):Int)>1000000)=decide (qa1 0 (a++p)*10^(4-p.length)>1000000):=by
    by_cases h:qa1 0 (a++p)*10^(4-p.length)>1000000
    ·rw[jA8 h,jA8 (by omega)]
    ·rw[jAe h,jAe (by omega)]
   rw[ev_br,e4];cases decide (qa1 0 (a++p)*10^(4-p.length)>1000000)<;>rfl
end Go.Proofs.H16

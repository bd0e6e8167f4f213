/- Definitions of products: an example, told by the machine's own run. -/
import Derived.Test.YtjhhnkemeegahaaGreatDoorLvf
set_option linter.all false
namespace Go.Proofs.H16
open Go Go.Eng Go.Tk
set_option maxRecDepth 20000
theorem qsk:qbZ=some true:=qT8 zdN
end Go.Proofs.H16
namespace Go.Proofs.H16
open Go Go.Eng Go.Tk
set_option maxRecDepth 20000
theorem qFD{s:Bs}(hl:s.length<=big):qs1 (s,0)=some (qjO (fun c=>!at8 qch c) (fun _=>0) 1 s,s,((s.findIdx (fun c=>!at8 qch c):Nat):Int)):=by
 rw[qwf];refine qbd (hd:=fun n=>(s,(n:Int))) (jx:=fun _=>0) _ 1 (fun n h=>?_) ?_
 ·simp only[qmR,qor,qa0 h,qa5 h,qaX h,qat h hl,br_eq,jAa,ev_br,ev_at,cond_some,ev_bi_some,at8,qch,qei,qbe];have e1:decide ((s[n].toNat:Int)<97)= !decide ((s[n].toNat:Int)>=97):=by by_cases h:(s[n].toNat:Int)>=97<;>simp[h]<;>omega
  have e2:decide ((s[n].toNat:Int)>122)= !decide ((s[n].toNat:Int)<=122):=by by_cases h:(s[n].toNat:Int)<=122<;>simp[h]<;>omega
  have e3:decide ((s[n].toNat:Int)<48)= !decide ((s[n].toNat:Int)>=48):=by by_cases h:(s[n].toNat:Int)>=48<;>simp[h]<;>omega
  have e4:decide ((s[n].toNat:Int)>57)= !decide ((s[n].toNat:Int)<=57):=by by_cases h:(s[n].toNat:Int)<=57<;>simp[h]<;>omega
  rw[e1,e2,e3,e4,bne];cases decide ((s[n].toNat:Int)>=97)<;>cases decide ((s[n].toNat:Int)<=122)<;>cases decide ((s[n].toNat:Int)>=48)<;>cases decide ((s[n].toNat:Int)<=57)<;>cases((s[n].toNat:Int)==95)<;>rfl
 ·simp[qmR,qor]
theorem qE9(s:Bs):qsm s=some (qyC s):=by
 rw[qMk,qqU];cases s with
 |nil=>rfl
 |cons c r=>
  have e0:decide (((c::r).length:Int)<1)=false:=by simp only[jA0,jBl];omega
  have e1:inB (c::r).length 0=true:=by simp[inB]
  have e2:qal (c::r) 0=(c.toNat:Int):=by simp[qal,qgU]
  have e3:decide (((c::r).length:Int)>16)= !decide ((c::r).length<=16):=by
   by_cases h:(c::r).length<=16<;>simp only[h,decide_true,decide_false,Bool.not_true,Bool.not_false,jA6,jBl]<;>omega
  simp only[e0,e1,e2,e3,br_eq,jA9,jAa,cond_some,ev_bi_some,ev_br,ev_at,qyC,at8,qei];cases h16:decide ((c::r).length<=16)
  ·rfl
  ·have hl:(c::r).length<=big:=jAz (jBd h16) (by decide);rw[qFD hl,qbm];have e4:decide ((c.toNat:Int)<97)= !decide ((c.toNat:Int)>=97):=by by_cases h:(c.toNat:Int)>=97<;>simp[h]<;>omega
   have e5:decide ((c.toNat:Int)>122)= !decide ((c.toNat:Int)<=122):=by by_cases h:(c.toNat:Int)<=122<;>simp[h]<;>omega
   rw[e4,e5];have e6:(c::r).any (fun c=>!at8 qch c)= !(c::r).all (at8 qch):=by rw[List.any_eq_not_all_not];simp
   rw[e6];show _=some (_&&(_&&(c::r).all (at8 qch)));cases decide ((c.toNat:Int)>=97)<;>cases decide ((c.toNat:Int)<=122)<;>cases(c::r).all (at8 qch)<;>simp
theorem qAC:qnw=some (ES wordsS):=by
 rw[qvG,qm6];rfl
theorem qDr(s:Bs):qnP (s,ES wordsS,0)=some (qjO (s== ·) (fun _=>0) 1 wordsS,s,ES wordsS,((wordsS.findIdx (s== ·):Nat):Int)):=by
 rw[qnQ];refine qbd (hd:=fun n=>(s,ES wordsS,(n:Int))) (jx:=fun _=>0) _ 1 (fun n h=>?_) ?_
 ·simp only[qiD,qhN,jA5,qa0 h,qC0 h,qs0 h,ev_br,ev_at,jAa,qat h (show wordsS.length<=big by decide)];rw[BEq.comm (a:=wordsS[n]) (b:=s)];cases(s==wordsS[n])<;>rfl
 ·simp[qiD,qhN]
theorem qDs(s:Bs):qg4 s=some (qbT s):=by
 rw[qvH,qm7,qAC];simp only[ev_bi_some,qDr,qbm,qbT,has];cases wordsS.any (s== ·)<;>simp
theorem qEB(s:Bs):qfO s=some (qdE s):=by
 rw[qLq,qp2,qE9,qDs,qoK];cases qyC s<;>simp
theorem qxm:∀(e:Ex),Wd e-> ∀(most:Nat),most<=1000000-> ∀n,e.dep<=n->qdK n e.op e.num e.txt (EX e.args) (most:Int)=some ((min e.nodes (most+1):Nat):Int):=by
 intro e
 induction e using Ex.ind with
 |h o n s l ih=>
  intro hw most hmost m hm;have hlen:=hw.len;simp only[Ex.args]at hlen;have hwa:∀x∈l,Wd x:=fun x hx=>hw.arg (e:=.mk o n s l) hx
  simp only[Ex.dep]at hm;cases m with
  |zero=>omega
  |succ k=>
   simp only[qdK,qzM,Ex.op,Ex.num,Ex.txt,Ex.args];have key:∀(r i c:Nat),i+r=l.length->c<=most+1-> ∃q,qsX (qdK k) ((most:Int),(c:Int),(i:Int),o,n,s,EX l)=some (0,(most:Int),((min (c+Ex.nodesL (l.drop i)) (most+1):Nat):Int),q):=by
    intro r
    induction r with
    |zero=>
     intro i c hi hc;have:i=l.length:=by omega
     subst this;refine⟨((l.length:Int),o,n,s,EX l),?_⟩;rw[qka,qaf (j:=0)]
     ·rw[jC0];simp only[Ex.nodesL,Nat.add_zero];rw[Nat.min_eq_left hc]
     ·simp[Prod.f,Prod.h,qiC,qkB]
    |succ r ihr=>
     intro i c hi hc;have hn:i<l.length:=by omega
     by_cases hcm:c<=most
     ·have hx:l[i]∈l:=jAi hn;have h2:=Ex.depL_mem hx;have hwr:IntKind.i64.wrap ((most:Int)-(c:Int))=((most-c:Nat):Int):=by
       rw[wrap64 (by omega) (by omega)];omega
      have hg:=ih l[i] hx (hwa _ hx) (most-c) (by omega) k (by omega);have hpos:=Ex.nodes_pos l[i];have hws:IntKind.i64.wrap ((c:Int)+((min l[i].nodes (most-c+1):Nat):Int))=((c+min l[i].nodes (most-c+1):Nat):Int):=by
       rw[wrap64 (by omega) (by omega)];omega
      have hst:(qiC (qdK k) ((most:Int),(c:Int),(i:Int),o,n,s,EX l)).ev=some (.next ((most:Int),((c+min l[i].nodes (most-c+1):Nat):Int),((i+1:Nat):Int),o,n,s,EX l)):=by
       have e1:decide ((c:Int)<=(most:Int))=true:=by simp;omega
       simp only[Prod.f,Prod.h,qiC,qkB,jA5,qa0 hn,e1,br_eq,jAa,ev_bi_some,ev_br,ev_at,okX hn,qx0 hn,qx1 hn,qx2 hn,qx3 hn,hwr,hg,hws,qat hn hlen]
      obtain⟨q,hq⟩:=ihr (i+1) (c+min l[i].nodes (most-c+1)) (by omega) (by omega);refine⟨q,?_⟩;rw[qka]at hq ⊢;rw[qaq hst,hq,drop_at hn];simp only[Ex.nodesL]
      congr 4
      omega
     ·refine⟨((i:Int),o,n,s,EX l),?_⟩;rw[qka,qaf (j:=0)]
      ·have:min (c+Ex.nodesL (l.drop i)) (most+1)=c:=by omega
       rw[this]
      ·have e1:decide ((c:Int)<=(most:Int))=false:=by simp;omega
       simp only[Prod.f,Prod.h,qiC,qkB,jA5,qa0 hn,e1,br_eq,jAa,jA9,ev_bi_some,ev_br,ev_at]
   obtain⟨q,hq⟩:=key l.length 0 1 (by omega) (by omega);have hq':qsX (qdK k) ((most:Int),1,0,o,n,s,EX l)=some (0,(most:Int),((min (1+Ex.nodesL (l.drop 0)) (most+1):Nat):Int),q):=hq;rw[hq'];simp only[pj_some,jB2,ev_bi_some,ev_at,List.drop_zero,Ex.nodes]
   congr 3;omega
theorem qEZ{e:Ex}(hw:Wd e){most:Nat}(hm:most<=1000000):qfU e.op e.num e.txt (EX e.args) (most:Int)=some (decide (e.nodes>most)):=by
 have hc:qxU e.op e.num e.txt (EX e.args) (most:Int)=some ((min e.nodes (most+1):Nat):Int):=qdz (qxm e hw most hm);rw[qMa,qqK,hc];simp only[ev_bi_some,ev_at]
 congr 1
 by_cases h:e.nodes>most<;>simp[h]<;>omega
theorem qEY{e:Ex}(h:e.nodes<=big):qse e.op e.num e.txt (EX e.args)=some (e.dep:Int):=by
 refine qdz (n:=e.dep) ?_
 induction e using Ex.ind with
 |h o n s l ih=>
  intro m hm;cases m with
  |zero=>simp[Ex.dep]at hm
  |succ k=>
   have hdl:=Ex.dep_le (.mk o n s l);simp only[Ex.op,Ex.num,Ex.txt,Ex.args,qgR,qzK];simp only[Ex.nodes,Ex.dep]at h hm hdl;have hll:=Ex.nodesL_len l;have key:qyl (qgR k) (0,0,o,n,s,EX l)=some (0,((l.foldl (fun a x=>max a (Ex.dep x)) 0:Nat):Int),(l.length:Int),o,n,s,EX l):=by
    rw[qwa];refine qta (l:=l) (hd:=fun i a=>(((a:Nat):Int),(i:Int),o,n,s,EX l)) (f:=fun a x=>max a (Ex.dep x)) (jx:=fun _=>0) (inv:=fun _ _=>True) trivial (fun _ _ _ _=>trivial) ?_ ?_
    ·intro i a hn _;have hx:l[i]∈l:=jAi hn;have h1:=Ex.nodesL_mem hx;have h2:=Ex.depL_mem hx;have hg:=ih l[i] hx (by omega) k (by omega);have hm:(if (l[i].dep:Int)>(a:Int)then(l[i].dep:Int)else(a:Int))=((max a l[i].dep:Nat):Int):=by
      by_cases hc:a<l[i].dep
      ·rw[jAr (by omega),Nat.max_eq_right (by omega)]
      ·rw[jAm (by omega),Nat.max_eq_left (by omega)]
     simp only[Prod.f,Prod.h,qmN,qok,jA5,qa0 hn,okX hn,qx0 hn,qx1 hn,qx2 hn,qx3 hn,hg,ev_br,ev_at,ev_bi_some,jAa,hm,qat hn (show l.length<=big by omega)]
    ·intro a _;simp[Prod.f,Prod.h,qmN,qok]
   rw[key,Ex.dep_fold];have hw:IntKind.i64.wrap (((max 0 (Ex.depL l):Nat):Int)+1)=((Ex.depL l+1:Nat):Int):=by
    simp only[big]at h;rw[Nat.zero_max,wrap64 (by omega) (by omega)];simp
   simp only[pj_some,jB2,ev_bi_some,ev_at,Ex.dep,hw]
theorem qEz(op:Int):qrL op=some (qaN op):=by
 rw[qLo,qp0];simp only[br_eq,cond_some,ev_bi_some,ev_br,ev_at,qaN];by_cases h0:op<1
 ·simp[h0];rw[jAm (by omega),jAm (by omega),jAm (by omega),jAm (by omega)]
 by_cases h1:op>19
 ·simp[h0,h1];rw[jAm (by omega),jAm (by omega),jAm (by omega),jAm (by omega)]
 by_cases h2:op<=4
 ·have e:op=1\/op=2\/op=3\/op=4:=by omega
  rw[jAr e];simp[h0,h1,h2]
 by_cases h3:op=9
 ·subst h3;simp
 by_cases h4:op=16
 ·subst h4;simp
 by_cases h5:op=19
 ·subst h5;simp
 simp[h0,h1,h2,h3,h4,h5];rw[jAm (by omega),jAr (by omega)]
theorem qFd(op:Int):qsr op=some (qg7 op):=by
 rw[qMq,qq1];simp only[ev_br,ev_at,cond_some,qg7];by_cases h1:op=1
 ·simp[h1]
 by_cases h2:op=2
 ·simp[h2]
 by_cases h3:op=3
 ·simp[h3]
 have e1:(op==1)=false:=by simpa using h1
 have e2:(op==2)=false:=by simpa using h2
 have e3:(op==3)=false:=by simpa using h3
 simp[h1,h2,h3,e1,e2,e3]
theorem qE3{e:Ex}(h:e.nodes<=big):qxW e.op e.num e.txt (EX e.args)=some (e.allX qaL):=by
 refine qdz (n:=e.dep) ?_
 induction e using Ex.ind with
 |h o n s l ih=>
  intro m hm;cases m with
  |zero=>simp[Ex.dep]at hm
  |succ k=>
   have hal:=Ex.allX_eq qaL (.mk o n s l);show qfE (k+1) o n s (EX l)=some ((Ex.mk o n s l).allX qaL);simp only[qfE,qzN];simp only[Ex.nodes,Ex.dep]at h hm;have hll:=Ex.nodesL_len l;have key:qlO (qfE k) (0,o,n,s,EX l)=some (qjO (fun x=>!Ex.allX qaL x) (fun _=>0) 1 l,((l.findIdx (fun x=>!Ex.allX qaL x):Nat):Int),o,n,s,EX l):=by
    rw[qwb];refine qbd (hd:=fun i=>((i:Int),o,n,s,EX l)) (jx:=fun _=>0) _ 1 (fun i hn=>?_) ?_
    ·have hx:l[i]∈l:=jAi hn;have h1:=Ex.nodesL_mem hx;have h2:=Ex.depL_mem hx;have hg:=ih l[i] hx (by omega) k (by omega);simp only[Prod.f,Prod.h,qmO,qoo,jA5,qa0 hn,okX hn,qx0 hn,qx1 hn,qx2 hn,qx3 hn,hg,ev_br,ev_at,ev_bi_some,jAa,qat hn (show l.length<=big by omega)];cases l[i].allX qaL<;>rfl
    ·simp[Prod.f,Prod.h,qmO,qoo]
   rw[key,hal,qbm,qEz,qFd,Ex.args];have e1:decide (n<0)= !decide (n>=0):=by by_cases h:n>=0<;>simp[h]<;>omega
   have e2:decide (n>qg7 o)= !decide (n<=qg7 o):=by by_cases h:n<=qg7 o<;>simp[h]<;>omega
   have e3:((l.length:Int)==qaN o)=(qaN o==(l.length:Int)):=by rw[jC7,jB7,jB7];exact jBv
   have hna:l.any (fun x=>!Ex.allX qaL x)= !l.all (Ex.allX qaL):=by
    rw[List.any_eq_not_all_not];simp
   simp only[ev_bi_some,ev_br,ev_at,jA5,bne,e3,hna,pj_some];rw[e1,e2];show _=some ((qaN o==(l.length:Int)&&(decide (n>=0)&&(decide (n<=qg7 o)&&(s== []||o==4))))&&_);cases(qaN o==(l.length:Int))<;>cases decide (n>=0)<;>cases decide (n<=qg7 o)<;>cases(s== [])<;>cases(o==4)<;>cases l.all (Ex.allX qaL)<;>rfl
theorem qFs{l:List Bs}(hl:l.length<=big)(s:Bs):qyg (ES l,s,0)=some (0,ES l,s,(((l.takeWhile (qbi · s)).length:Nat):Int)):=by
 rw[qvY];refine qkf (fun n=>(ES l,s,(n:Int))) (l.takeWhile (qbi · s)).length 0 0 (jBa _) (fun m _ hm=>?_) ?_
 ·have h:=jBz hm (qgt l);have:=zfq h hm;simp only[Prod.f,Prod.h,qky,qkz,jA5,qa0 h,qC0 h,qs0 h,br_eq,jAa,ev_bi_some,ev_br,ev_at,this,qat h hl]
 ·by_cases h:(l.takeWhile (qbi · s)).length<l.length
  ·have:=q0o h;simp only[Prod.f,Prod.h,qky,qkz,jA5,qa0 h,qC0 h,qs0 h,br_eq,jAa,ev_bi_some,ev_br,ev_at,this,jA9]
  ·have h2:=qgt (p:=(qbi · s)) l;simp only[Prod.f,Prod.h,qky,qkz,jA5,qJO h,br_eq,jA9,ev_bi_some,ev_br,ev_at]
theorem qEN{l:List Bs}(hl:l.length<=1000000)(s:Bs):qji (ES l) s=some (ES (qu2 l s)):=by
 have hb:l.length<=big:=jAz hl (by decide);rw[qLT,qqt,qFs hb];have hk:=qgt (p:=(qbi · s)) l;unfold qu2;generalize hkk:(l.takeWhile (qbi · s)).length=k at hk;simp only[pj_some,jB2,ev_bi_some,jA5,jB5];have hr:∀n,n<=2000000->room n 16=true:=fun n hn=>qdB (by simp only[lim,Prod.i,Prod.h,Prod.f];omega)
 by_cases hlt:k<l.length
 ·simp only[qa0 hlt,qC0 hlt,qs0 hlt,br_eq,jAa,ev_bi_some,ev_br];rw[jAh hlt];cases hq:(l[k]==s)
  ·have hne:¬l[k]=s:=by simpa using hq
   have hD:decide ((List.drop k (ES l)).length=0)=false:=by simp;omega
   have hD':decide ((List.drop k (ES l)).length≠0)=true:=by simp;omega
   simp only[jA7,hne,jBg,jA9,qbj (Nat.le_of_lt hlt),jBt,jBm,Bool.false_and,Bool.and_self,jAa,hD,hD',decide_true];by_cases hk0:k=0
   ·subst hk0;rw[hr _ (by simp;omega)];simp
   ·have hTl:(List.take k (ES l)).length=k:=by rw[List.length_take,jA5];omega
    have hT:decide ((List.take k (ES l)).length=0)=false:=by rw[hTl];simpa using hk0
    have hT':decide ((List.take k (ES l)).length≠0)=true:=by rw[hTl];simpa using hk0
    simp only[hT,hT',jBm,Bool.false_and,jA9];rw[hr _ (by simp;omega),hr _ (by simp;omega),hr _ (by simp;omega)];simp[jCi,List.map_take,List.map_drop]
  ·have hqe:l[k]=s:=by simpa using hq
   simp[hqe]
 ·have hke:k=l.length:=by omega
  have hD:decide ((List.drop k (ES l)).length=0)=true:=by simp;omega
  simp only[qJO hlt,br_eq,jA9,ev_bi_some,ev_br,qbj hk,jBt,jBm,jAa,hD,decide_true];rw[List.getElem?_eq_none (by omega)];simp only[reduceCtorEq,jBg];by_cases hk0:k=0
  ·have:l= []:=by cases l with
    |nil=>rfl
    |cons _ _=>simp at hke;omega
   subst this;subst hk0;rfl
  ·have hTl:(List.take k (ES l)).length=k:=by rw[List.length_take,jA5];omega
   have hT:decide ((List.take k (ES l)).length=0)=false:=by rw[hTl];simpa using hk0
   have hT':decide ((List.take k (ES l)).length≠0)=true:=by rw[hTl];simpa using hk0
   simp only[hT,hT',jBm,jA9,ev_br];rw[hr _ (by simp;omega),hr _ (by simp;omega)];have e1:List.take k (ES l)=ES l:=jBb (by simp;omega);have e2:List.take k l=l:=jBb (by omega);have e3:List.drop k l= []:=List.drop_eq_nil_of_le (by omega);simp[e1,e2,e3]
def hdI(f:Nat)(i:Int)(L:List AV)(j:Int)(o n:Int)(s:Bs)(A:List AV)(acc:List Bs):qcW:=match f with
 |0=>.inl (i,L,j,o,n,s,A,ES acc)
 |1=>.inr (.inl (i,L,j,o,n,s,A))
 |_=>.inr (.inr (ES acc,i,L,j,o,n,s,A))
def hdO(f:Nat)(i:Int)(o n:Int)(s:Bs)(A:List AV)(acc:List Bs):qcF:=match f with
 |0=>.inl (i,o,n,s,A,ES acc)
 |1=>.inr (.inl (i,o,n,s,A))
 |_=>.inr (.inr (ES acc,i,o,n,s,A))
def fOk(f:Nat)(acc:List Bs):Prop:=f<=2/\(f=1->acc= [])
theorem qAE{L:List Bs}(hL:L.length<=1000000)(i o n:Int)(s:Bs)(A:List AV):∀(r j f:Nat) (acc:List Bs),j+r=L.length->fOk f acc->acc.length+r<=1000000 ->
  qdU (hdI f i (ES L) (j:Int) o n s A acc)=some (if r=0 then f else 2,hdI (if r=0 then f else 2) i (ES L) (L.length:Int) o n s A ((L.drop j).foldl qu2 acc))
 |0,j,f,acc,hj,hf,_=>by
  have:j=L.length:=by omega
  subst this;obtain⟨h1,h2⟩:=hf;rw[qnN,jC0];simp only[jB2,List.foldl_nil]
  match f,h1 with
  |0,_=>rw[qaf (j:=0)];simp[Prod.f,Prod.h,hdI,qd7,qol]
  |1,_=>rw[qaf (j:=1)];simp[Prod.f,Prod.h,hdI,qd7,qom]
  |2,_=>rw[qaf (j:=2)];simp[Prod.f,Prod.h,hdI,qd7,qon]
 |r+1,j,f,acc,hj,hf,hb=>by
  have hn:j<L.length:=by omega
  obtain⟨h1,h2⟩:=hf;have hst:(qd7 (hdI f i (ES L) (j:Int) o n s A acc)).ev=some (.next (hdI 2 i (ES L) ((j+1:Nat):Int) o n s A (qu2 acc L[j]))):=by
   have hi:=qEN (l:=acc) (by omega) L[j]
   match f,h1 with
   |0,_=>simp only[Prod.f,Prod.h,hdI,qd7,jBy,qol,jA5,qa0 hn,qC0 hn,qs0 hn,hi,ev_br,ev_at,ev_bi_some,jAa,qat hn (jAz hL (by decide))]
   |1,_=>
    have:=h2 rfl;subst this;have hi':qji [] L[j]=some (ES (qu2 [] L[j])):=hi;simp only[Prod.f,Prod.h,hdI,qd7,jBy,jBx,qom,jA5,qa0 hn,qC0 hn,qs0 hn,hi',ev_br,ev_at,ev_bi_some,jAa,qat hn (jAz hL (by decide))]
   |2,_=>simp only[Prod.f,Prod.h,hdI,qd7,jBx,qon,jA5,qa0 hn,qC0 hn,qs0 hn,hi,ev_br,ev_at,ev_bi_some,jAa,qat hn (jAz hL (by decide))]
  have hle:=qIC acc L[j];have ih:=qAE hL i o n s A r (j+1) 2 (qu2 acc L[j]) (by omega) ⟨jAj _,by omega⟩ (by omega);rw[qnN]at ih ⊢;rw[qaq hst,ih,drop_at hn];have:(if r=0 then 2 else 2)=2:=by split<;>rfl
  rw[this,jAm (show ¬r+1=0 by omega),jC3]
noncomputable def qUP(y:Option (Nat×qcF)):DT qrd:=
 .bi (pj 0 y) (fun y0=>.at ((sl y0).snd.snd.snd.snd.snd)) (.bi (pj 1 y) (fun _=>.at ([])) (.bi (pj 2 y) (fun y0=>.at ((sr (sr y0)).fst)) .no))
theorem qUQ(G:Int->Int->List UInt8->List AV->Option qrd)(x0 x1:Int)(x2:Bs)(x3:List AV) :
  qzL G x0 x1 x2 x3= .br (x0==4) (qUP (qfZ G (hdO 0 0 x0 x1 x2 x3 [x2]))) (qUP (qfZ G (hdO 1 0 x0 x1 x2 x3 []))):=rfl
theorem qxl:∀(e:Ex),e.nodes<=1000000-> ∀n,e.dep<=n->qdJ n e.op e.num e.txt (EX e.args)=some (ES e.names):=by
 intro e
 induction e using Ex.ind with
 |h o n s l ih=>
  intro h m hm;simp only[Ex.dep]at hm;have hll:=Ex.nodesL_len l;simp only[Ex.nodes]at h;cases m with
  |zero=>omega
  |succ k=>
   have key:∀(r i f:Nat) (acc:List Bs),i+r=l.length->fOk f acc->acc.length+Ex.nodesL (l.drop i)<=1000000->(qUP (qfZ (qdJ k) (hdO f (i:Int) o n s (EX l) acc))).ev=some (ES (Ex.namesL acc (l.drop i))):=by
    intro r
    induction r with
    |zero=>
     intro i f acc hi hf _;have:i=l.length:=by omega
     subst this;obtain⟨h1,h2⟩:=hf;rw[qnM,jC0]
     match f,h1 with
     |0,_=>
      rw[qaf (j:=0)]
      ·rfl
      ·simp[Prod.f,Prod.h,hdO,qbW,qhK]
     |1,_=>
      have:=h2 rfl;subst this;rw[qaf (j:=1)]
      ·rfl
      ·simp[Prod.f,Prod.h,hdO,qbW,qhL]
     |2,_=>
      rw[qaf (j:=2)]
      ·rfl
      ·simp[Prod.f,Prod.h,hdO,qbW,qhM]
    |succ r ihr=>
     intro i f acc hi hf hb;have hn:i<l.length:=by omega
     have hx:l[i]∈l:=jAi hn;have h1:=Ex.nodesL_mem hx;have h2:=Ex.depL_mem hx;have hg:=ih l[i] hx (by omega) k (by omega);have hnl:=qtd l[i];rw[drop_at hn]at hb ⊢;simp only[Ex.nodesL]at hb;have hin:=qAE (L:=l[i].names) (by omega) (i:Int) o n s (EX l) l[i].names.length 0 f acc (by omega) hf (by omega);rw[List.drop_zero]at hin;have hfl:=qx5 l[i].names acc;generalize hf2:(if l[i].names.length=0 then f else 2)=f2 at hin;have hf2ok:fOk f2 (l[i].names.foldl qu2 acc):=by
      rw[<-hf2];by_cases hz:l[i].names.length=0
      ·rw[jAr hz];have:l[i].names= []:=jAy.1 hz;rw[this];exact hf
      ·rw[jAm hz];exact⟨jAj _,by omega⟩
     have hst:(qbW (qdJ k) (hdO f (i:Int) o n s (EX l) acc)).ev=some (.next (hdO f2 ((i+1:Nat):Int) o n s (EX l) (l[i].names.foldl qu2 acc))):=by
      obtain⟨hf1,_⟩:=hf;obtain⟨hf3,_⟩:=hf2ok;have hin':qdU (hdI f (i:Int) (ES l[i].names) 0 o n s (EX l) acc)=some (f2,hdI f2 (i:Int) (ES l[i].names) (l[i].names.length:Int) o n s (EX l) (l[i].names.foldl qu2 acc)):=hin;have hw:=qat hn (show l.length<=big by simp only[big];omega)
      match f,hf1,f2,hf3 with
      |0,_,0,_=>simp(decide:=true) only[Prod.f,Prod.h,hdO,hdI,qbW,jBy,qhK,jA5,qa0 hn,okX hn,qx0 hn,qx1 hn,qx2 hn,qx3 hn,hg,ev_br,ev_at,ev_bi_some,ev_bi_none,jAa,pj_some,jB2,jBg,sl_inl,sr_inr,hw]at hin' ⊢;simp(decide:=true) only[hin',pj_some,jB2,jBg,ev_bi_some,ev_bi_none,ev_at,sl_inl,sr_inr,hw]
      |0,_,1,_=>simp(decide:=true) only[Prod.f,Prod.h,hdO,hdI,qbW,jBy,qhK,jA5,qa0 hn,okX hn,qx0 hn,qx1 hn,qx2 hn,qx3 hn,hg,ev_br,ev_at,ev_bi_some,ev_bi_none,jAa,pj_some,jB2,jBg,sl_inl,sr_inr,hw]at hin' ⊢;simp(decide:=true) only[hin',pj_some,jB2,jBg,ev_bi_some,ev_bi_none,ev_at,sl_inl,sr_inr,hw]
      |0,_,2,_=>simp(decide:=true) only[Prod.f,Prod.h,hdO,hdI,qbW,jBy,qhK,jA5,qa0 hn,okX hn,qx0 hn,qx1 hn,qx2 hn,qx3 hn,hg,ev_br,ev_at,ev_bi_some,ev_bi_none,jAa,pj_some,jB2,jBg,sl_inl,sr_inr,hw]at hin' ⊢;simp(decide:=true) only[hin',pj_some,jB2,jBg,ev_bi_some,ev_bi_none,ev_at,sl_inl,sr_inr,hw]
      |1,_,0,_=>simp(decide:=true) only[Prod.f,Prod.h,hdO,hdI,qbW,jBy,jBx,qhL,jA5,qa0 hn,okX hn,qx0 hn,qx1 hn,qx2 hn,qx3 hn,hg,ev_br,ev_at,ev_bi_some,ev_bi_none,jAa,pj_some,jB2,jBg,sl_inl,sr_inr,hw]at hin' ⊢;simp(decide:=true) only[hin',pj_some,jB2,jBg,ev_bi_some,ev_bi_none,ev_at,sl_inl,sr_inr,hw]
      |1,_,1,_=>simp(decide:=true) only[Prod.f,Prod.h,hdO,hdI,qbW,jBy,jBx,qhL,jA5,qa0 hn,okX hn,qx0 hn,qx1 hn,qx2 hn,qx3 hn,hg,ev_br,ev_at,ev_bi_some,ev_bi_none,jAa,pj_some,jB2,jBg,sl_inl,sr_inr,hw]at hin' ⊢;simp(decide:=true) only[hin',pj_some,jB2,jBg,ev_bi_some,ev_bi_none,ev_at,sl_inl,sr_inr,hw]
      |1,_,2,_=>simp(decide:=true) only[Prod.f,Prod.h,hdO,hdI,qbW,jBy,jBx,qhL,jA5,qa0 hn,okX hn,qx0 hn,qx1 hn,qx2 hn,qx3 hn,hg,ev_br,ev_at,ev_bi_some,ev_bi_none,jAa,pj_some,jB2,jBg,sl_inl,sr_inr,hw]at hin' ⊢;simp(decide:=true) only[hin',pj_some,jB2,jBg,ev_bi_some,ev_bi_none,ev_at,sl_inl,sr_inr,hw]
      |2,_,0,_=>simp(decide:=true) only[Prod.f,Prod.h,hdO,hdI,qbW,jBx,qhM,jA5,qa0 hn,okX hn,qx0 hn,qx1 hn,qx2 hn,qx3 hn,hg,ev_br,ev_at,ev_bi_some,ev_bi_none,jAa,pj_some,jB2,jBg,sl_inl,sr_inr,hw]at hin' ⊢;simp(decide:=true) only[hin',pj_some,jB2,jBg,ev_bi_some,ev_bi_none,ev_at,sl_inl,sr_inr,hw]
      |2,_,1,_=>simp(decide:=true) only[Prod.f,Prod.h,hdO,hdI,qbW,jBx,qhM,jA5,qa0 hn,okX hn,qx0 hn,qx1 hn,qx2 hn,qx3 hn,hg,ev_br,ev_at,ev_bi_some,ev_bi_none,jAa,pj_some,jB2,jBg,sl_inl,sr_inr,hw]at hin' ⊢;simp(decide:=true) only[hin',pj_some,jB2,jBg,ev_bi_some,ev_bi_none,ev_at,sl_inl,sr_inr,hw]
      |2,_,2,_=>simp(decide:=true) only[Prod.f,Prod.h,hdO,hdI,qbW,jBx,qhM,jA5,qa0 hn,okX hn,qx0 hn,qx1 hn,qx2 hn,qx3 hn,hg,ev_br,ev_at,ev_bi_some,ev_bi_none,jAa,pj_some,jB2,jBg,sl_inl,sr_inr,hw]at hin' ⊢;simp(decide:=true) only[hin',pj_some,jB2,jBg,ev_bi_some,ev_bi_none,ev_at,sl_inl,sr_inr,hw]
     have ihn:=ihr (i+1) f2 (l[i].names.foldl qu2 acc) (by omega) hf2ok (by omega);rw[qnM]at ihn ⊢;rw[qaq hst,ihn];simp only[Ex.namesL]
   show qdJ (k+1) o n s (EX l)=some (ES (Ex.mk o n s l).names);simp only[qdJ,qUQ,ev_br,Ex.names];by_cases ho:o=4
   ·have e:(o==4)=true:=by simpa using ho
    rw[e,jAa,jAr ho];exact key l.length 0 0 [s] (by omega) ⟨by omega,by omega⟩ (by simp;omega)
   ·have e:(o==4)=false:=by simpa using ho
    rw[e,jA9,jAm ho];exact key l.length 0 1 [] (by omega) ⟨by omega,fun _=>rfl⟩ (by simp;omega)
theorem qE0{e:Ex}(h:e.nodes<=1000000):qxT e.op e.num e.txt (EX e.args)=some (ES e.names):=qdz (qxl e h)
theorem qM8{l:List Bs}(hl:l.length<=big):qBA (ES l,0)=some (qjO (fun s=>!qdE s) (fun _=>0) 1 l,ES l,((l.findIdx (fun s=>!qdE s):Nat):Int)):=by
 rw[qBB];refine qbd (hd:=fun i=>(ES l,(i:Int))) (jx:=fun _=>0) _ 1 (fun i hn=>?_) ?_
 ·simp only[Prod.f,Prod.h,quE,quF,jA5,qa0 hn,qC0 hn,qs0 hn,qEB,ev_br,ev_at,ev_bi_some,jAa,qat hn hl];cases qdE l[i]<;>rfl
 ·simp[Prod.f,Prod.h,quE,quF]
theorem qEA{e:Ex}(hw:Wd e):qig e.op e.num e.txt (EX e.args)=some (qaJ e):=by
 have hG:=qEZ hw (most:=64) (by omega);rw[qLp,qp1,show(64:Int)=((64:Nat):Int)from rfl,hG,qaJ];by_cases h64:e.nodes>64
 ·simp[h64]
 ·have hb:e.nodes<=big:=by simp only[big];omega
  have hs:e.nodes<=1000000:=by omega
  have hnl:=qtd e;have hna:e.names.any (fun s=>!qdE s)= !e.allX qbu:=by
   rw[<-qBM,List.any_eq_not_all_not];simp
  rw[qEY hb,qE3 hb,qE0 hs];have e2:decide (gv (some (e.dep:Int))>8)=decide (e.dep>8):=by
   show decide ((e.dep:Int)>8)=_;by_cases h:e.dep>8<;>simp[h]<;>omega
  have e3:decide (e.nodes>64)=false:=by simpa using h64
  have hvl:=qM8 (show e.names.length<=big by simp only[big];omega);rw[qbm,hna]at hvl;simp only[ev_bi_some,br_eq,sm_some,e2,e3,jA9];cases decide (e.dep>8)<;>cases e.allX qaL<;>cases hn:e.allX qbu<;>simp[hvl,hn]
theorem qFq{s:Bs}(hl:s.length<=big):qsT (s,0)=some (qjO (fun c=>!at8 qbe c) (fun _=>0) 1 s,s,((s.findIdx (fun c=>!at8 qbe c):Nat):Int)):=by
 rw[qvU];refine qbd (hd:=fun i=>(s,(i:Int))) _ _ 1 (fun i hn=>?_) ?_
 ·simp only[qmH,qod,qa0 hn,qa5 hn,qaX hn,ev_br,jAa,qat hn hl,br_eq];have e:at8 qbe s[i]=(decide ((s[i].toNat:Int)>=48)&&decide ((s[i].toNat:Int)<=57)):=rfl;rw[e];by_cases h1:(s[i].toNat:Int)<48
  ·have h2:decide ((s[i].toNat:Int)>=48)=false:=jAe (by omega);rw[jA8 h1,h2];rfl
  ·have h2:decide ((s[i].toNat:Int)>=48)=true:=jA8 (by omega);rw[jAe h1,h2];by_cases h3:(s[i].toNat:Int)>57
   ·have h4:decide ((s[i].toNat:Int)<=57)=false:=jAe (by omega);rw[jA8 h3,h4];rfl
   ·have h4:decide ((s[i].toNat:Int)<=57)=true:=jA8 (by omega);rw[jAe h3,h4];rfl
 ·simp[qmH,qod]
theorem qdM{s:Bs}(hl:s.length<=big):qnr s=some (qgo s):=by
 rw[qLA,qqa,qFq hl,qbm];have ha:s.any (fun c=>!at8 qbe c)= !s.all (at8 qbe):=by
  rw[List.not_all_eq_any_not]
 rw[ha];unfold qgo;cases h:s.all (at8 qbe)
 ·rfl
 ·refine(biN (by rfl)).trans ((biS (by rfl)).trans ?_);cases s with
  |nil=>rfl
  |cons c r=>
   have e1:decide ((((c::r).length:Nat):Int)>0)=true:=jA8 (by simp only[jA0];omega);have e2:inB (c::r).length 0=true:=qa5 (n:=0) (by simp);have e3:qal (c::r) 0=(c.toNat:Int):=qaX (s:=c::r) (n:=0) (by simp);have e4:((c.toNat:Int) != 48)=(some c != some 48):=by
    by_cases hc:c=48
    ·subst hc;rfl
    ·have h2:c.toNat≠48:=fun h=>hc (UInt8.toNat_inj.1 h)
     have h3:((c.toNat:Int) != 48)=true:=by simp;omega
     have h4:(some c != some 48)=true:=by simpa using hc
     rw[h3,h4]
   simp only[e1,e2,e3,e4,br_eq,jAa,List.head?_cons];by_cases hc:(c::r)= [48]
   ·rw[hc];rfl
   ·have h5:((c::r)== [48])=false:=by simpa using hc
    rw[h5];cases r with
    |nil=>
     have:(some c != some 48)=true:=by
      simp only[bne_iff_ne,ne_eq,jA7];rintro rfl;exact hc rfl
     rw[this];rfl
    |cons d r=>
     have h6:((((c::d::r).length:Nat):Int)==1)=false:=by simp;omega
     rw[h6];cases(some c != some 48)<;>rfl
theorem pj0{τ:Type}{o:Option (Nat×τ)}{w:τ}(h:o=some (1,w)):pj 0 o=none:=by rw[h];rfl
theorem pj1{τ:Type}{o:Option (Nat×τ)}{w:τ}(h:o=some (1,w)):pj 1 o=some w:=by rw[h];rfl
theorem zqh{τ:Type}{o:Option (Nat×τ)}{w:τ}(h:o=some (0,w)):pj 0 o=some w:=by rw[h];rfl
theorem qEe:∀(s:Bs) (a:Nat),a<=qa1 a s
 | [],a=>jAj _
 |c::s,a=>by
  have e:qa1 a (c::s)=qa1 (a*10+(c.toNat-48)) s:=rfl;rw[e];exact jAz (by omega) (qEe s _)
theorem qsU{d:Bs}(hl:d.length<=big)(hd:d.all (at8 qbe)=true)(b:Bool){L:Nat}(hL:L=9223372036854775807\/L=9223372036854775808):∀(k i a:Nat),i+k=d.length->a<=L ->
  ∃j v w,qc6 (b,d,(L:Int),(a:Int),(i:Int))=some (j,b,d,(L:Int),v,w)/\((qa1 a (d.drop i)<=L/\j=1/\v=(qa1 a (d.drop i):Int))\/(L<qa1 a (d.drop i)/\j=0)):=by
 intro k
 induction k with
 |zero=>
  intro i a hi ha;have hi':d.drop i= []:=List.drop_eq_nil_of_le (by omega);rw[hi',qj7];refine⟨1,_,_,qaf (j:=1) ?_,.inl ⟨ha,rfl,rfl⟩⟩;have:decide ((i:Int)<(d.length:Int))=false:=jAe (by omega);show(qhD b d (L:Int) (a:Int) (i:Int)).ev=_;rw[qhD];exact(brF this).trans rfl
 |succ k ih=>
  intro i a hi ha;have hn:i<d.length:=by omega
  have hc:=jAb.1 hd d[i] (jAi hn);have hdig:48<=d[i].toNat/\d[i].toNat<=57:=by
   simp only[at8,qbe,jA1,jA6]at hc;omega
  rw[drop_at hn];have e:qa1 a (d[i]::d.drop (i+1))=qa1 (a*10+(d[i].toNat-48)) (d.drop (i+1)):=rfl;rw[e];have w8:IntKind.u8.wrap ((d[i].toNat:Int)-48)=((d[i].toNat-48:Nat):Int):=by
   rw[zln (by omega) (by omega)];omega
  have wu:∀x:Int,0<=x->x<18446744073709551616->IntKind.u64.wrap x=x:=by
   intro x h0 h1;simp only[IntKind.wrap,IntKind.bits,IntKind.signed];simp;omega
  have hdv:(((L:Int)-((d[i].toNat-48:Nat):Int)).tdiv 10)=(((L-(d[i].toNat-48)) / 10:Nat):Int):=by
   rw[show((L:Int)-((d[i].toNat-48:Nat):Int))=((L-(d[i].toNat-48):Nat):Int) by omega];rfl
  have wx:IntKind.u64.wrap ((IntKind.u64.wrap ((L:Int)-IntKind.u64.wrap (IntKind.u8.wrap ((d[i].toNat:Int)-48)))).tdiv 10)=(((L-(d[i].toNat-48)) / 10:Nat):Int):=by
   rw[w8,wu ((d[i].toNat-48:Nat):Int) (by omega) (by omega),wu ((L:Int)-_) (by omega) (by omega),hdv,wu _ (by omega) (by omega)]
  by_cases hov:(L-(d[i].toNat-48)) / 10<a
  ·have hlt:L<a*10+(d[i].toNat-48):=by omega
   refine⟨0,(a:Int),(i:Int),?_,.inr ⟨jBz hlt (qEe _ _),rfl⟩⟩;rw[qj7];refine qaf (j:=0) ?_;have h1:decide ((a:Int)>(((L-(d[i].toNat-48)) / 10:Nat):Int))=true:=jA8 (by omega);simp only[qmI,qhD,qa0 hn,qa5 hn,qaX hn,ev_br,ev_at,jAa,wx,h1]
  ·have hle:a*10+(d[i].toNat-48)<=L:=by omega
   obtain⟨j,v,w,h1,h2⟩:=ih (i+1) (a*10+(d[i].toNat-48)) (by omega) hle;refine⟨j,v,w,?_,h2⟩;rw[qj7]at h1 ⊢;have h3:decide ((a:Int)>(((L-(d[i].toNat-48)) / 10:Nat):Int))=false:=jAe (by omega);have h4:IntKind.u64.wrap (IntKind.u64.wrap ((a:Int)*10)+IntKind.u64.wrap (IntKind.u8.wrap ((d[i].toNat:Int)-48)))=((a*10+(d[i].toNat-48):Nat):Int):=by
    rw[w8,wu ((d[i].toNat-48:Nat):Int) (by omega) (by omega),wu ((a:Int)*10) (by omega) (by omega),wu _ (by omega) (by omega)];omega
   rw[qaq (v':=(b,d,(L:Int),((a*10+(d[i].toNat-48):Nat):Int),((i+1:Nat):Int))) ?_,h1];simp only[qmI,qhD,qa0 hn,qa5 hn,qaX hn,ev_br,ev_at,jAa,jA9,wx,h3,h4,qat hn hl]
theorem qrQ{s:Bs}(hl:s.length<=big):∃v e,qns s=some (v,e)/\(match qjA s with|some n=>v=n/\e=0|none=>e≠0\/v<0):=by
 rw[qLB,qqb];have plain:∀{s:Bs},s.length<=big->qgo s=true-> ∃v e,(DT.bi (pj 0 (qc6 (false,s,9223372036854775807,0,0))) (fun _=>DT.at (((0:Int),(6:Int))))
   (.bi (pj 1 (qc6 (false,s,9223372036854775807,0,0))) (fun y3=>.br (y3.fst) (.at ((IntKind.i64.wrap (IntKind.u64.wrap (IntKind.u64.wrap (-1-y3.snd.snd.snd.fst)+1)),0))) (.at ((IntKind.i64.wrap y3.snd.snd.snd.fst,0)))) (.no))).ev=some (v,e)/\(match qjA s with|some n=>v=n/\e=0|none=>e≠0\/v<0):=by
  intro s hl hi;have hd:s.all (at8 qbe)=true:=(qa6.1 hi).1;obtain⟨j,v,w,h1,h2⟩:=qsU hl hd false (L:=9223372036854775807) (.inl rfl) s.length 0 0 (by simp) (by omega);have h1:qc6 (false,s,9223372036854775807,0,0)=some (j,false,s,9223372036854775807,v,w):=h1;rw[List.drop_zero]at h2;have hg:=qjt hi;unfold qjA;rw[hi,hg,h1];rcases h2 with⟨q1,rfl,rfl⟩|⟨q1,rfl⟩
  ·rw[jAe (by omega)];refine⟨_,0,(biN (by rfl)).trans ((biS (by rfl)).trans ((brF rfl).trans rfl)),?_⟩;simp only[Bool.not_false,jBt,jAa];exact⟨wrap64 (by omega) (by omega),trivial⟩
  ·rw[jA8 (by omega)];exact⟨0,6,(biS (by rfl)).trans rfl,.inl (by decide)⟩
 cases s with
 |nil=>
  refine⟨0,2,?_,.inl (by decide)⟩;refine(biS (v:=false) (by rfl)).trans ((brF rfl).trans ((biS (qdM hl)).trans ((biS (v:=true) (by rfl)).trans ((brT rfl).trans rfl))))
 |cons c r=>
  have e1:decide ((((c::r).length:Nat):Int)>0)=true:=jA8 (by simp only[jA0];omega);have e2:inB (c::r).length 0=true:=qa5 (n:=0) (by simp);have e3:qal (c::r) 0=(c.toNat:Int):=qaX (s:=c::r) (n:=0) (by simp);rw[e1,e2,e3];by_cases hc:c=45
  ·subst hc;have hr:r.length<=big:=by simp only[jA0]at hl;omega
   have hns:qjA (45::r)=none:=by
    unfold qjA;have:qgo (45::r)=false:=by
     rw[<-Bool.not_eq_true];intro h;have:=(qa6.1 h).1;simp[at8,qbe]at this
    rw[this];rfl
   rw[hns];refine(fun h=>h) ?_;have hb:(DT.bi (br true (br true (some ((((45:UInt8).toNat:Nat):Int)==45)) none) (some false)):(Bool->DT qi5)->DT qi5->DT qi5)=DT.bi (some true):=rfl;rw[hb,ev_bi_some];cases hi:qgo r
   ·refine⟨0,2,(brT rfl).trans ((brT ?_).trans ((biS (qdM hr)).trans ?_)),.inl (by decide)⟩
    ·simp only[leB,jA0,jA1,jA6];omega
    ·rw[hi];exact(biS (v:=true) (by rfl)).trans ((brT rfl).trans rfl)
   ·have hd:r.all (at8 qbe)=true:=(qa6.1 hi).1;by_cases h0:r= [48]
    ·subst h0;exact⟨0,2,(brT rfl).trans ((brT rfl).trans ((biS (qdM hr)).trans ((biS (v:=true) (by rfl)).trans ((brT rfl).trans rfl)))),.inl (by decide)⟩
    ·obtain⟨j,v,w,h1,h2⟩:=qsU hr hd true (L:=9223372036854775808) (.inr rfl) r.length 0 0 (by simp) (by omega);have h1:qc6 (true,r,9223372036854775808,0,0)=some (j,true,r,9223372036854775808,v,w):=h1;rw[List.drop_zero]at h2;have hq:(r== [48])=false:=by simpa using h0
     have hN:=qdM hr;rw[hi]at hN;have hle:leB 1 (45::r).length=true:=by simp only[leB,jA0,jA1,jA6];omega
     have hb2:(br (!true) (some true) (br true (some (List.drop 1 (45::r)== [48])) (some false)))=some false:=by
      show(br (!true) (some true) (br true (some (r== [48])) (some false)))=some false;rw[hq];rfl
     rcases h2 with⟨q1,rfl,rfl⟩|⟨q1,rfl⟩
     ·refine⟨_,0,(brT rfl).trans ((brT hle).trans ((biS hN).trans ((biS (v:=false) hb2).trans ((brF rfl).trans ((brT rfl).trans ((biN (pj0 h1)).trans ((biS (pj1 h1)).trans ((brT rfl).trans rfl)))))))),.inr ?_⟩;have hpos:1<=qa1 0 r:=by
       obtain⟨q2,q3,q4⟩:=qa6.1 hi;cases r with
       |nil=>exact absurd rfl q3
       |cons c t=>
        have hc:=jAb.1 q2 c (by simp);simp only[at8,qbe,jA1,jA6]at hc;have hne:c.toNat≠48:=by
         intro h48;have hc48:c=48:=UInt8.toNat_inj.1 h48;subst hc48;unfold qgo at hi;cases t with
         |nil=>exact h0 rfl
         |cons d t=>simp at hi;omega
        have e:qa1 0 (c::t)=qa1 (0*10+(c.toNat-48)) t:=rfl;rw[e];exact jAz (by omega) (qEe t _)
      have wu:∀x:Int,IntKind.u64.wrap x=x%18446744073709551616:=by
       intro x;simp only[IntKind.wrap,IntKind.bits,IntKind.signed];simp
      have w1:IntKind.u64.wrap (-1-((qa1 0 r:Nat):Int))=18446744073709551615-((qa1 0 r:Nat):Int):=by rw[wu];omega
      have w2:IntKind.u64.wrap (18446744073709551615-((qa1 0 r:Nat):Int)+1)=18446744073709551616-((qa1 0 r:Nat):Int):=by rw[wu];omega
      show IntKind.i64.wrap (IntKind.u64.wrap (IntKind.u64.wrap (-1-((qa1 0 r:Nat):Int))+1))<0;rw[w1,w2];have w3:IntKind.i64.wrap (18446744073709551616-((qa1 0 r:Nat):Int))= -((qa1 0 r:Nat):Int):=by
       simp only[IntKind.wrap,IntKind.bits,IntKind.signed];simp;omega
      rw[w3];omega
     ·exact⟨0,6,(brT rfl).trans ((brT hle).trans ((biS hN).trans ((biS (v:=false) hb2).trans ((brF rfl).trans ((brT rfl).trans ((biS (zqh h1)).trans rfl)))))),.inl (by decide)⟩
  ·have hne:((c.toNat:Int)==45)=false:=by
    have:c.toNat≠45:=fun h=>hc (UInt8.toNat_inj.1 h)
    simp;omega
   rw[hne];have hb:(DT.bi (br true (br true (some false) none) (some false)):(Bool->DT qi5)->DT qi5->DT qi5)=DT.bi (some false):=rfl;rw[hb,ev_bi_some];cases hi:qgo (c::r)
   ·refine⟨0,2,(brF rfl).trans ((biS (qdM hl)).trans ?_),?_⟩
    ·rw[hi];exact(biS (v:=true) (by rfl)).trans ((brT rfl).trans rfl)
    ·unfold qjA;rw[hi];exact .inl (by decide)
   ·obtain⟨v,e,h1,h2⟩:=plain hl hi;refine⟨v,e,(brF rfl).trans ((biS (qdM hl)).trans ?_),h2⟩;rw[hi];exact(biS (v:=false) (by rfl)).trans ((brF rfl).trans ((brF rfl).trans h1))
theorem qr7{T:List Tok}(hb:∀t∈T,t.text.length<=1000000){l:List Tok}(hl:l <:+ T):∃v b,qjh (ET T) (pos T l)=some (v,b)/\(match numAt l with|some n=>v=n/\b=true|none=>b=false):=by
 rw[qLS,qqr,jA5];cases l with
 |nil=>
  have h0:decide (pos T []>=(T.length:Int))=true:=jA8 (by rw[qjD];omega);refine⟨0,false,(biS (v:=true) (by rw[h0];rfl)).trans ((brT rfl).trans rfl),rfl⟩
 |cons t l=>
  have hbt:t.text.length<=big:=by
   have:=hb t (hl.subset (by simp));simp only[big];omega
  rw[qHH hl,qyI hl,kindP hl,quJ hl,qkg];cases hk:(t.kind==2)
  ·exact⟨0,false,(biS (v:=true) (by rw[bne,hk];rfl)).trans ((brT rfl).trans rfl),rfl⟩
  ·obtain⟨v,e,h1,h2⟩:=qrQ hbt;rw[jAa];cases hn:qjA t.text with
   |none=>
    rw[hn]at h2;refine⟨v,false,(biS (v:=false) (by rw[bne,hk];rfl)).trans ((brF rfl).trans ((brT rfl).trans ((biS h1).trans ((biS (v:=false) ?_).trans rfl)))),rfl⟩;by_cases h0:e=0
    ·have hv:¬(v>=0):=by
      rcases h2 with h2|h2
      ·exact absurd h0 h2
      ·omega
     show br (e==0) (some (decide (v>=0))) (some false)=some false;rw[jB7.2 h0,jAe hv];rfl
    ·show br (e==0) (some (decide (v>=0))) (some false)=some false;rw[jBj.2 h0];rfl
   |some n=>
    rw[hn]at h2;obtain⟨rfl,rfl⟩:=h2;have hn0:=(qmu hn).2.1;refine⟨v,true,(biS (v:=false) (by rw[bne,hk];rfl)).trans ((brF rfl).trans ((brT rfl).trans ((biS h1).trans ((biS (v:=true) ?_).trans rfl)))),rfl,rfl⟩;show br ((0:Int)==0) (some (decide (v>=0))) (some false)=some true;rw[jA8 hn0];rfl
section
variable {T:List Tok}
def rsR(T:List Tok):Rs->Int×Int×Bs×List AV×Int×Bool
 | .ok e r=>(e.op,e.num,e.txt,EX e.args,pos T r,true)
 | .bad r=>(0,0,[],[],pos T r,false)
theorem qa4{s:Bs}{k:Int}(hk:qcu s=k){l:List Tok}(hl:l <:+ T):qbc (ET T) (pos T l) k s=some (isW s l):=by
 rw[qMy,qq9,jA5];cases l with
 |nil=>
  have h0:decide (pos T []<(T.length:Int))=false:=jAe (by rw[qjD];omega);rw[h0];rfl
 |cons t l=>
  rw[qUI hl,qyI hl,kindP hl,quJ hl,qbl,hk];cases(t.kind==k)<;>cases(t.text==s)<;>rfl
theorem qgI(hT:T.length<=1000000){s:Bs}{l:List Tok}(hl:l <:+ T)(h:isW s l=true):IntKind.i64.wrap (pos T l+1)=pos T l.tail:=by
 obtain⟨t,r,rfl⟩:=qbt h;exact qbL hl hT
theorem zkf(hT:T.length<=1000000){k:Nat}{l:List Tok}(hl:l <:+ T)(h:opAt k l≠0):IntKind.i64.wrap (pos T l+1)=pos T l.tail:=by
 obtain⟨t,r,rfl⟩:=qtk h;exact qbL hl hT
def opsL:List (Bs×Int):=[([43],5),([45],6),([42],7),([47],8),([61,61],10),([33,61],11),([60],12),([60,61],13)]
def rkI:Int->Int
 |5|6=>5
 |7|8=>6
 |_=>4
def q4l(x:Bs×Int):AV:=.str x.1
def q2l(x:Bs×Int):AV:=.int .i64 x.2
theorem q3W{x:Bs×Int}(h:x∈opsL):qg5 x.2=some (rkI x.2)/\qcu x.1=4:=by
 simp only[opsL,jAc,jAp,jBp]at h;rcases h with rfl|rfl|rfl|rfl|rfl|rfl|rfl|rfl<;>exact⟨by rw[qnz,qkN];rfl,rfl⟩
theorem qiq{l:List Tok}(hl:l <:+ T)(r:Int):qsV (ET T,pos T l,r,0,opsL.map q4l,opsL.map q2l)=some (qjO (fun x=>rkI x.2==r&&isW x.1 l) (fun _=>0) 1 opsL,ET T,pos T l,r,((opsL.findIdx (fun x=>rkI x.2==r&&isW x.1 l):Nat):Int),opsL.map q4l,opsL.map q2l):=by
 rw[qvX];refine qbd (hd:=fun i=>(ET T,pos T l,r,(i:Int),opsL.map q4l,opsL.map q2l)) _ _ 1 (fun i hn=>?_) ?_
 ·show(qhF (ET T) (pos T l) r (i:Int) (opsL.map q4l) (opsL.map q2l)).ev=_;have hm:=q3W (jAi hn);have i1:inB (opsL.map q4l).length (i:Int)=true:=qa5 (by rw[jA5];exact hn);have i2:inB (opsL.map q2l).length (i:Int)=true:=qa5 (by rw[jA5];exact hn);have c1:intOf (qfs (opsL.map q2l) i 0)=opsL[i].2:=by rw[qhj hn];rfl
  have c2:strOf (qfs (opsL.map q4l) i 0)=opsL[i].1:=by rw[qhj hn];rfl
  have o1:okP [CS.int IntKind.i64] (opsL.map q2l) i 0=true:=by rw[qF1 hn];rfl
  have o2:okP [CS.str] (opsL.map q4l) i 0=true:=by rw[qF1 hn];rfl
  have hlt:decide ((i:Int)<((opsL.map q4l).length:Int))=true:=by rw[jA5];exact qa0 hn
  rw[qhF];simp only[jB5,hlt,i1,i2,c1,c2,o1,o2,hm.1,qa4 hm.2 hl,sm_some,gv_some,br_eq,jAa];refine(brT rfl).trans ((brT rfl).trans ((brT rfl).trans ((biS rfl).trans ?_)));cases(rkI opsL[i].2==r)
  ·refine(biS rfl).trans ((brF rfl).trans ?_);simp only[ev_at,qat hn (show opsL.length<=big by decide)];rfl
  ·cases isW opsL[i].1 l
   ·refine(biS rfl).trans ((brF rfl).trans ?_);simp only[ev_at,qat hn (show opsL.length<=big by decide)];rfl
   ·exact(biS rfl).trans ((brT rfl).trans ((brT rfl).trans ((brT rfl).trans rfl)))
 ·show(qhF (ET T) (pos T l) r ((opsL.length:Nat):Int) (opsL.map q4l) (opsL.map q2l)).ev=_;rw[qhF];exact(brF (by simp)).trans rfl
def rkB:Nat->Int
 |0=>1
 |1=>2
 |2=>4
 |3=>5
 |4=>6
 |_=>7
def rkO:Nat->Int
 |0=>1
 |1=>2
 |2=>3
 |3=>5
 |4=>6
 |_=>7
theorem qyZ{k:Nat}(h:k<5):IntKind.i64.wrap (rkB k+1)=rkO (k+1):=by
 match k,h with
 |0,_|1,_|2,_|3,_|4,_=>decide
theorem qZx:qg5 14=some 2:=by rw[qnz,qkN];rfl
theorem qZy:qg5 15=some 1:=by rw[qnz,qkN];rfl
theorem qu5{k:Nat}(hk:k<5){l:List Tok}(hl:l <:+ T):qdO (ET T) (pos T l) (rkB k)=some (opAt k l):=by
 have wa:=qa4 (T:=T) (s:=[97,110,100]) (k:=5) rfl hl;have wo:=qa4 (T:=T) (s:=[111,114]) (k:=5) rfl hl;have step:∀(b:Bool) (s:Bs) (w:Bool),qbc (ET T) (pos T l) 5 s=some w->br b (br (sm (qbc (ET T) (pos T l) 5 s)) (some (gv (qbc (ET T) (pos T l) 5 s))) none) (some false)=some (b&&w):=by
  intro b s w h;rw[h];cases b<;>rfl
 have miss:∀k,k<5->opsL.any (fun x=>rkI x.2==rkB k&&isW x.1 l)=false->(rkB k==2)=false->(rkB k==1)=false->opAt k l=0->qdO (ET T) (pos T l) (rkB k)=some (opAt k l):=by
  intro k hk h0 h2 h1 ho;have hL:=qiq hl (rkB k);rw[quc h0]at hL;rw[qj3,qiH,ho];refine(biN (pj0 hL)).trans ((biS (pj1 hL)).trans ((biS qZx).trans ((biS (step _ _ _ wa)).trans ((brF ?_).trans ((biS qZy).trans ((biS (step _ _ _ wo)).trans ((brF ?_).trans rfl)))))))
  ·rw[h2];rfl
  ·rw[h1];rfl
 have hit:∀(k i:Nat) (op:Int),k<5->qjO (fun x=>rkI x.2==rkB k&&isW x.1 l) (fun _=>0) 1 opsL=0->opsL.findIdx (fun x=>rkI x.2==rkB k&&isW x.1 l)=i->intOf (qfs (opsL.map q2l) i 0)=op->opAt k l=op->qdO (ET T) (pos T l) (rkB k)=some (opAt k l):=by
  intro k i op hk h0 h1 hv ho;have hL:=qiq hl (rkB k);rw[h0,h1]at hL;rw[qj3,qiH,ho];refine(biS (zqh hL)).trans ?_;show some (intOf (qfs (opsL.map q2l) i 0))=_;rw[hv]
 match k,hk with
 |0,_=>
  have hL:=qiq hl (rkB 0);rw[quc (by rfl)]at hL;rw[qj3,qiH];refine(biN (pj0 hL)).trans ((biS (pj1 hL)).trans ((biS qZx).trans ((biS (step _ _ _ wa)).trans ((brF rfl).trans ((biS qZy).trans ((biS (step _ _ _ wo)).trans ?_))))));simp only[opAt,lvS,List.find?_cons,List.find?_nil];cases isW [111,114] l<;>rfl
 |1,_=>
  have hL:=qiq hl (rkB 1);rw[quc (by rfl)]at hL;rw[qj3,qiH];refine(biN (pj0 hL)).trans ((biS (pj1 hL)).trans ((biS qZx).trans ((biS (step _ _ _ wa)).trans ?_)));simp only[opAt,lvS,List.find?_cons,List.find?_nil];cases isW [97,110,100] l
  ·exact(brF rfl).trans ((biS qZy).trans ((biS (step _ _ _ wo)).trans ((brF rfl).trans rfl)))
  ·exact(brT rfl).trans rfl
 |2,_=>
  by_cases h0:isW [61,61] l=true
  ·exact hit 2 4 10 (by decide) (by simp[qjO,opsL,rkI,rkB,h0]) (by simp[opsL,rkI,rkB,List.findIdx_cons,h0]) rfl (by simp[opAt,lvS,h0])
  rw[Bool.not_eq_true]at h0;by_cases h1:isW [33,61] l=true
  ·exact hit 2 5 11 (by decide) (by simp[qjO,opsL,rkI,rkB,h0,h1]) (by simp[opsL,rkI,rkB,List.findIdx_cons,h0,h1]) rfl (by simp[opAt,lvS,h0,h1])
  rw[Bool.not_eq_true]at h1;by_cases h2:isW [60] l=true
  ·exact hit 2 6 12 (by decide) (by simp[qjO,opsL,rkI,rkB,h0,h1,h2]) (by simp[opsL,rkI,rkB,List.findIdx_cons,h0,h1,h2]) rfl (by simp[opAt,lvS,h0,h1,h2])
  rw[Bool.not_eq_true]at h2;by_cases h3:isW [60,61] l=true
  ·exact hit 2 7 13 (by decide) (by simp[qjO,opsL,rkI,rkB,h0,h1,h2,h3]) (by simp[opsL,rkI,rkB,List.findIdx_cons,h0,h1,h2,h3]) rfl (by simp[opAt,lvS,h0,h1,h2,h3])
  rw[Bool.not_eq_true]at h3;exact miss 2 (by decide) (by simp[opsL,rkI,rkB,h0,h1,h2,h3]) (by decide) (by decide) (by simp[opAt,lvS,h0,h1,h2,h3])
 |3,_=>
  by_cases h0:isW [43] l=true
  ·exact hit 3 0 5 (by decide) (by simp[qjO,opsL,rkI,rkB,h0]) (by simp[opsL,rkI,rkB,List.findIdx_cons,h0]) rfl (by simp[opAt,lvS,h0])
  rw[Bool.not_eq_true]at h0;by_cases h1:isW [45] l=true
  ·exact hit 3 1 6 (by decide) (by simp[qjO,opsL,rkI,rkB,h0,h1]) (by simp[opsL,rkI,rkB,List.findIdx_cons,h0,h1]) rfl (by simp[opAt,lvS,h0,h1])
  rw[Bool.not_eq_true]at h1;exact miss 3 (by decide) (by simp[opsL,rkI,rkB,h0,h1]) (by decide) (by decide) (by simp[opAt,lvS,h0,h1])
 |4,_=>
  by_cases h0:isW [42] l=true
  ·exact hit 4 2 7 (by decide) (by simp[qjO,opsL,rkI,rkB,h0]) (by simp[opsL,rkI,rkB,List.findIdx_cons,h0]) rfl (by simp[opAt,lvS,h0])
  rw[Bool.not_eq_true]at h0;by_cases h1:isW [47] l=true
  ·exact hit 4 3 8 (by decide) (by simp[qjO,opsL,rkI,rkB,h0,h1]) (by simp[opsL,rkI,rkB,List.findIdx_cons,h0,h1]) rfl (by simp[opAt,lvS,h0,h1])
  rw[Bool.not_eq_true]at h1;exact miss 4 (by decide) (by simp[opsL,rkI,rkB,h0,h1]) (by decide) (by decide) (by simp[opAt,lvS,h0,h1])
theorem rr1(o:Int)(a:Ex)(r:List Tok):rsR T (.ok (exN o [a]) r)=(o,0,[],[.agg [.int .i64 a.op,.int .i64 a.num,.str a.txt,.view 4 (EX a.args)]],pos T r,true):=by rw[<-EX1];rfl
theorem rr2(o:Int)(a b:Ex)(r:List Tok):rsR T (.ok (exN o [a,b]) r)=(o,0,[],[.agg [.int .i64 a.op,.int .i64 a.num,.str a.txt,.view 4 (EX a.args)],.agg [.int .i64 b.op,.int .i64 b.num,.str b.txt,.view 4 (EX b.args)]],pos T r,true):=by rw[<-EX2];rfl
theorem rr3(o:Int)(a b c:Ex)(r:List Tok):rsR T (.ok (exN o [a,b,c]) r)=(o,0,[],[.agg [.int .i64 a.op,.int .i64 a.num,.str a.txt,.view 4 (EX a.args)],.agg [.int .i64 b.op,.int .i64 b.num,.str b.txt,.view 4 (EX b.args)],.agg [.int .i64 c.op,.int .i64 c.num,.str c.txt,.view 4 (EX c.args)]],pos T r,true):=by rw[<-EX3];rfl
abbrev BR:=qdq
def bsr(s:Bool)(rk:Int)(A:List AV)(p:Int)(ok:Bool)(y4 y5:Int)(y6:Bs)(e:Ex):BR:=bif s then .inr (A,rk,p,ok,y4,y5,y6,e.op,e.num,e.txt,EX e.args)else .inl (A,rk,p,ok,y4,y5,y6,e.op,e.num,e.txt,EX e.args)
def zno(T:List Tok)(K:Nat)(rk:Int)(v:BR)(x:Rs):Prop:=∃(s:Bool) (p y4 y5:Int) (y6:Bs) (e:Ex),
 (∃r,x= .ok e r/\p=pos T r/\qdx (qab K).1 (qab K).2.1 (qab K).2.2.1 (qab K).2.2.2.1 (qab K).2.2.2.2 v=some (bif s then 3 else 0,bsr s rk (ET T) p true y4 y5 y6 e)) \/
 (∃op b r,x= .ok (exN op [e,b]) r/\qdO (ET T) p rk=some op/\(qab K).1 (ET T) (IntKind.i64.wrap (p+1)) (IntKind.i64.wrap (rk+1))=some (rsR T (.ok b r))/\qdx (qab K).1 (qab K).2.1 (qab K).2.2.1 (qab K).2.2.2.1 (qab K).2.2.2.2 v=some (bif s then 5 else 2,bsr s rk (ET T) p true y4 y5 y6 e)) \/
 (∃r,x= .bad r/\(qab K).1 (ET T) (IntKind.i64.wrap (p+1)) (IntKind.i64.wrap (rk+1))=some (rsR T (.bad r))/\qdx (qab K).1 (qab K).2.1 (qab K).2.2.1 (qab K).2.2.2.1 (qab K).2.2.2.2 v=some (bif s then 4 else 1,bsr s rk (ET T) p true y4 y5 y6 e))
def AtR(T:List Tok)(l:List Tok)(x:Rs)(K:Nat):Md->Prop
 | .ex=>(qab K).1 (ET T) (pos T l) 0=some (rsR T x)
 | .bin k=>k<=5->(qab K).1 (ET T) (pos T l) (rkO k)=some (rsR T x)
 | .cmp=>(qab K).1 (ET T) (pos T l) 4=some (rsR T x)
 | .lp k e=>k<5-> ∀s y4 y5 y6,zno T K (rkB k) (bsr s (rkB k) (ET T) (pos T l) true y4 y5 y6 e) x
 | .neg=>(qab K).1 (ET T) (pos T l) 7=some (rsR T x)
 | .prim=>(qab K).1 (ET T) (pos T l) 8=some (rsR T x)
theorem zjM(hT:T.length<=1000000){n K:Nat}(ih:∀m l x,prs n m l=some x->l <:+ T->AtR T l x K m){k:Nat}{e:Ex}{l:List Tok}{x:Rs}(h:prs (n+1) (.lp k e) l=some x)(hl:l <:+ T):AtR T l x K (.lp k e):=by
 intro hk s y4 y5 y6;rw[qwI]at h;have hop:=qu5 hk hl;cases h0:(opAt k l==0)
 ·rw[h0]at h;simp only[jA9]at h;have hne:opAt k l≠0:=by simpa using h0
  have hw:=zkf hT hl hne;rcases qbs h with⟨r,hb,rfl⟩|⟨b,r,hb,h⟩
  ·have hc:=ih _ _ _ hb (qaI hl) (by omega);rw[<-hw,<-qyZ hk]at hc;refine⟨s,pos T l,y4,y5,y6,e,.inr (.inr ⟨r,rfl,hc,?_⟩)⟩;rw[qdV];refine qaf ?_;cases s
   ·exact(brT rfl).trans ((biS hop).trans ((brF h0).trans ((biS hc).trans ((brT rfl).trans rfl))))
   ·exact(brT rfl).trans ((biS hop).trans ((brF h0).trans ((biS hc).trans ((brT rfl).trans rfl))))
  ·have hc:=ih _ _ _ hb (qaI hl) (by omega);rw[<-hw,<-qyZ hk]at hc;have hr:r <:+ T:=qgj hb (qaI hl);cases h2:(k==2)
   ·rw[h2]at h;simp only[jA9]at h;have h2':(rkB k==4)=false:=by
     have:k≠2:=by simpa using h2
     match k,hk,this with
     |0,_,_|1,_,_|3,_,_|4,_,_=>decide
    obtain⟨s',p',z4,z5,z6,e',hx⟩:=ih _ _ _ h hr hk true y4 y5 y6;have hstep:qdx (qab K).1 (qab K).2.1 (qab K).2.2.1 (qab K).2.2.2.1 (qab K).2.2.2.2 (bsr s (rkB k) (ET T) (pos T l) true y4 y5 y6 e)=qdx (qab K).1 (qab K).2.1 (qab K).2.2.1 (qab K).2.2.2.1 (qab K).2.2.2.2 (bsr true (rkB k) (ET T) (pos T r) true y4 y5 y6 (exN (opAt k l) [e,b])):=by
     rw[qdV,qdV];refine qaq ?_;cases s
     ·refine(brT rfl).trans ((biS hop).trans ((brF h0).trans ((biS hc).trans ((brF rfl).trans ((brF h2').trans ?_)))));unfold bsr;simp only[jAa,qHr,EX2];rfl
     ·refine(brT rfl).trans ((biS hop).trans ((brF h0).trans ((biS hc).trans ((brF rfl).trans ((brF h2').trans ?_)))));unfold bsr;simp only[jAa,qHr,EX2];rfl
    refine⟨s',p',z4,z5,z6,e',?_⟩;rw[hstep];exact hx
   ·rw[h2]at h;cases h;have h2':(rkB k==4)=true:=by
     have:k=2:=by simpa using h2
     subst this;rfl
    refine⟨s,pos T l,y4,y5,y6,e,.inr (.inl ⟨opAt k l,b,r,rfl,hop,hc,?_⟩)⟩;rw[qdV];refine qaf ?_;cases s
    ·exact(brT rfl).trans ((biS hop).trans ((brF h0).trans ((biS hc).trans ((brF rfl).trans ((brT h2').trans rfl)))))
    ·exact(brT rfl).trans ((biS hop).trans ((brF h0).trans ((biS hc).trans ((brF rfl).trans ((brT h2').trans rfl)))))
 ·rw[h0]at h;cases h;refine⟨s,pos T l,y4,y5,y6,e,.inl ⟨l,rfl,rfl,?_⟩⟩;rw[qdV];refine qaf ?_;cases s
  ·exact(brT rfl).trans ((biS hop).trans ((brT h0).trans rfl))
  ·exact(brT rfl).trans ((biS hop).trans ((brT h0).trans rfl))
def okG(e:Ex)(o1:Option Int)(o:Option qfD):Option qfD:=some (gv o1,0,[],[AV.agg [AV.int .i64 e.op,AV.int .i64 e.num,AV.str e.txt,AV.view 4 (EX e.args)],AV.agg [AV.int .i64 (gv o).fst,AV.int .i64 (gv o).snd.fst,AV.str (gv o).snd.snd.fst,AV.view 4 (gv o).snd.snd.snd.fst]],(gv o).snd.snd.snd.snd.fst,true)
def zsu(o:Option qfD):Option qfD:=some ((gv o).fst,(gv o).snd.fst,(gv o).snd.snd.fst,(gv o).snd.snd.snd.fst,(gv o).snd.snd.snd.snd.fst,false)
theorem zsy{τ α:Type}[Inhabited τ]{o:Option (Nat×τ)}{w:τ}{f0 f1 f2 f3 f4 f5:τ->DT α}(h:o=some (0,w)):(DT.bi (pj 0 o) f0 (.bi (pj 1 o) f1 (.bi (pj 2 o) f2 (.bi (pj 3 o) f3 (.bi (pj 4 o) f4 (.bi (pj 5 o) f5 .no)))))).ev=(f0 w).ev:=by subst h;rfl
theorem zsz{τ α:Type}[Inhabited τ]{o:Option (Nat×τ)}{w:τ}{f0 f1 f2 f3 f4 f5:τ->DT α}(h:o=some (1,w)):(DT.bi (pj 0 o) f0 (.bi (pj 1 o) f1 (.bi (pj 2 o) f2 (.bi (pj 3 o) f3 (.bi (pj 4 o) f4 (.bi (pj 5 o) f5 .no)))))).ev=(f1 w).ev:=by subst h;rfl
theorem zta{τ α:Type}[Inhabited τ]{o:Option (Nat×τ)}{w:τ}{f0 f1 f2 f3 f4 f5:τ->DT α}(h:o=some (2,w)):(DT.bi (pj 0 o) f0 (.bi (pj 1 o) f1 (.bi (pj 2 o) f2 (.bi (pj 3 o) f3 (.bi (pj 4 o) f4 (.bi (pj 5 o) f5 .no)))))).ev=(f2 w).ev:=by subst h;rfl
theorem znY{τ α:Type}[Inhabited τ]{o:Option (Nat×τ)}{w:τ}{f0 f1 f2 f3 f4 f5:τ->DT α}(h:o=some (3,w)):(DT.bi (pj 0 o) f0 (.bi (pj 1 o) f1 (.bi (pj 2 o) f2 (.bi (pj 3 o) f3 (.bi (pj 4 o) f4 (.bi (pj 5 o) f5 .no)))))).ev=(f3 w).ev:=by subst h;rfl
theorem znZ{τ α:Type}[Inhabited τ]{o:Option (Nat×τ)}{w:τ}{f0 f1 f2 f3 f4 f5:τ->DT α}(h:o=some (4,w)):(DT.bi (pj 0 o) f0 (.bi (pj 1 o) f1 (.bi (pj 2 o) f2 (.bi (pj 3 o) f3 (.bi (pj 4 o) f4 (.bi (pj 5 o) f5 .no)))))).ev=(f4 w).ev:=by subst h;rfl
theorem zsA{τ α:Type}[Inhabited τ]{o:Option (Nat×τ)}{w:τ}{f0 f1 f2 f3 f4 f5:τ->DT α}(h:o=some (5,w)):(DT.bi (pj 0 o) f0 (.bi (pj 1 o) f1 (.bi (pj 2 o) f2 (.bi (pj 3 o) f3 (.bi (pj 4 o) f4 (.bi (pj 5 o) f5 .no)))))).ev=(f5 w).ev:=by subst h;rfl
theorem qZB(hT:T.length<=1000000){n K:Nat}(ih:∀m l x,prs n m l=some x->l <:+ T->AtR T l x K m){k:Nat}{r:Int}(hr:rkB k=r)(h0:(r==0)=false)(h3:(r==3)=false)(h7:(r==7)=false)(h8:(r==8)=false)(hk:k<5){l:List Tok}{x:Rs}(h:(qcY (prs n (.bin (k+1)) l) fun e r=>prs n (.lp k e) r)=some x)(hl:l <:+ T):(qab (K+1)).1 (ET T) (pos T l) r=some (rsR T x):=by
 show(qbM (qab K).1 (qab K).2.1 (qab K).2.2.1 (qab K).2.2.2.1 (qab K).2.2.2.2 (ET T) (pos T l) r).ev=_;rw[qbM];refine(biS (v:=false) (by rw[h0];rfl)).trans ((brF rfl).trans ((brF h0).trans ((biS (v:=false) (by rw[h3];rfl)).trans ((brF rfl).trans ((biS (v:=false) (by rw[h7];rfl)).trans ((brF rfl).trans ((biS (v:=false) (by rw[h3,h7];rfl)).trans ((brF rfl).trans ((brF h8).trans ?_)))))))));subst hr;rcases qbs h with⟨r,hb,rfl⟩|⟨a,r,hb,h⟩
 ·have hc:=ih _ _ _ hb hl (by omega);rw[<-qyZ hk]at hc;refine(biS hc).trans ?_;have hL:qdx (qab K).1 (qab K).2.1 (qab K).2.2.1 (qab K).2.2.2.1 (qab K).2.2.2.2 (Sum.inl (ET T,rkB k,pos T r,false,0,0,[],0,0,[],[]))=some (0,Sum.inl (ET T,rkB k,pos T r,false,0,0,[],0,0,[],[])):=by
   rw[qdV];exact qaf ((brF rfl).trans rfl)
  exact(zsy hL).trans rfl
 ·have hc:=ih _ _ _ hb hl (by omega);rw[<-qyZ hk]at hc;have s1:=qgj hb hl;have hloop:=ih _ _ _ h s1 hk false 0 0 [];refine(biS hc).trans ?_;obtain⟨s,p,y4,y5,y6,e',(⟨r,rfl,rfl,hL⟩|⟨op,b,r,rfl,hO,hG,hL⟩|⟨r,rfl,hG,hL⟩)⟩:=hloop
  ·cases s
   ·exact(zsy hL).trans rfl
   ·exact(znY hL).trans rfl
  ·rw[rr2];cases s
   ·exact(zta hL).trans (((congrArg (okG e' · _) hO).trans (congrArg (okG e' _) hG)).trans rfl)
   ·exact(zsA hL).trans (((congrArg (okG e' · _) hO).trans (congrArg (okG e' _) hG)).trans rfl)
  ·cases s
   ·exact(zsz hL).trans ((congrArg zsu hG).trans rfl)
   ·exact(znZ hL).trans ((congrArg zsu hG).trans rfl)
theorem qKI{K:Nat}{l r:List Tok}{rk op p:Int}{a:Ex}(hw:IntKind.i64.wrap (p+1)=pos T l)(hc:(qab K).1 (ET T) (pos T l) rk=some (rsR T (.ok a r))):(qab (K+1)).2.2.1 (ET T) p rk op=some (rsR T (.ok (exN op [a]) r)):=by
 show(qkM (qab K).1 (qab K).2.1 (qab K).2.2.1 (qab K).2.2.2.1 (qab K).2.2.2.2 (ET T) p rk op).ev=_;rw[qkM,hw,rr1];exact(biS hc).trans ((brF rfl).trans rfl)
theorem qCP{K:Nat}{l r:List Tok}{rk op p:Int}(hw:IntKind.i64.wrap (p+1)=pos T l)(hc:(qab K).1 (ET T) (pos T l) rk=some (rsR T (.bad r))):(qab (K+1)).2.2.1 (ET T) p rk op=some (rsR T (.bad r)):=by
 show(qkM (qab K).1 (qab K).2.1 (qab K).2.2.1 (qab K).2.2.2.1 (qab K).2.2.2.2 (ET T) p rk op).ev=_;rw[qkM,hw];exact(biS hc).trans ((brT rfl).trans rfl)
theorem zeh{m n:Nat}(h:m=n)(hn:n<=10):room (m+1) 56=true:=by
 subst h;exact qdB (by simp only[lim,Prod.i,Prod.h,Prod.f];omega)
def zhL(o:Option qfD):Option qfD:=some (0,0,[],[],(gv o).snd.snd.snd.snd.fst,false)
theorem zc3(hT:T.length<=1000000){n K:Nat}(ih:∀m l x,prs n m l=some x->l <:+ T->AtR T l x K m){l:List Tok}{x:Rs}(hi:isW [105,102] l=true)(h:(qcY (prs n .ex l.tail) fun a r=>qbS [116,104,101,110] r fun r=>qcY (prs n .ex r) fun b r=>qbS [101,108,115,101] r fun r=>qcY (prs n .ex r) fun c r=>some (.ok (exN 19 [a,b,c]) r))=some x)(hl:l <:+ T):(qab (K+1)).2.1 (ET T) (pos T l)=some (rsR T x):=by
 show(qpQ (qab K).1 (qab K).2.1 (qab K).2.2.1 (qab K).2.2.2.1 (qab K).2.2.2.2 (ET T) (pos T l)).ev=_;rw[qpQ];have is1:=qa4 (k:=5) rfl hl (s:=[105,102]);rw[hi]at is1;have w1:=qgI hT hl hi;have s1:=qaI hl;rcases qbs h with⟨r,hb,rfl⟩|⟨a,r,hb,h⟩
 ·have hc:=ih _ _ _ hb s1;simp only[AtR]at hc;rw[<-w1]at hc;have hL:qde (qab K).1 (qab K).2.1 (qab K).2.2.1 (qab K).2.2.2.1 (qab K).2.2.2.2 (Sum.inl (ET T,pos T l,0,0,0,[],[AV.str [105,102],AV.str [116,104,101,110],AV.str [101,108,115,101]],19,0,[]))=some (1,Sum.inl (ET T,pos T l,0,0,0,[],[AV.str [105,102],AV.str [116,104,101,110],AV.str [101,108,115,101]],19,0,[])):=by
   rw[qb4];exact qaf ((brT rfl).trans ((brT rfl).trans ((brT rfl).trans ((biS is1).trans ((brF rfl).trans ((biS hc).trans ((brT rfl).trans rfl)))))))
  exact(zsz hL).trans ((congrArg zhL hc).trans rfl)
 have hc:=ih _ _ _ hb s1;simp only[AtR]at hc;rw[<-w1]at hc;have s2:=qgj hb s1;have L1:qde (qab K).1 (qab K).2.1 (qab K).2.2.1 (qab K).2.2.2.1 (qab K).2.2.2.2 (Sum.inl (ET T,pos T l,0,0,0,[],[AV.str [105,102],AV.str [116,104,101,110],AV.str [101,108,115,101]],19,0,[]))=qde (qab K).1 (qab K).2.1 (qab K).2.2.1 (qab K).2.2.2.1 (qab K).2.2.2.2 (Sum.inr (ET T,pos T r,1,0,0,[],[AV.str [105,102],AV.str [116,104,101,110],AV.str [101,108,115,101]],19,0,[],[AV.agg [AV.int .i64 a.op,AV.int .i64 a.num,AV.str a.txt,AV.view 4 (EX a.args)]])):=by
  rw[qb4,qb4];exact qaq ((brT rfl).trans ((brT rfl).trans ((brT rfl).trans ((biS is1).trans ((brF rfl).trans ((biS hc).trans ((brF rfl).trans rfl)))))))
 have is2:=qa4 (k:=5) rfl s2 (s:=[116,104,101,110]);rcases qcg h with⟨hw,rfl⟩|⟨hw,h⟩
 ·rw[hw]at is2;have hL:qde (qab K).1 (qab K).2.1 (qab K).2.2.1 (qab K).2.2.2.1 (qab K).2.2.2.2 (Sum.inl (ET T,pos T l,0,0,0,[],[AV.str [105,102],AV.str [116,104,101,110],AV.str [101,108,115,101]],19,0,[]))=some (3,Sum.inr (ET T,pos T r,1,0,0,[],[AV.str [105,102],AV.str [116,104,101,110],AV.str [101,108,115,101]],19,0,[],[AV.agg [AV.int .i64 a.op,AV.int .i64 a.num,AV.str a.txt,AV.view 4 (EX a.args)]])):=by
   rw[L1,qb4];exact qaf ((brT rfl).trans ((brT rfl).trans ((brT rfl).trans ((biS is2).trans ((brT rfl).trans rfl)))))
  exact(znY hL).trans rfl
 rw[hw]at is2;have w2:=qgI hT s2 hw;have s3:=qaI s2;rcases qbs h with⟨r2,hb2,rfl⟩|⟨b,r2,hb2,h⟩
 ·have hc2:=ih _ _ _ hb2 s3;simp only[AtR]at hc2;rw[<-w2]at hc2;have hL:qde (qab K).1 (qab K).2.1 (qab K).2.2.1 (qab K).2.2.2.1 (qab K).2.2.2.2 (Sum.inl (ET T,pos T l,0,0,0,[],[AV.str [105,102],AV.str [116,104,101,110],AV.str [101,108,115,101]],19,0,[]))=some (4,Sum.inr (ET T,pos T r,1,0,0,[],[AV.str [105,102],AV.str [116,104,101,110],AV.str [101,108,115,101]],19,0,[],[AV.agg [AV.int .i64 a.op,AV.int .i64 a.num,AV.str a.txt,AV.view 4 (EX a.args)]])):=by
   rw[L1,qb4];exact qaf ((brT rfl).trans ((brT rfl).trans ((brT rfl).trans ((biS is2).trans ((brF rfl).trans ((biS hc2).trans ((brT rfl).trans rfl)))))))
  exact(znZ hL).trans ((congrArg zhL hc2).trans rfl)
 have hc2:=ih _ _ _ hb2 s3;simp only[AtR]at hc2;rw[<-w2]at hc2;have s4:=qgj hb2 s3;have L2:qde (qab K).1 (qab K).2.1 (qab K).2.2.1 (qab K).2.2.2.1 (qab K).2.2.2.2 (Sum.inr (ET T,pos T r,1,0,0,[],[AV.str [105,102],AV.str [116,104,101,110],AV.str [101,108,115,101]],19,0,[],[AV.agg [AV.int .i64 a.op,AV.int .i64 a.num,AV.str a.txt,AV.view 4 (EX a.args)]]))=qde (qab K).1 (qab K).2.1 (qab K).2.2.1 (qab K).2.2.2.1 (qab K).2.2.2.2 (Sum.inr (ET T,pos T r2,2,0,0,[],[AV.str [105,102],AV.str [116,104,101,110],AV.str [101,108,115,101]],19,0,[],[AV.agg [AV.int .i64 a.op,AV.int .i64 a.num,AV.str a.txt,AV.view 4 (EX a.args)],AV.agg [AV.int .i64 b.op,AV.int .i64 b.num,AV.str b.txt,AV.view 4 (EX b.args)]])):=by
  rw[qb4,qb4];exact qaq ((brT rfl).trans ((brT rfl).trans ((brT rfl).trans ((biS is2).trans ((brF rfl).trans ((biS hc2).trans ((brF rfl).trans ((brT (zeh (n:=1) rfl (by decide))).trans rfl))))))))
 have is3:=qa4 (k:=5) rfl s4 (s:=[101,108,115,101]);rcases qcg h with⟨hw2,rfl⟩|⟨hw2,h⟩
 ·rw[hw2]at is3;have hL:qde (qab K).1 (qab K).2.1 (qab K).2.2.1 (qab K).2.2.2.1 (qab K).2.2.2.2 (Sum.inl (ET T,pos T l,0,0,0,[],[AV.str [105,102],AV.str [116,104,101,110],AV.str [101,108,115,101]],19,0,[]))=some (3,Sum.inr (ET T,pos T r2,2,0,0,[],[AV.str [105,102],AV.str [116,104,101,110],AV.str [101,108,115,101]],19,0,[],[AV.agg [AV.int .i64 a.op,AV.int .i64 a.num,AV.str a.txt,AV.view 4 (EX a.args)],AV.agg [AV.int .i64 b.op,AV.int .i64 b.num,AV.str b.txt,AV.view 4 (EX b.args)]])):=by
   rw[L1,L2,qb4];exact qaf ((brT rfl).trans ((brT rfl).trans ((brT rfl).trans ((biS is3).trans ((brT rfl).trans rfl)))))
  exact(znY hL).trans rfl
 rw[hw2]at is3;have w3:=qgI hT s4 hw2;have s5:=qaI s4;rcases qbs h with⟨r3,hb3,rfl⟩|⟨c,r3,hb3,h⟩
 ·have hc3:=ih _ _ _ hb3 s5;simp only[AtR]at hc3;rw[<-w3]at hc3;have hL:qde (qab K).1 (qab K).2.1 (qab K).2.2.1 (qab K).2.2.2.1 (qab K).2.2.2.2 (Sum.inl (ET T,pos T l,0,0,0,[],[AV.str [105,102],AV.str [116,104,101,110],AV.str [101,108,115,101]],19,0,[]))=some (4,Sum.inr (ET T,pos T r2,2,0,0,[],[AV.str [105,102],AV.str [116,104,101,110],AV.str [101,108,115,101]],19,0,[],[AV.agg [AV.int .i64 a.op,AV.int .i64 a.num,AV.str a.txt,AV.view 4 (EX a.args)],AV.agg [AV.int .i64 b.op,AV.int .i64 b.num,AV.str b.txt,AV.view 4 (EX b.args)]])):=by
   rw[L1,L2,qb4];exact qaf ((brT rfl).trans ((brT rfl).trans ((brT rfl).trans ((biS is3).trans ((brF rfl).trans ((biS hc3).trans ((brT rfl).trans rfl)))))))
  exact(znZ hL).trans ((congrArg zhL hc3).trans rfl)
 have hc3:=ih _ _ _ hb3 s5;simp only[AtR]at hc3;rw[<-w3]at hc3;cases h;have L3:qde (qab K).1 (qab K).2.1 (qab K).2.2.1 (qab K).2.2.2.1 (qab K).2.2.2.2 (Sum.inr (ET T,pos T r2,2,0,0,[],[AV.str [105,102],AV.str [116,104,101,110],AV.str [101,108,115,101]],19,0,[],[AV.agg [AV.int .i64 a.op,AV.int .i64 a.num,AV.str a.txt,AV.view 4 (EX a.args)],AV.agg [AV.int .i64 b.op,AV.int .i64 b.num,AV.str b.txt,AV.view 4 (EX b.args)]]))=qde (qab K).1 (qab K).2.1 (qab K).2.2.1 (qab K).2.2.2.1 (qab K).2.2.2.2 (Sum.inr (ET T,pos T r3,3,0,0,[],[AV.str [105,102],AV.str [116,104,101,110],AV.str [101,108,115,101]],19,0,[],[AV.agg [AV.int .i64 a.op,AV.int .i64 a.num,AV.str a.txt,AV.view 4 (EX a.args)],AV.agg [AV.int .i64 b.op,AV.int .i64 b.num,AV.str b.txt,AV.view 4 (EX b.args)],AV.agg [AV.int .i64 c.op,AV.int .i64 c.num,AV.str c.txt,AV.view 4 (EX c.args)]])):=by
  rw[qb4,qb4];exact qaq ((brT rfl).trans ((brT rfl).trans ((brT rfl).trans ((biS is3).trans ((brF rfl).trans ((biS hc3).trans ((brF rfl).trans ((brT (zeh (n:=2) rfl (by decide))).trans rfl))))))))
 have hL:qde (qab K).1 (qab K).2.1 (qab K).2.2.1 (qab K).2.2.2.1 (qab K).2.2.2.2 (Sum.inl (ET T,pos T l,0,0,0,[],[AV.str [105,102],AV.str [116,104,101,110],AV.str [101,108,115,101]],19,0,[]))=some (5,Sum.inr (ET T,pos T r3,3,0,0,[],[AV.str [105,102],AV.str [116,104,101,110],AV.str [101,108,115,101]],19,0,[],[AV.agg [AV.int .i64 a.op,AV.int .i64 a.num,AV.str a.txt,AV.view 4 (EX a.args)],AV.agg [AV.int .i64 b.op,AV.int .i64 b.num,AV.str b.txt,AV.view 4 (EX b.args)],AV.agg [AV.int .i64 c.op,AV.int .i64 c.num,AV.str c.txt,AV.view 4 (EX c.args)]])):=by
  rw[L1,L2,L3,qb4];exact qaf ((brF rfl).trans rfl)
 rw[rr3];exact(zsA hL).trans rfl
theorem cq0{τ α:Type}[Inhabited τ]{o:Option (Nat×τ)}{w:τ}{f0 f1 f2 f3 f4 f5 f6 f7:τ->DT α}(h:o=some (0,w)):(DT.bi (pj 0 o) f0 (.bi (pj 1 o) f1 (.bi (pj 2 o) f2 (.bi (pj 3 o) f3 (.bi (pj 4 o) f4 (.bi (pj 5 o) f5 (.bi (pj 6 o) f6 (.bi (pj 7 o) f7 .no)))))))).ev=(f0 w).ev:=by subst h;rfl
theorem cq2{τ α:Type}[Inhabited τ]{o:Option (Nat×τ)}{w:τ}{f0 f1 f2 f3 f4 f5 f6 f7:τ->DT α}(h:o=some (2,w)):(DT.bi (pj 0 o) f0 (.bi (pj 1 o) f1 (.bi (pj 2 o) f2 (.bi (pj 3 o) f3 (.bi (pj 4 o) f4 (.bi (pj 5 o) f5 (.bi (pj 6 o) f6 (.bi (pj 7 o) f7 .no)))))))).ev=(f2 w).ev:=by subst h;rfl
theorem cq4{τ α:Type}[Inhabited τ]{o:Option (Nat×τ)}{w:τ}{f0 f1 f2 f3 f4 f5 f6 f7:τ->DT α}(h:o=some (4,w)):(DT.bi (pj 0 o) f0 (.bi (pj 1 o) f1 (.bi (pj 2 o) f2 (.bi (pj 3 o) f3 (.bi (pj 4 o) f4 (.bi (pj 5 o) f5 (.bi (pj 6 o) f6 (.bi (pj 7 o) f7 .no)))))))).ev=(f4 w).ev:=by subst h;rfl
theorem cq5{τ α:Type}[Inhabited τ]{o:Option (Nat×τ)}{w:τ}{f0 f1 f2 f3 f4 f5 f6 f7:τ->DT α}(h:o=some (5,w)):(DT.bi (pj 0 o) f0 (.bi (pj 1 o) f1 (.bi (pj 2 o) f2 (.bi (pj 3 o) f3 (.bi (pj 4 o) f4 (.bi (pj 5 o) f5 (.bi (pj 6 o) f6 (.bi (pj 7 o) f7 .no)))))))).ev=(f5 w).ev:=by subst h;rfl
theorem cq6{τ α:Type}[Inhabited τ]{o:Option (Nat×τ)}{w:τ}{f0 f1 f2 f3 f4 f5 f6 f7:τ->DT α}(h:o=some (6,w)):(DT.bi (pj 0 o) f0 (.bi (pj 1 o) f1 (.bi (pj 2 o) f2 (.bi (pj 3 o) f3 (.bi (pj 4 o) f4 (.bi (pj 5 o) f5 (.bi (pj 6 o) f6 (.bi (pj 7 o) f7 .no)))))))).ev=(f6 w).ev:=by subst h;rfl
theorem qRM(hT:T.length<=1000000){n K:Nat}(ih:∀m l x,prs n m l=some x->l <:+ T->AtR T l x K m){op:Int}{s:Bs}{l:List Tok}{x:Rs}(hi:isW s l=true)(h:qed op (prs n .ex) l.tail=some x)(hl:l <:+ T):(qab (K+1)).2.2.2.2 (ET T) (pos T l) op=some (rsR T x):=by
 show(qqs (qab K).1 (qab K).2.1 (qab K).2.2.1 (qab K).2.2.2.1 (qab K).2.2.2.2 (ET T) (pos T l) op).ev=_;rw[qqs,qgI hT hl hi];have s0:=qaI hl;have is1:=qa4 (k:=4) rfl s0 (s:=[40]);unfold qed at h;rcases qcg h with⟨hw,rfl⟩|⟨hw,h⟩
 ·rw[hw]at is1;have hL:qb2 (qab K).1 (qab K).2.1 (qab K).2.2.1 (qab K).2.2.2.1 (qab K).2.2.2.2 (Sum.inl (ET T,pos T l.tail,0,0,0,[],[AV.str [40],AV.str [44],AV.str [41]],op,0,[]))=some (0,(Sum.inl (ET T,pos T l.tail,0,0,0,[],[AV.str [40],AV.str [44],AV.str [41]],op,0,[]))):=by
   rw[qb3];exact qaf ((brT rfl).trans ((brT rfl).trans ((brT rfl).trans ((biS is1).trans ((brT rfl).trans rfl)))))
  exact(cq0 hL).trans rfl
 rw[hw]at is1;have w1:=qgI hT s0 hw;have s1:=qaI s0;rcases qbs h with⟨r,hb,rfl⟩|⟨a,r,hb,h⟩
 ·have hc:=ih _ _ _ hb s1;simp only[AtR]at hc;rw[<-w1]at hc;have hL:qb2 (qab K).1 (qab K).2.1 (qab K).2.2.1 (qab K).2.2.2.1 (qab K).2.2.2.2 (Sum.inl (ET T,pos T l.tail,0,0,0,[],[AV.str [40],AV.str [44],AV.str [41]],op,0,[]))=some (2,(Sum.inl (ET T,pos T l.tail,0,0,0,[],[AV.str [40],AV.str [44],AV.str [41]],op,0,[]))):=by
   rw[qb3];exact qaf ((brT rfl).trans ((brT rfl).trans ((brT rfl).trans ((biS is1).trans ((brF rfl).trans ((brF rfl).trans ((biS hc).trans ((brT rfl).trans rfl))))))))
  exact(cq2 hL).trans ((congrArg zhL hc).trans rfl)
 have hc:=ih _ _ _ hb s1;simp only[AtR]at hc;rw[<-w1]at hc;have s2:=qgj hb s1;have L1:qb2 (qab K).1 (qab K).2.1 (qab K).2.2.1 (qab K).2.2.2.1 (qab K).2.2.2.2 (Sum.inl (ET T,pos T l.tail,0,0,0,[],[AV.str [40],AV.str [44],AV.str [41]],op,0,[]))=qb2 (qab K).1 (qab K).2.1 (qab K).2.2.1 (qab K).2.2.2.1 (qab K).2.2.2.2 (Sum.inr (ET T,pos T r,1,0,0,[],[AV.str [40],AV.str [44],AV.str [41]],op,0,[],[AV.agg [AV.int .i64 a.op,AV.int .i64 a.num,AV.str a.txt,AV.view 4 (EX a.args)]])):=by
  rw[qb3,qb3];exact qaq ((brT rfl).trans ((brT rfl).trans ((brT rfl).trans ((biS is1).trans ((brF rfl).trans ((brF rfl).trans ((biS hc).trans ((brF rfl).trans rfl))))))))
 have is2:=qa4 (k:=4) rfl s2 (s:=[44]);rcases qcg h with⟨hw,rfl⟩|⟨hw,h⟩
 ·rw[hw]at is2;have hL:qb2 (qab K).1 (qab K).2.1 (qab K).2.2.1 (qab K).2.2.2.1 (qab K).2.2.2.2 (Sum.inl (ET T,pos T l.tail,0,0,0,[],[AV.str [40],AV.str [44],AV.str [41]],op,0,[]))=some (4,(Sum.inr (ET T,pos T r,1,0,0,[],[AV.str [40],AV.str [44],AV.str [41]],op,0,[],[AV.agg [AV.int .i64 a.op,AV.int .i64 a.num,AV.str a.txt,AV.view 4 (EX a.args)]]))):=by
   rw[L1,qb3];exact qaf ((brT rfl).trans ((brT rfl).trans ((brT rfl).trans ((biS is2).trans ((brT rfl).trans rfl)))))
  exact(cq4 hL).trans rfl
 rw[hw]at is2;have w2:=qgI hT s2 hw;have s3:=qaI s2;rcases qbs h with⟨r2,hb2,rfl⟩|⟨b,r2,hb2,h⟩
 ·have hc2:=ih _ _ _ hb2 s3;simp only[AtR]at hc2;rw[<-w2]at hc2;have hL:qb2 (qab K).1 (qab K).2.1 (qab K).2.2.1 (qab K).2.2.2.1 (qab K).2.2.2.2 (Sum.inl (ET T,pos T l.tail,0,0,0,[],[AV.str [40],AV.str [44],AV.str [41]],op,0,[]))=some (6,(Sum.inr (ET T,pos T r,1,0,0,[],[AV.str [40],AV.str [44],AV.str [41]],op,0,[],[AV.agg [AV.int .i64 a.op,AV.int .i64 a.num,AV.str a.txt,AV.view 4 (EX a.args)]]))):=by
   rw[L1,qb3];exact qaf ((brT rfl).trans ((brT rfl).trans ((brT rfl).trans ((biS is2).trans ((brF rfl).trans ((brF rfl).trans ((biS hc2).trans ((brT rfl).trans rfl))))))))
  exact(cq6 hL).trans ((congrArg zhL hc2).trans rfl)
 have hc2:=ih _ _ _ hb2 s3;simp only[AtR]at hc2;rw[<-w2]at hc2;have s4:=qgj hb2 s3;have L2:qb2 (qab K).1 (qab K).2.1 (qab K).2.2.1 (qab K).2.2.2.1 (qab K).2.2.2.2 (Sum.inr (ET T,pos T r,1,0,0,[],[AV.str [40],AV.str [44],AV.str [41]],op,0,[],[AV.agg [AV.int .i64 a.op,AV.int .i64 a.num,AV.str a.txt,AV.view 4 (EX a.args)]]))=qb2 (qab K).1 (qab K).2.1 (qab K).2.2.1 (qab K).2.2.2.1 (qab K).2.2.2.2 (Sum.inr (ET T,pos T r2,2,0,0,[],[AV.str [40],AV.str [44],AV.str [41]],op,0,[],[AV.agg [AV.int .i64 a.op,AV.int .i64 a.num,AV.str a.txt,AV.view 4 (EX a.args)],AV.agg [AV.int .i64 b.op,AV.int .i64 b.num,AV.str b.txt,AV.view 4 (EX b.args)]])):=by
  rw[qb3,qb3];exact qaq ((brT rfl).trans ((brT rfl).trans ((brT rfl).trans ((biS is2).trans ((brF rfl).trans ((brF rfl).trans ((biS hc2).trans ((brF rfl).trans ((brT (zeh (n:=1) rfl (by decide))).trans rfl)))))))))
 have is3:=qa4 (k:=4) rfl s4 (s:=[41]);rcases qcg h with⟨hw2,rfl⟩|⟨hw2,h⟩
 ·rw[hw2]at is3;have hL:qb2 (qab K).1 (qab K).2.1 (qab K).2.2.1 (qab K).2.2.2.1 (qab K).2.2.2.2 (Sum.inl (ET T,pos T l.tail,0,0,0,[],[AV.str [40],AV.str [44],AV.str [41]],op,0,[]))=some (4,(Sum.inr (ET T,pos T r2,2,0,0,[],[AV.str [40],AV.str [44],AV.str [41]],op,0,[],[AV.agg [AV.int .i64 a.op,AV.int .i64 a.num,AV.str a.txt,AV.view 4 (EX a.args)],AV.agg [AV.int .i64 b.op,AV.int .i64 b.num,AV.str b.txt,AV.view 4 (EX b.args)]]))):=by
   rw[L1,L2,qb3];exact qaf ((brT rfl).trans ((brT rfl).trans ((brT rfl).trans ((biS is3).trans ((brT rfl).trans rfl)))))
  exact(cq4 hL).trans rfl
 rw[hw2]at is3;have w3:=qgI hT s4 hw2;cases h;have hL:qb2 (qab K).1 (qab K).2.1 (qab K).2.2.1 (qab K).2.2.2.1 (qab K).2.2.2.2 (Sum.inl (ET T,pos T l.tail,0,0,0,[],[AV.str [40],AV.str [44],AV.str [41]],op,0,[]))=some (5,(Sum.inr (ET T,pos T r2,2,0,0,[],[AV.str [40],AV.str [44],AV.str [41]],op,0,[],[AV.agg [AV.int .i64 a.op,AV.int .i64 a.num,AV.str a.txt,AV.view 4 (EX a.args)],AV.agg [AV.int .i64 b.op,AV.int .i64 b.num,AV.str b.txt,AV.view 4 (EX b.args)]]))):=by
  rw[L1,L2,qb3];exact qaf ((brT rfl).trans ((brT rfl).trans ((brT rfl).trans ((biS is3).trans ((brF rfl).trans ((brT rfl).trans rfl))))))
 rw[rr2,<-w3];exact(cq5 hL).trans rfl
theorem qwo(t:Tok)(r:List Tok):qgr (t::r)=bif t.kind==1 then .ok (.mk 4 0 t.text []) r
  else bif t.kind==3 then(bif (qbh t.text).2==0 then .ok (.mk 3 (qbh t.text).1 [] []) r else .bad (t::r))
  else match numAt (t::r)with
   |some n=>.ok (.mk 1 n [] []) r
   |none=>.bad (t::r):=rfl
theorem qip{s:Bs}{l:List Tok}{n:Int}(h:numAt l=some n):isW s l=false:=by
 cases l with
 |nil=>rfl
 |cons t l=>
  rw[qkg]at h;cases hk:(t.kind==2)
  ·rw[hk]at h;cases h
  ·have:t.kind=2:=by simpa using hk
   rw[qbl,this];have:((2:Int)==qcu s)=false:=by unfold qcu;cases qbT s<;>decide
   rw[this,Bool.and_false]
theorem qBR{l:List Tok}{n:Int}(hb:∀t∈T,t.text.length<=1000000)(hl:l <:+ T)(h:numAt l=some n):qjh (ET T) (pos T l)=some (n,true):=by
 obtain⟨v,b,h1,h2⟩:=qr7 hb hl;rw[h]at h2;obtain⟨rfl,rfl⟩:=h2;exact h1
theorem qBQ{l:List Tok}(hb:∀t∈T,t.text.length<=1000000)(hl:l <:+ T)(h:numAt l=none):∃v,qjh (ET T) (pos T l)=some (v,false):=by
 obtain⟨v,b,h1,h2⟩:=qr7 hb hl;rw[h]at h2;exact⟨v,by rw[h1,h2]⟩
theorem q38(hT:T.length<=1000000)(hb:∀t∈T,t.text.length<=1000000){n K:Nat}(ih:∀m l x,prs n m l=some x->l <:+ T-> ∀K,3*n<=K->AtR T l x K m)(hK:3*n+1<=K){l:List Tok}{x:Rs}(h:prs (n+1) .prim l=some x)(hl:l <:+ T):(qab (K+1)).2.2.2.1 (ET T) (pos T l)=some (rsR T x):=by
 obtain⟨J,rfl⟩:∃J,K=J+1:=⟨K-1,by omega⟩;have hpair:∀op s x',isW s l=true->qed op (prs n .ex) l.tail=some x'->(qab (J+1)).2.2.2.2 (ET T) (pos T l) op=some (rsR T x'):=fun op s x' hi h'=>qRM hT (fun m l x h hl=>ih m l x h hl J (by omega)) hi h' hl
 generalize J+1=K at hpair hK ⊢;show(qqe (qab K).1 (qab K).2.1 (qab K).2.2.1 (qab K).2.2.2.1 (qab K).2.2.2.2 (ET T) (pos T l)).ev=_;rw[qqe];rw[qkk]at h;have i1:=qa4 (k:=4) rfl hl (s:=[36]);have i2:=qa4 (k:=5) rfl hl (s:=[109,105,110]);have i3:=qa4 (k:=5) rfl hl (s:=[109,97,120]);have i4:=qa4 (k:=4) rfl hl (s:=[40]);cases hn:numAt l with
 |some v=>
  have hne:∃t r,l=t::r:=by
   cases l with
   |nil=>cases hn
   |cons t r=>exact⟨t,r,rfl⟩
  rw[qip hn,qip hn,qip hn,qip hn]at h;simp only[jA9]at h;cases h;obtain⟨t,r,rfl⟩:=hne;have hk2:(t.kind==2)=true:=by
   rw[qkg]at hn;cases hk:(t.kind==2)
   ·rw[hk]at hn;cases hn
   ·rfl
  have hk2':t.kind=2:=by simpa using hk2
  have:qgr (t::r)= .ok (.mk 1 v [] []) r:=by
   rw[qwo,hn,hk2'];rfl
  rw[this];refine(biS (qBR hb hl hn)).trans ((brT rfl).trans ?_);show some (1,v,[],[],IntKind.i64.wrap (pos T (t::r)+1),true)=_;rw[qbL hl hT];rfl
 |none=>
  obtain⟨v0,hn0⟩:=qBQ hb hl hn;refine(biS hn0).trans ((brF rfl).trans ?_);refine(biS i1).trans ?_;cases h1:isW [36] l
  ·rw[h1]at h;simp only[jA9]at h;refine(brF rfl).trans ((biS i2).trans ?_);cases h2:isW [109,105,110] l
   ·rw[h2]at h;simp only[jA9]at h;refine(brF rfl).trans ((biS i3).trans ?_);cases h3:isW [109,97,120] l
    ·rw[h3]at h;simp only[jA9]at h;refine(brF rfl).trans ((biS i4).trans ?_);cases h4:isW [40] l
     ·rw[h4]at h;cases h;refine(brF rfl).trans ?_;cases l with
      |nil=>
       have h0:decide (pos T []<((ET T).length:Int))=false:=jAe (by rw[qjD,jA5];omega);rw[h0];exact(biS (v:=false) rfl).trans ((brF rfl).trans ((biS (v:=false) rfl).trans ((brF rfl).trans rfl)))
      |cons t r=>
       rw[qFV hl,qyI hl,kindP hl,quJ hl];rw[qwo,hn];cases k1:(t.kind==1)
       ·refine(biS (v:=false) rfl).trans ((brF rfl).trans ?_);cases k3:(t.kind==3)
        ·exact(biS (v:=false) rfl).trans ((brF rfl).trans rfl)
        ·refine(biS (v:=true) rfl).trans ((brT rfl).trans ((brT rfl).trans ?_));have hbt:=hb t (hl.subset (by simp));refine(biS (qlC hbt)).trans ?_;cases hr:((qbh t.text).2==0)
         ·exact(brF rfl).trans rfl
         ·refine(brT rfl).trans ?_;show some (3,(qbh t.text).1,[],[],IntKind.i64.wrap (pos T (t::r)+1),true)=_;rw[qbL hl hT];rfl
       ·refine(biS (v:=true) rfl).trans ((brT rfl).trans ((brT rfl).trans ?_));show some (4,0,t.text,[],IntKind.i64.wrap (pos T (t::r)+1),true)=_;rw[qbL hl hT];rfl
     ·rw[h4]at h;simp only[jAa]at h;have w:=qgI hT hl h4;have s0:=qaI hl;refine(brT rfl).trans ?_;rcases qbs h with⟨r,hb2,rfl⟩|⟨a,r,hb2,h⟩
      ·have hc:=ih _ _ _ hb2 s0 K (by omega);simp only[AtR]at hc;rw[<-w]at hc;exact(biS hc).trans ((biS (v:=true) rfl).trans ((brT rfl).trans rfl))
      ·have hc:=ih _ _ _ hb2 s0 K (by omega);simp only[AtR]at hc;rw[<-w]at hc;have s1:=qgj hb2 s0;have i5:=qa4 (k:=4) rfl s1 (s:=[41]);refine(biS hc).trans ?_;rcases qcg h with⟨hw,rfl⟩|⟨hw,h⟩
       ·rw[hw]at i5;refine(biS (v:=true) ?_).trans ((brT rfl).trans rfl);show br (!true) (some true) (br (sm (qbc (ET T) (pos T r) 4 [41])) (some (!gv (qbc (ET T) (pos T r) 4 [41]))) none)=_;rw[i5];rfl
       ·rw[hw]at i5;cases h;refine(biS (v:=false) ?_).trans ((brF rfl).trans ?_)
        ·show br (!true) (some true) (br (sm (qbc (ET T) (pos T r) 4 [41])) (some (!gv (qbc (ET T) (pos T r) 4 [41]))) none)=_;rw[i5];rfl
        ·show some (a.op,a.num,a.txt,EX a.args,IntKind.i64.wrap (pos T r+1),true)=_;rw[qgI hT s1 hw];rfl
    ·rw[h3]at h;simp only[jAa]at h;refine(brT rfl).trans ?_;have hc:=hpair 18 _ _ h3 h;exact(biS hc).trans (by cases x<;>rfl)
   ·rw[h2]at h;simp only[jAa]at h;refine(brT rfl).trans ?_;have hc:=hpair 17 _ _ h2 h;exact(biS hc).trans (by cases x<;>rfl)
  ·rw[h1]at h;simp only[jAa]at h;refine(brT rfl).trans ?_;have w:=qgI hT hl h1;have s0:=qaI hl;rw[w];cases hn2:numAt l.tail with
   |none=>
    rw[hn2]at h;cases h;obtain⟨v1,hn3⟩:=qBQ hb s0 hn2;exact(biS hn3).trans ((brT rfl).trans rfl)
   |some v=>
    rw[hn2]at h;cases h;refine(biS (qBR hb s0 hn2)).trans ((brF rfl).trans ?_);obtain⟨t,r,rfl⟩:=qbt h1;cases r with
    |nil=>cases hn2
    |cons u r=>
     show some (2,v,[],[],IntKind.i64.wrap (pos T (t::u::r)+2),true)=_;have e:=qbL s0 hT;have e0:=qbL hl hT;have b1:=hl.length_le;simp only[jA0]at b1;have e2:IntKind.i64.wrap (pos T (t::u::r)+2)=pos T r:=by
      unfold pos;rw[wrap64 (by omega) (by omega)];simp only[jA0];omega
     rw[e2];rfl
theorem qFk{o:Option qfD}{x:Rs}(h:o=some (rsR T x)):(DT.bi o (fun y1=>DT.at ((y1.fst,y1.snd.fst,y1.snd.snd.fst,y1.snd.snd.snd.fst,y1.snd.snd.snd.snd.fst,y1.snd.snd.snd.snd.snd):qfD)) DT.no).ev=some (rsR T x):=by
 subst h;rfl
theorem zkt(hT:T.length<=1000000)(hb:∀t∈T,t.text.length<=1000000):∀n m l x,prs n m l=some x->l <:+ T-> ∀K,3*n<=K->AtR T l x K m:=by
 intro n
 induction n with
 |zero=>intro m l x h;cases h
 |succ n ih=>
  intro m l x h hl K hK;cases m with
  |lp k e=>exact zjM hT (fun m l x h hl=>ih m l x h hl K (by omega)) h hl
  |cmp=>
   obtain⟨K,rfl⟩:∃J,K=J+1:=⟨K-1,by omega⟩;exact qZB hT (fun m l x h hl=>ih m l x h hl K (by omega)) (k:=2) rfl (by decide) (by decide) (by decide) (by decide) (by decide) h hl
  |ex=>
   obtain⟨K,rfl⟩:∃J,K=J+1+1:=⟨K-2,by omega⟩;have i1:=qa4 (k:=5) rfl hl (s:=[105,102]);rw[qwH]at h;cases hi:isW [105,102] l
   ·rw[hi]at h i1;generalize hK1:K+1=K1;show(qbM (qab K1).1 (qab K1).2.1 (qab K1).2.2.1 (qab K1).2.2.2.1 (qab K1).2.2.2.2 (ET T) (pos T l) 0).ev=_;rw[qbM,i1];refine(biS (v:=false) rfl).trans ((brF rfl).trans ((brT rfl).trans (qFk ?_)));exact ih (.bin 0) _ _ h hl K1 (by omega) (by decide)
   ·rw[hi]at h i1;have hc:=zc3 hT (fun m l x h hl=>ih m l x h hl K (by omega)) hi h hl;generalize K+1=K1 at hc;show(qbM (qab K1).1 (qab K1).2.1 (qab K1).2.2.1 (qab K1).2.2.2.1 (qab K1).2.2.2.2 (ET T) (pos T l) 0).ev=_;rw[qbM,i1];exact(biS (v:=true) rfl).trans ((brT rfl).trans (qFk hc))
  |neg=>
   obtain⟨K,rfl⟩:∃J,K=J+1+1:=⟨K-2,by omega⟩;have i1:=qa4 (k:=4) rfl hl (s:=[45]);rw[qnY]at h;cases hi:isW [45] l
   ·rw[hi]at h i1;generalize hK1:K+1=K1;show(qbM (qab K1).1 (qab K1).2.1 (qab K1).2.2.1 (qab K1).2.2.2.1 (qab K1).2.2.2.2 (ET T) (pos T l) 7).ev=_;rw[qbM,i1];refine(biS (v:=false) rfl).trans ((brF rfl).trans ((brF rfl).trans ((biS (v:=false) rfl).trans ((brF rfl).trans ((biS (v:=false) rfl).trans ((brF rfl).trans ((biS (v:=true) rfl).trans ((brT rfl).trans (qFk ?_)))))))));exact ih .prim _ _ h hl K1 (by omega)
   ·rw[hi]at h i1;have hu:(qab (K+1)).2.2.1 (ET T) (pos T l) 7 9=some (rsR T x):=by
     rcases qbs h with⟨r,hb2,rfl⟩|⟨a,r,hb2,h⟩
     ·exact qCP (qgI hT hl hi) (ih .neg _ _ hb2 (qaI hl) K (by omega))
     ·cases h;exact qKI (qgI hT hl hi) (ih .neg _ _ hb2 (qaI hl) K (by omega))
    generalize K+1=K1 at hu;show(qbM (qab K1).1 (qab K1).2.1 (qab K1).2.2.1 (qab K1).2.2.2.1 (qab K1).2.2.2.2 (ET T) (pos T l) 7).ev=_;rw[qbM,i1];exact(biS (v:=false) rfl).trans ((brF rfl).trans ((brF rfl).trans ((biS (v:=false) rfl).trans ((brF rfl).trans ((biS (v:=true) rfl).trans ((brT rfl).trans (qFk hu)))))))
  |prim=>
   obtain⟨K,rfl⟩:∃J,K=J+1+1:=⟨K-2,by omega⟩;have hp:=q38 hT hb ih (K:=K) (by omega) h hl;generalize K+1=K1 at hp;show(qbM (qab K1).1 (qab K1).2.1 (qab K1).2.2.1 (qab K1).2.2.2.1 (qab K1).2.2.2.2 (ET T) (pos T l) 8).ev=_;rw[qbM];exact(biS (v:=false) rfl).trans ((brF rfl).trans ((brF rfl).trans ((biS (v:=false) rfl).trans ((brF rfl).trans ((biS (v:=false) rfl).trans ((brF rfl).trans ((biS (v:=false) rfl).trans ((brF rfl).trans ((brT rfl).trans (qFk hp))))))))))
  |bin k=>
   intro hk5;rw[qnX]at h;cases h5:(k==5)
   ·rw[h5]at h;simp only[jA9]at h;have n5:k≠5:=by simpa using h5
    cases h2:(k==2)
    ·rw[h2]at h;obtain⟨K,rfl⟩:∃J,K=J+1:=⟨K-1,by omega⟩;have n2:k≠2:=by simpa using h2
     have hkk:k=0\/k=1\/k=3\/k=4:=by omega
     rcases hkk with rfl|rfl|rfl|rfl<;>exact qZB hT (fun m l x h hl=>ih m l x h hl K (by omega)) rfl (by decide) (by decide) (by decide) (by decide) (by decide) h hl
    ·rw[h2]at h;simp only[jAa]at h;have e2:k=2:=by simpa using h2
     subst e2;obtain⟨K,rfl⟩:∃J,K=J+1+1:=⟨K-2,by omega⟩;have i1:=qa4 (k:=5) rfl hl (s:=[110,111,116]);cases hi:isW [110,111,116] l
     ·rw[hi]at h i1;generalize hK1:K+1=K1;show(qbM (qab K1).1 (qab K1).2.1 (qab K1).2.2.1 (qab K1).2.2.2.1 (qab K1).2.2.2.2 (ET T) (pos T l) 3).ev=_;rw[qbM,i1];refine(biS (v:=false) rfl).trans ((brF rfl).trans ((brF rfl).trans ((biS (v:=false) rfl).trans ((brF rfl).trans ((biS (v:=false) rfl).trans ((brF rfl).trans ((biS (v:=true) rfl).trans ((brT rfl).trans (qFk ?_)))))))));exact ih .cmp _ _ h hl K1 (by omega)
     ·rw[hi]at h i1;have hu:(qab (K+1)).2.2.1 (ET T) (pos T l) 3 16=some (rsR T x):=by
       rcases qbs h with⟨r,hb2,rfl⟩|⟨a,r,hb2,h⟩
       ·exact qCP (qgI hT hl hi) (ih (.bin 2) _ _ hb2 (qaI hl) K (by omega) (by decide))
       ·cases h;exact qKI (qgI hT hl hi) (ih (.bin 2) _ _ hb2 (qaI hl) K (by omega) (by decide))
      generalize K+1=K1 at hu;show(qbM (qab K1).1 (qab K1).2.1 (qab K1).2.2.1 (qab K1).2.2.2.1 (qab K1).2.2.2.2 (ET T) (pos T l) 3).ev=_;rw[qbM,i1];exact(biS (v:=false) rfl).trans ((brF rfl).trans ((brF rfl).trans ((biS (v:=true) rfl).trans ((brT rfl).trans (qFk hu)))))
   ·rw[h5]at h;simp only[jAa]at h;have e5:k=5:=by simpa using h5
    subst e5;exact ih .neg _ _ h hl K (by omega)
theorem qE2(hT:T.length<=1000000)(hb:∀t∈T,t.text.length<=1000000){l:List Tok}{x:Rs}(h:Ev .ex l x)(hl:l <:+ T):qxV (ET T) (pos T l) 0=some (rsR T x):=by
 obtain⟨n,hn⟩:=h;exact qdz (n:=3*n) fun m hm=>zkt hT hb n .ex l x hn hl m hm
theorem q3L(k:Int)(e:Ex)(r:List Tok):qpv T k (.ok e r)=bif qaJ e==0 then(e.op,e.num,e.txt,EX e.args,pos T r,0)else zaK k (qaJ e):=rfl
theorem qE1(hT:T.length<=1000000)(hb:∀t∈T,t.text.length<=1000000)(k:Int):qsf (ET T) k=some (qKa T k):=by
 rw[qMb,qqL,jA5];unfold qKa;by_cases hk:k<0\/(T.length:Int)<k
 ·rw[jAr hk];refine(biS (v:=true) ?_).trans ((brT rfl).trans rfl);rcases hk with hk|hk
  ·rw[jA8 hk];rfl
  ·rw[show decide (k>(T.length:Int))=true from jA8 hk];cases decide (k<0)<;>rfl
 ·rw[jAm hk];have h1:¬(k<0):=fun h=>hk (.inl h)
  have h2:¬(k>(T.length:Int)):=fun h=>hk (.inr h)
  have hp:=qKd (T:=T) (k:=k) (by omega) (by omega);have hl:T.drop k.toNat <:+ T:=List.drop_suffix _ _;have hv:=qE2 hT hb (qoR (T.drop k.toNat)) hl;have hgood:=(qoR (T.drop k.toNat)).good;rw[hp]at hv;refine(biS (v:=false) (by rw[jAe h1,jAe h2];rfl)).trans ((brF rfl).trans ((biS hv).trans ?_));revert hgood;generalize exS (T.drop k.toNat)=x;intro hgood;cases x with
  |bad r=>exact(brT rfl).trans rfl
  |ok e r=>
   have hn:e.nodes<=1000000:=by
    have h1:=hgood.2;have h2:=hl.length_le;simp only[wtM]at h1;omega
   refine(brF rfl).trans ((biS (qEA (zll (by simp only[big];omega)))).trans ?_);rw[q3L];cases h0:(qaJ e==0)
   ·exact(brT (by rw[bne,h0];rfl)).trans rfl
   ·exact(brF (by rw[bne,h0];rfl)).trans rfl
end
abbrev StR:=List AV×Int×Int
def stR(T:List Tok):PS->StR
 | .good l=>(ET T,pos T l,0)
 | .bad q e _=>(ET T,pos T q,e)
section
variable {T:List Tok}
theorem qmy(e:Int){q:List Tok}{p:PS}(hp:p.Ok T):qbN (stR T p).1 (stR T p).2.1 (stR T p).2.2 (pos T q) e=some (stR T (zdm (T:=T) q e p)):=by
 rw[qvE,qm4];cases p with
 |bad q e a=>exact(brF (qAL hp.1)).trans rfl
 |good l=>exact(brT rfl).trans rfl
theorem qXv(e k:Int){p:PS}(hp:p.Ok T)(hb:∀l,p≠ .good l):qbN (stR T p).1 (stR T p).2.1 (stR T p).2.2 k e=some (stR T p):=by
 rw[qvE,qm4];cases p with
 |bad q e a=>exact(brF (qAL hp.1)).trans rfl
 |good l=>exact absurd rfl (hb l)
theorem qKh(e:Int){p:PS}(hp:p.Ok T):qbN (stR T p).1 (stR T p).2.1 (stR T p).2.2 (stR T p).2.1 e=some (stR T (qFl (T:=T) e p)):=by
 cases p with
 |bad q e' a=>exact qXv e _ hp (fun l h=>nomatch h)
 |good l=>exact qmy e hp
theorem qmz{s:Bs}{k:Int}(hk:qcu s=k){p:PS}(hp:p.Ok T):qdu (stR T p).1 (stR T p).2.1 (stR T p).2.2 k s=some (ql1 s p):=by
 rw[qMs,qq3];cases p with
 |bad q e a=>
  refine(biS (v:=false) ?_).trans ((biS (v:=false) rfl).trans ((biS (v:=false) rfl).trans rfl));show br (e==0) _ _=_;rw[qAL hp.1];rfl
 |good l=>
  cases l with
  |nil=>
   refine(biS (v:=false) ?_).trans ((biS (v:=false) rfl).trans ((biS (v:=false) rfl).trans rfl));show br ((0:Int)==0) (some (decide (pos T []<((ET T).length:Int)))) _=_;rw[qJP];rfl
  |cons t l=>
   have hi:isW s (t::l)=(t.text==s&&t.kind==qcu s):=rfl;rw[hk]at hi;refine(biS (v:=true) ?_).trans ((biS (v:=t.kind==k) ?_).trans ((biS (v:=t.kind==k&&t.text==s) ?_).trans ?_))
   ·show br ((0:Int)==0) (some (decide (pos T (t::l)<((ET T).length:Int)))) _=_;rw[zm7 hp];rfl
   ·show br true (br (qaG [CS.int IntKind.i64,CS.int IntKind.i64,CS.str] (ET T) (pos T (t::l))) (some (intOf (cellAt (ET T) (pos T (t::l)) 0)==k)) none) _=_;rw[qyI hp,kindP hp];rfl
   ·show br (t.kind==k) (br (qaG [CS.int IntKind.i64,CS.int IntKind.i64,CS.str] (ET T) (pos T (t::l))) (some (strOf (cellAt (ET T) (pos T (t::l)) 2)==s)) none) _=_;rw[qyI hp,quJ hp];cases(t.kind==k)<;>rfl
   ·show some (t.kind==k&&t.text==s)=some (isW s (t::l));rw[hi,Bool.and_comm]
theorem qcI(hT:T.length<=1000000){s:Bs}{k:Int}(hk:qcu s=k){p:PS}(hp:p.Ok T):qaM (stR T p).1 (stR T p).2.1 (stR T p).2.2 k s=some (stR T (qph (T:=T) s p)):=by
 rw[qLW,qqw];cases p with
 |bad q e a=>exact(brT (ql9 hp.1)).trans rfl
 |good l=>
  refine(brF rfl).trans ((biS (qmz hk hp)).trans ?_);rw[qoL];show(DT.br (!isW s l) _ _).ev=_;cases hi:isW s l
  ·exact(brT rfl).trans ((biS (qKh 2 (p:=.good l) hp)).trans rfl)
  ·obtain⟨t,l',rfl⟩:=qbt hi;refine(brF rfl).trans ?_;show some (ET T,IntKind.i64.wrap (pos T (t::l')+1),(0:Int))=_;rw[qbL hp hT];rfl
theorem qkl(hT:T.length<=1000000){p:PS}(hp:p.Ok T):qcy (stR T p).1 (stR T p).2.1 (stR T p).2.2=some (stR T (qph (T:=T) [59] p)):=by
 rw[qLU,qqu];exact(biS (qcI hT (s:=[59]) (k:=4) rfl hp)).trans rfl
theorem qtK(hT:T.length<=1000000)(hv:∀t∈T,qaP t=true)(k:Int){p:PS}(hp:p.Ok T):∃v p',qc3 (stR T p).1 (stR T p).2.1 (stR T p).2.2 k=some ((stR T p').1,(stR T p').2.1,(stR T p').2.2,v)/\Does T (qcO k) Eq p v p'/\(v= []\/qaP ⟨k,0,v⟩=true)/\((∀l,p'≠ .good l)->v= []):=by
 rw[qMt,qq4];have no:∀{l:List Tok},l <:+ T->qcO k l= .bad l 2-> ∃v p',(DT.bi (qbN (ET T) (pos T l) 0 (pos T l) 2) (fun y1=>DT.at ((y1.fst,y1.snd.fst,y1.snd.snd,[]):qDm)) .no).ev=some ((stR T p').1,(stR T p').2.1,(stR T p').2.2,v)/\Does T (qcO k) Eq (.good l) v p'/\(v= []\/qaP ⟨k,0,v⟩=true)/\((∀l,p'≠ .good l)->v= []):=by
  intro l hl hz;refine⟨[],.bad l 2 (pos T l),(biS (qKh 2 (p:=.good l) hl)).trans rfl,⟨⟨by decide,hl⟩,?_⟩,.inl rfl,fun _=>rfl⟩;dsimp only;rw[hz];exact⟨_,rfl⟩
 cases p with
 |bad q e a=>exact⟨[],.bad q e a,(brT (ql9 hp.1)).trans rfl,⟨hp,a,rfl⟩,.inl rfl,fun _=>rfl⟩
 |good l=>
  cases l with
  |nil=>
   obtain⟨v,p',h1,h2⟩:=no (l:=[]) hp rfl;have htest:br (decide (pos T []>=((ET T).length:Int))) (some true) (br (qaG [CS.int IntKind.i64,CS.int IntKind.i64,CS.str] (ET T) (pos T [])) (some (intOf (cellAt (ET T) (pos T []) 0) != k)) none)=some true:=by
    rw[jA8 (by rw[qjD,jA5];omega)];rfl
   exact⟨v,p',(brF rfl).trans ((biS htest).trans ((brT rfl).trans h1)),h2⟩
  |cons t l=>
   have hge:decide (pos T (t::l)>=((ET T).length:Int))=false:=by rw[jA5];exact qHH hp
   have htest:br (decide (pos T (t::l)>=((ET T).length:Int))) (some true) (br (qaG [CS.int IntKind.i64,CS.int IntKind.i64,CS.str] (ET T) (pos T (t::l))) (some (intOf (cellAt (ET T) (pos T (t::l)) 0) != k)) none)=some (t.kind != k):=by
    rw[hge,qyI hp,kindP hp];rfl
   cases hk:(t.kind==k)
   ·obtain⟨v,p',h1,h2⟩:=no (l:=t::l) hp (by simp only[qcO,hk];rfl);exact⟨v,p',(brF rfl).trans ((biS htest).trans ((brT (by rw[bne,hk];rfl)).trans h1)),h2⟩
   ·refine⟨t.text,.good l,(brF rfl).trans ((biS htest).trans ((brF (by rw[bne,hk];rfl)).trans ((brT (qyI hp)).trans ?_))),⟨qaI hp,?_⟩,.inr ?_,fun h=>absurd rfl (h l)⟩
    ·show some (ET T,IntKind.i64.wrap (pos T (t::l)+1),(0:Int),strOf (cellAt (ET T) (pos T (t::l)) 2))=_;rw[quJ hp,qbL hp hT];rfl
    ·dsimp only;simp[qcO,hk]
    ·have hk':t.kind=k:=by simpa using hk
     have:=hv t (hp.subset (by simp));rw[<-hk'];exact this
theorem qkm(hT:T.length<=1000000)(hv:∀t∈T,qaP t=true){p:PS}(hp:p.Ok T):∃v p',qfM (stR T p).1 (stR T p).2.1 (stR T p).2.2=some ((stR T p').1,(stR T p').2.1,(stR T p').2.2,v)/\Does T qpc Eq p v p':=by
 obtain⟨s,p',h1,D,hs,hb⟩:=qtK hT hv 2 hp;have hl:=qwp hs;obtain⟨n,e,h2,h3⟩:=qrQ (s:=s) (by simp only[big];omega);rw[qK6,qpI];have D2:=D.2;have stop:(∀l,p'≠ .good l)-> ∃v,(DT.bi (br ((stR T p').2.2==0) (some (e != 0)) (some false)) (fun y2=>DT.br y2 (.bi (qbN (stR T p').1 (stR T p').2.1 (stR T p').2.2 (stR T p).2.1 2) (fun y3=>.at ((y3.fst,y3.snd.fst,y3.snd.snd,0):qC1)) .no) (.at ((stR T p').1,(stR T p').2.1,(stR T p').2.2,n))) .no).ev=some ((stR T p').1,(stR T p').2.1,(stR T p').2.2,v):=by
  intro hg;cases p' with
  |good l=>exact absurd rfl (hg l)
  |bad q e a=>exact⟨n,(biS (v:=false) (by show br (e==0) _ _=_;rw[qAL D.ok.1];rfl)).trans ((brF rfl).trans rfl)⟩
 cases p with
 |bad q e' a=>
  obtain⟨k,rfl⟩:=D2;obtain⟨v,g⟩:=stop (fun l h=>nomatch h);exact⟨v,_,(biS h1).trans ((biS h2).trans g),D.ok,k,rfl⟩
 |good l=>
  dsimp only at D2;cases l with
  |nil=>
   obtain⟨k,rfl⟩:=D2;obtain⟨v,g⟩:=stop (fun l h=>nomatch h);exact⟨v,_,(biS h1).trans ((biS h2).trans g),D.ok,k,rfl⟩
  |cons t l=>
   have hn:qpc (t::l)=match (bif t.kind==2 then qjA t.text else none)with|some n=>.ok n l|none=>.bad (t::l) 2:=rfl
   simp only[qcO]at D2;cases hk:(t.kind==2)
   ·rw[hk]at D2 hn;obtain⟨k,rfl⟩:=D2;obtain⟨v,g⟩:=stop (fun l h=>nomatch h);exact⟨v,_,(biS h1).trans ((biS h2).trans g),D.ok,by dsimp only;rw[hn];exact⟨k,rfl⟩⟩
   ·rw[hk]at D2 hn;obtain⟨e1,rfl⟩:=D2;obtain⟨m,hm⟩:=q7Z (hv t (hp.subset (by simp))) (by simpa using hk);rw[<-e1,hm]at h3;obtain⟨rfl,rfl⟩:=h3;refine⟨n,.good l,(biS h1).trans ((biS h2).trans ((biS (v:=false) rfl).trans ((brF rfl).trans rfl))),D.ok,?_⟩;dsimp only;rw[hn,jAa,hm];exact⟨rfl,rfl⟩
theorem q8X(hT:T.length<=1000000)(hv:∀t∈T,qaP t=true){p:PS}(hp:p.Ok T):∃v p',qlp (stR T p).1 (stR T p).2.1 (stR T p).2.2=some ((stR T p').1,(stR T p').2.1,(stR T p').2.2,v)/\Does T qkT Eq p v p':=by
 obtain⟨s,p',h1,D,hs,hb⟩:=qtK hT hv 3 hp;have hl:=qwp hs;have h2:=qlC (s:=s) (by omega);rw[qLt,qp4];have D2:=D.2;have stop:(∀l,p'≠ .good l)-> ∃v,(DT.bi (br ((stR T p').2.2==0) (some ((qbh s).2 != 0)) (some false)) (fun y2=>DT.br y2 (.bi (qbN (stR T p').1 (stR T p').2.1 (stR T p').2.2 (stR T p).2.1 2) (fun y3=>.at ((y3.fst,y3.snd.fst,y3.snd.snd,0):qC8)) .no) (.at ((stR T p').1,(stR T p').2.1,(stR T p').2.2,(qbh s).1))) .no).ev=some ((stR T p').1,(stR T p').2.1,(stR T p').2.2,v):=by
  intro hg;cases p' with
  |good l=>exact absurd rfl (hg l)
  |bad q e a=>exact⟨_,(biS (v:=false) (by show br (e==0) _ _=_;rw[qAL D.ok.1];rfl)).trans ((brF rfl).trans rfl)⟩
 cases p with
 |bad q e' a=>
  obtain⟨k,rfl⟩:=D2;obtain⟨v,g⟩:=stop (fun l h=>nomatch h);exact⟨v,_,(biS h1).trans ((biS h2).trans g),D.ok,k,rfl⟩
 |good l=>
  dsimp only at D2;cases l with
  |nil=>
   obtain⟨k,rfl⟩:=D2;obtain⟨v,g⟩:=stop (fun l h=>nomatch h);exact⟨v,_,(biS h1).trans ((biS h2).trans g),D.ok,k,rfl⟩
  |cons t l=>
   have hn:qkT (t::l)=bif t.kind==3&&(qbh t.text).2==0 then .ok (qbh t.text).1 l else .bad (t::l) 2:=rfl
   simp only[qcO]at D2;cases hk:(t.kind==3)
   ·rw[hk]at D2 hn;obtain⟨k,rfl⟩:=D2;obtain⟨v,g⟩:=stop (fun l h=>nomatch h);exact⟨v,_,(biS h1).trans ((biS h2).trans g),D.ok,by dsimp only;rw[hn];exact⟨k,rfl⟩⟩
   ·rw[hk]at D2 hn;obtain⟨e1,rfl⟩:=D2;have hr:=qKi (hv t (hp.subset (by simp))) (by simpa using hk);have hr':((qbh t.text).2==0)=true:=by rw[hr];rfl
    rw[hr',jBt,jAa]at hn;refine⟨(qbh s).1,.good l,(biS h1).trans ((biS h2).trans ((biS (v:=false) ?_).trans ((brF rfl).trans rfl))),D.ok,?_⟩
    ·show br ((0:Int)==0) (some ((qbh s).2 != 0)) _=_;rw[<-e1,hr];rfl
    ·dsimp only;rw[hn];exact⟨by rw[e1],rfl⟩
theorem zlo{x:Int}(h1:0<=x)(h2:x<=255):IntKind.u8.wrap x=x:=by
 simp[IntKind.wrap,IntKind.signed,IntKind.bits];omega
theorem q2J{c:UInt8}(h:at8 qei c=true):∃k:Nat,k<26/\c.toNat=97+k/\c-32=UInt8.ofNat (65+k):=by
 unfold at8 qei at h;simp only[jA1,jA6]at h;refine⟨c.toNat-97,by omega,by omega,?_⟩;apply UInt8.toNat_inj.1;rw[UInt8.toNat_sub,UInt8.toNat_ofNat'];have:(32:UInt8).toNat=32:=rfl;omega
abbrev qgM:Bs:=[97,98,99,100,101,102,103,104,105,106,107,108,109,110,111,112,113,114,115,116,117,118,119,120,121,122]
abbrev bigL:Bs:=[65,66,67,68,69,70,71,72,73,74,75,76,77,78,79,80,81,82,83,84,85,86,87,88,89,90]
theorem ztc:∀k:Nat,k<26->(bigL.drop k).take 1= [UInt8.ofNat (65+k)]:=by decide
theorem qTL{s:Bs}(hs:s.length<=2048):∀(k n:Nat),n+k=s.length->(s.take n).all (at8 qei)=true-> ∃w,qae (fun v=>(qgN v).ev) (s,(s.take n).map (fun c=>c-32),qgM,bigL,(n:Int))=some (bif s.all (at8 qei)then 1 else 0,w)/\(s.all (at8 qei)=true->w=(s,s.map (fun c=>c-32),qgM,bigL,(s.length:Int))):=by
 intro k
 induction k with
 |zero=>
  intro n hn ha;have e:n=s.length:=by omega
  subst e;rw[List.take_length]at ha ⊢;rw[ha];refine⟨_,qaf ?_,fun _=>rfl⟩;show(qdY s _ qgM bigL (s.length:Int)).ev=_;rw[qdY];exact(brF (by simp)).trans rfl
 |succ k ih=>
  intro n hn ha;have h:n<s.length:=by omega
  have hb:qal s (n:Int)=(s[n].toNat:Int):=by rw[qKR];simp[h]
  have htk:s.take (n+1)=s.take n++[s[n]]:=List.take_succ_eq_append_getElem h;cases hc:at8 qei s[n]
  ·have hall:s.all (at8 qei)=false:=by
    cases hq:s.all (at8 qei)
    ·rfl
    ·have:=jAb.1 hq s[n] (jAi h);rw[hc]at this;cases this
   rw[hall];refine⟨_,qaf ?_,fun h=>by cases h⟩;show(qdY s _ qgM bigL (n:Int)).ev=_;rw[qdY];refine(brT (qa0 h)).trans ((brT (qa5 h)).trans ?_);rw[hb,qa5 h];refine(biS (v:=true) ?_).trans ((brT rfl).trans rfl);unfold at8 qei at hc;by_cases h1:((s[n].toNat:Int)<97)
   ·rw[jA8 h1];rfl
   ·rw[jAe h1];have:decide ((s[n].toNat:Int)>122)=true:=by
     rw[jA8 (p:=(s[n].toNat:Int)>=97) (by omega),jBm]at hc;have:=of_decide_eq_false hc;exact jA8 (by omega)
    rw[this];rfl
  ·obtain⟨j,hj,e1,e2⟩:=q2J hc;rw[qaq (v':=(s,(s.take (n+1)).map (fun c=>c-32),qgM,bigL,((n+1:Nat):Int))) ?_]
   ·exact ih (n+1) (by omega) (by rw[htk,jCk,ha];simp[hc])
   ·show(qdY s _ qgM bigL (n:Int)).ev=_;rw[qdY];refine(brT (qa0 h)).trans ((brT (qa5 h)).trans ?_);have hw:IntKind.u8.wrap (qal s (n:Int)-qal qgM 0)=(j:Int):=by
     rw[hb,show qal qgM 0=97 from rfl,e1];rw[show((97+j:Nat):Int)-97=(j:Int) by omega];exact zlo (by omega) (by omega)
    have hw1:IntKind.i64.wrap (j:Int)=(j:Int):=qpj (by omega) (by omega);have hw2:IntKind.i64.wrap ((j:Int)+1)=((j+1:Nat):Int):=by rw[qpj (by omega) (by omega)];omega
    rw[hw,hw1,hw2,hb,e1];refine(biS (v:=false) ?_).trans ((brF rfl).trans ((brT (qa5 h)).trans ((brT rfl).trans ((brT ?_).trans ?_))))
    ·rw[jAe (by omega),qa5 h,jAe (by omega)];rfl
    ·rw[show bigL.length=26 from rfl,show((j+1:Nat):Int).toNat=j+1 by omega,show(26:Nat)=((26:Nat))from rfl];rw[qbj (by omega),qbj (by omega)];rfl
    ·have ht:List.take (((j+1:Nat):Int).toNat-((j:Int)).toNat) (List.drop ((j:Int)).toNat bigL)= [s[n]-32]:=by
      rw[show((j+1:Nat):Int).toNat-((j:Int)).toNat=1 by omega,show((j:Int)).toNat=j by omega,ztc j hj,e2]
     rw[ht];refine(brT (jA8 ?_)).trans ?_
     ·simp only[jA5,List.length_take,jA0,jA4];omega
     ·show some (Rd.next (s,(s.take n).map (fun c=>c-32)++[s[n]-32],qgM,bigL,IntKind.i64.wrap ((n:Int)+1)))=_;rw[qpj (by omega) (by omega),htk,jCi];rfl
theorem qXt{s:Bs}(hs:s.length<=2048):∃c b,qrR s=some (c,b)/\qvr s=bif b then some c else none:=by
 rw[qLE,qqf,qvW];obtain⟨w,h1,h2⟩:=qTL hs s.length 0 (by omega) rfl;have h1':qae (fun v=>(qgN v).ev) (s,[],qgM,bigL,0)=some (bif s.all (at8 qei)then 1 else 0,w):=h1;have e:(s.all (at8 fun c=>decide (c>=97)&&decide (c<=122)))=s.all (at8 qei):=rfl;cases ha:s.all (at8 qei)
 ·rw[ha]at h1';refine⟨[],false,(biS (v:=w) ?_).trans rfl,?_⟩
  ·show pj 0 (qae (fun v=>(qgN v).ev) (s,[],qgM,bigL,0))=_;rw[h1'];rfl
  ·unfold qvr;rw[e,ha];simp
 ·rw[ha]at h1';have hw:=h2 ha;subst hw;refine⟨s.map fun c=>c-32,((s.length:Int)==3),(biN ?_).trans ((biS (v:=(s,s.map (fun c=>c-32),qgM,bigL,(s.length:Int))) ?_).trans rfl),?_⟩
  ·show pj 0 (qae (fun v=>(qgN v).ev) (s,[],qgM,bigL,0))=_;rw[h1'];rfl
  ·show pj 1 (qae (fun v=>(qgN v).ev) (s,[],qgM,bigL,0))=_;rw[h1'];rfl
  ·unfold qvr;rw[e,ha];by_cases h3:s.length=3
   ·rw[jAr ⟨h3,rfl⟩,h3];rfl
   ·rw[jAm fun h=>h3 h.1];have:((s.length:Int)==3)=false:=by rw[jBj];omega
    rw[this];rfl
theorem zkl(hT:T.length<=1000000)(hv:∀t∈T,qaP t=true){p:PS}(hp:p.Ok T):∃v p',qBg (stR T p).1 (stR T p).2.1 (stR T p).2.2=some ((stR T p').1,(stR T p').2.1,(stR T p').2.2,v)/\Does T qgq Eq p v p':=by
 obtain⟨s,p',h1,D,hs,hb⟩:=qtK hT hv 1 hp;obtain⟨c,b,h2,h3⟩:=qXt (qwp hs);rw[qST,qAo];have D2:=D.2;have stop:∀{q:List Tok} {e k:Int},p'= .bad q e k->(DT.bi (br ((stR T p').2.2==0) (some !b) (some false)) (fun y2=>DT.br y2 (.bi (qbN (stR T p').1 (stR T p').2.1 (stR T p').2.2 (stR T p).2.1 2) (fun y3=>.at ((y3.fst,y3.snd.fst,y3.snd.snd,[]):qPU)) .no) (.at ((stR T p').1,(stR T p').2.1,(stR T p').2.2,c))) .no).ev=some ((stR T p').1,(stR T p').2.1,(stR T p').2.2,c):=by
  rintro q e k rfl;exact(biS (v:=false) (by show br (e==0) _ _=_;rw[qAL D.ok.1];rfl)).trans ((brF rfl).trans rfl)
 cases p with
 |bad q e a=>
  obtain⟨k',rfl⟩:=D2;exact⟨c,_,(biS h1).trans ((biS h2).trans (stop rfl)),D.ok,k',rfl⟩
 |good l=>
  dsimp only at D2;cases hz:qcO 1 l with
  |bad q e=>
   rw[hz]at D2;obtain⟨k',rfl⟩:=D2;have hzz:qgq l= .bad q e:=by unfold qgq;rw[hz];rfl
   exact⟨c,_,(biS h1).trans ((biS h2).trans (stop rfl)),D.ok,by dsimp only;rw[hzz];exact⟨k',rfl⟩⟩
  |ok s' r=>
   rw[hz]at D2;obtain⟨rfl,rfl⟩:=D2;have hzz:qgq l=match qvr s' with|some c=>Pz.ok c r|none=>.bad l 2:=by unfold qgq;rw[hz];rfl
   rw[h3]at hzz;cases b with
   |true=>
    refine⟨c,.good r,(biS h1).trans ((biS h2).trans ((biS (v:=false) rfl).trans ((brF rfl).trans rfl))),D.ok,?_⟩;dsimp only;rw[hzz];exact⟨rfl,rfl⟩
   |false=>
    refine⟨[],.bad l 2 (pos T r),(biS h1).trans ((biS h2).trans ((biS (v:=true) rfl).trans ((brT rfl).trans ((biS (qmy 2 (q:=l) (p:=.good r) D.ok)).trans rfl)))),⟨by decide,hp⟩,?_⟩;dsimp only;rw[hzz];exact⟨_,rfl⟩
end
end Go.Proofs.H16

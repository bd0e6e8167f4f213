/- The document's way of reading tokens is the program's. -/
import Derived.Test.YtjhhnkemeegahaaGreatDoorD16_1
import Derived.KernelRfl
import Derived.Test.YtjhhnkemeegahaaGreatDoorD16_7
import Derived.Test.YtjhhnkemeegahaaGreatDoorD16_10
import Derived.Test.YtjhhnkemeegahaaGreatDoorD16_12
import Derived.Test.YtjhhnkemeegahaaGreatDoorX16Tok
import Derived.Test.YtjhhnkemeegahaaGreatDoorTkA
import Derived.Test.YtjhhnkemeegahaaGreatDoorE3
set_option linter.all false
namespace Go.Proofs.H16
open Go Go.Eng Go.Tk
set_option maxRecDepth 20000
theorem qHK:qoT=some (ES wordsS):=by
 rw[qx9,qop];rfl
theorem qIA(s:Bs):qpg (s,ES wordsS,0)=some (qjX (s== ·) (fun _=>0) 1 wordsS,s,ES wordsS,((wordsS.findIdx (s== ·):Nat):Int)):=by
 rw[qph];refine qaH (hd:=fun n=>(s,ES wordsS,(n:Int))) (jx:=fun _=>0) (s== ·) 1 (fun n h=>?_) ?_
 ·have hb:wordsS.length<=big:=by decide
  have hl:decide ((n:Int)<((ES wordsS).length:Int))=true:=by rw[jA5];exact qaR h
  simp only[qjw,qiA,hl,qBh h,qs0 h,ev_br,ev_at,jAa,qan h hb];have:(wordsS[n]==s)=(s==wordsS[n]):=by rw[jC7,jB7,jB7];exact jBv
  rw[this];cases(s==wordsS[n])<;>rfl
 ·simp[qjw,qiA]
theorem quu(s:Bs):qe4 s=some (qbO s):=by
 rw[qya,qoq,qHK,ev_bi_some,qIA,qaP,qbO,has];cases wordsS.any (s== ·)<;>simp
theorem qfY{s:Bs}{n:Nat}(h:n<s.length)(k:UInt8):(qai s (n:Int)==(k.toNat:Int))=(s[n]==k):=by
 rw[qaX h,jC7,jB7,jB7,<-UInt8.toNat_inj];exact Int.ofNat_inj
theorem qIC{s:Bs}{n:Nat}(h:n<s.length):∃v,qvi (s,(n:Int),one13,0)=some ((bif one13.any (· == s[n])then 0 else 1),v):=by
 have:=qaH (st:=fun v=>(qlM v).ev) (l:=one13) (hd:=fun k=>(s,(n:Int),one13,(k:Int))) (jx:=fun _=>0) (· == s[n]) 1 (fun k hk=>by
  have hb:one13.length<=big:=by decide
  have e1:(qai one13 (k:Int)==qai s (n:Int))=(one13[k]==s[n]):=by
   rw[qaX hk,qaX h,jC7,jB7,jB7,<-UInt8.toNat_inj];exact Int.ofNat_inj
  simp only[qlM,qp8,qaR hk,qaW hk,qaW h,e1,ev_br,ev_at,jAa,qan hk hb];cases(one13[k]==s[n])<;>rfl) (by simp[qlM,qp8])
 rw[qaP]at this;rw[qyU];exact⟨_,this⟩
theorem qHY{s:Bs}(hl:s.length<=1000000){n:Nat}(h:n<s.length):qux s (n:Int)=some ((qlZ (s.drop n):Nat):Int):=by
 have hb:s.length<=big:=jAz hl (by decide);rw[qPl,qsU,qan h hb];have e61:(61:Int)=((61:UInt8).toNat:Int):=rfl;have e33:(33:Int)=((33:UInt8).toNat:Int):=rfl;have e60:(60:Int)=((60:UInt8).toNat:Int):=rfl;rw[drop_at h];have e13:([123,125,40,41,44,59,58,36,43,45,42,47,60]:List UInt8)=one13:=rfl;obtain⟨v,hv⟩:=qIC h;have c1:(qai s (n:Int)==61)=(s[n]==61):=qfY h 61;have c2:(qai s (n:Int)==33)=(s[n]==33):=qfY h 33;have c3:(qai s (n:Int)==60)=(s[n]==60):=qfY h 60;rw[e13,hv];unfold qlZ;by_cases h2:n+1<s.length
 ·have c4:(qai s ((n+1:Nat):Int)==61)=(s[n+1]==61):=qfY h2 61;simp only[qaR h2,qaW h2,qaW h,c1,c2,c3,c4,br_eq,jAa,ev_bi_some];rw[drop_at h2];cases hq:(s[n+1]==61&&(s[n]==61||(s[n]==33||s[n]==60)))
  ·rw[qMA (r:=s[n+1]::s.drop (n+1+1)) hq];have:(bif s[n+1]==61 then(bif s[n]==61 then some true else bif s[n]==33 then some true else some (s[n]==60))else some false)=some false:=by
    revert hq;cases(s[n+1]==61)<;>cases(s[n]==61)<;>cases(s[n]==33)<;>cases(s[n]==60)<;>simp
   rw[this];simp only[ev_bi_some,ev_br,jA9];cases one13.any (· == s[n])<;>rfl
  ·rw[q6n hq];have:(bif s[n+1]==61 then(bif s[n]==61 then some true else bif s[n]==33 then some true else some (s[n]==60))else some false)=some true:=by
    revert hq;cases(s[n+1]==61)<;>cases(s[n]==61)<;>cases(s[n]==33)<;>cases(s[n]==60)<;>simp
   rw[this];rfl
 ·have hd:s.drop (n+1)= []:=List.drop_eq_nil_of_le (by omega);rw[hd,qMA (r:=[]) rfl];simp only[qMw h2,br_eq,jA9,ev_bi_some,ev_br];cases one13.any (· == s[n])<;>rfl
theorem qUC{s:Bs}{n k:Nat}(hk:k<=(s.drop n).length):List.take ((((n+k:Nat):Int)).toNat-((n:Nat):Int).toNat) (List.drop ((n:Nat):Int).toNat s)=(s.drop n).take k:=by
 rw[jB5,jB5]
 congr 1;omega
theorem qHJ{s:Bs}(hl:s.length<=1000000){n:Nat}(h:n<s.length):∃k t,qdQ s (n:Int)=some (k,0,t,(ql9 (s.drop n)).2.2)/\((ql9 (s.drop n)).2.2=0->k=(ql9 (s.drop n)).1/\t=(ql9 (s.drop n)).2.1):=by
 have hb:s.length<=big:=jAz hl (by decide);rw[qOY,qsx];have hd:=drop_at h;have hln:(s.drop n).length=s.length-n:=by rw[jB0]
 have l1:=qg9 (p:=qQD false) (s.drop n);have l2:=qg9 (p:=qQD true) (s.drop n);have g1:leB (((n+((s.drop n).takeWhile (qQD false)).length:Nat)):Int) s.length=true:=qbg (by omega);have g2:leB ((n:Nat):Int) (((n+((s.drop n).takeWhile (qQD false)).length:Nat)):Int).toNat=true:=by rw[jB5];exact qbg (by omega)
 have g3:leB (((n+((s.drop n).takeWhile (qQD true)).length:Nat)):Int) s.length=true:=qbg (by omega);have g4:leB ((n:Nat):Int) (((n+((s.drop n).takeWhile (qQD true)).length:Nat)):Int).toNat=true:=by rw[jB5];exact qbg (by omega)
 simp only[qaW h,qaX h,qua,qgF,quC hb false (Nat.le_of_lt h),quC hb true (Nat.le_of_lt h),g1,g2,g3,g4,ev_br,ev_bi_some,jAa,qUC l1,qUC l2,qjE,Bool.and_self];have en:qQD false=at8 qcs:=rfl;have em:qQD true=at8 qcR:=rfl;rw[en,em]at *;have hr:ql9 (s.drop n)=(bif at8 qes s[n]then(bif qbO ((s.drop n).takeWhile (at8 qcs))then(5,(s.drop n).takeWhile (at8 qcs),0)else bif decide (((s.drop n).takeWhile (at8 qcs)).length>16)then(1,(s.drop n).takeWhile (at8 qcs),4)else(1,(s.drop n).takeWhile (at8 qcs),0))
  else bif at8 qbh s[n]then
   (bif qg5 ((s.drop n).takeWhile (at8 qcR))then(bif qhk ((s.drop n).takeWhile (at8 qcR))then(2,(s.drop n).takeWhile (at8 qcR),6)else(2,(s.drop n).takeWhile (at8 qcR),0))
   else bif !qo4 ((s.drop n).takeWhile (at8 qcR))then(3,(s.drop n).takeWhile (at8 qcR),2)else bif (qbm ((s.drop n).takeWhile (at8 qcR))).2 != 0 then(3,(s.drop n).takeWhile (at8 qcR),6)else(3,(s.drop n).takeWhile (at8 qcR),0))
  else bif qlZ (s.drop n)==0 then(0,[],2)else(4,(s.drop n).take (qlZ (s.drop n)),0)):=by
  conv=>lhs;rw[hd]
  rw[<-hd]
  conv=>lhs;unfold ql9
  rw[hd]
 rw[hr];show ∃k t,(bif at8 qes s[n]then _ else _)=_/\_;cases hlt:at8 qes s[n]
 ·simp only[jA9];show ∃k t,(bif at8 qbh s[n]then _ else _)=_/\_;cases hdg:at8 qbh s[n]
  ·simp only[jA9,qHY hl h,ev_bi_some];have e0:(((qlZ (s.drop n):Nat):Int)==0)=(qlZ (s.drop n)==0):=by
    rw[jC7,jB7,jB7];omega
   rw[ev_br,e0];have hmk:qlZ (s.drop n)<=(s.drop n).length:=by
    unfold qlZ;cases hf:marksS.find? (preB · (s.drop n))with
    |none=>simp
    |some m=>
     have:=congrArg List.length (qEp hf);rw[List.length_take]at this;show m.length<=(s.drop n).length;omega
   cases hm:(qlZ (s.drop n)==0)
   ·have hw:IntKind.i64.wrap ((n:Int)+((qlZ (s.drop n):Nat):Int))=((n+qlZ (s.drop n):Nat):Int):=by rw[wrap64 (by omega) (by omega)];push_cast;rfl
    have q1:leB ((n+qlZ (s.drop n):Nat):Int) s.length=true:=qbg (by omega);have q2:leB ((n:Nat):Int) (((n+qlZ (s.drop n):Nat)):Int).toNat=true:=by rw[jB5];exact qbg (by omega)
    simp only[jA9,hw,q1,q2,Bool.and_self,ev_br,jAa,qUC hmk,ev_at];exact⟨_,_,rfl,fun _=>⟨rfl,rfl⟩⟩
   ·exact⟨_,_,rfl,fun h=>by cases h⟩
  ·simp only[jAa];have hlt2:((s.drop n).takeWhile (at8 qcR)).length<=1000000:=by have:=qg9 (p:=at8 qcR) (s.drop n);omega
   have hlb:((s.drop n).takeWhile (at8 qcR)).length<=big:=jAz hlt2 (by decide);have hh:∃r,(s.drop n).takeWhile (at8 qcR)=s[n]::r:=by
    rw[hd,jBk];have:at8 qcR s[n]=true:=by simp only[at8,qcR,qcs]at hdg ⊢;simp[hdg]
    rw[this];exact⟨_,rfl⟩
   generalize (s.drop n).takeWhile (at8 qcR)=t at hlt2 hlb hh;simp only[qmC hlb,ev_bi_some];have ei:(((plS t:Nat):Int)==(t.length:Int))=qg5 t:=by
    obtain⟨r,rfl⟩:=hh;unfold plS;have hcd:at8 qbh s[n]=true:=hdg;rw[jC7,jB7,qba];constructor
    ·intro h1;cases hc:(decide (((s[n]::r).takeWhile (at8 qbh)).length>1)&&(s[n]::r).head? == some 48)
     ·rw[hc]at h1;simp only[jA9]at h1;have hall:(s[n]::r).takeWhile (at8 qbh)=s[n]::r:=by
       have:=qjE (p:=at8 qbh) (s[n]::r);rw[show((s[n]::r).takeWhile (at8 qbh)).length=(s[n]::r).length by omega,List.take_length]at this;exact this.symm
      refine⟨qmb.1 hall,by simp,?_⟩;rw[hall]at hc;by_cases h1l:(s[n]::r).length>1
      ·right;rw[jA8 h1l]at hc;simpa using hc
      ·left;simp only[jA0]at h1l ⊢;omega
     ·rw[hc]at h1;simp only[jAa,jA0]at h1;omega
    ·rintro⟨h1,h2,h3⟩;rw[qmb.2 h1];have:(decide ((s[n]::r).length>1)&&(s[n]::r).head? == some 48)=false:=by
      rcases h3 with h3|h3
      ·rw[jAe (by omega)];rfl
      ·have:((s[n]::r).head? == some 48)=false:=by simpa using h3
       rw[this,Bool.and_false]
     rw[this];rfl
   rw[ev_br,ei];cases hi:qg5 t
   ·simp only[jA9,quw hlb,qmG hlt2,ev_bi_some,ev_br];cases hf:qo4 t
    ·exact⟨_,_,rfl,fun h=>by cases h⟩
    ·simp only[Bool.not_true,jA9];cases hz:((qbm t).2 != 0)
     ·exact⟨_,_,rfl,fun _=>⟨rfl,rfl⟩⟩
     ·exact⟨_,_,rfl,fun h=>by cases h⟩
   ·simp only[jAa,qHL,ev_bi_some,ev_br];cases qhk t
    ·exact⟨_,_,rfl,fun _=>⟨rfl,rfl⟩⟩
    ·exact⟨_,_,rfl,fun h=>by cases h⟩
 ·simp only[jAa,quu,ev_bi_some,ev_br];have e6:decide ((((s.drop n).takeWhile (at8 qcs)).length:Int)>16)=decide (((s.drop n).takeWhile (at8 qcs)).length>16):=by
   by_cases h:((s.drop n).takeWhile (at8 qcs)).length>16
   ·rw[jA8 h,jA8 (by omega)]
   ·rw[jAe h,jAe (by omega)]
  rw[e6];cases qbO ((s.drop n).takeWhile (at8 qcs))
  ·cases decide (((s.drop n).takeWhile (at8 qcs)).length>16)
   ·exact⟨_,_,rfl,fun _=>⟨rfl,rfl⟩⟩
   ·exact⟨_,_,rfl,fun h=>by cases h⟩
  ·exact⟨_,_,rfl,fun _=>⟨rfl,rfl⟩⟩
def qxu(s:Bs)(line:Int)(n:Nat):List Tok->qdb
 | []=>.inl (s,line,(n:Int))
 |acc=>.inr (s,line,(n:Int),ET acc)
noncomputable def qwo(o:Option (Nat×qdb)):DT qFT:=
  .bi (pj 0 o) (fun y0=>.at (([],(sl y0).snd.fst,(gv (qdQ (sl y0).fst (sl y0).snd.snd)).snd.snd.snd)))
   (.bi (pj 1 o) (fun y0=>.at (([],0,0)))
    (.bi (pj 2 o) (fun y0=>.at (([],(sr y0).snd.fst,(gv (qdQ (sr y0).fst (sr y0).snd.snd.fst)).snd.snd.snd)))
     (.bi (pj 3 o) (fun y0=>.at (((sr y0).snd.snd.snd,0,0)))
      (.no))))
theorem qQl(s:Bs):qrI s= .br (decide ((s.length:Int)>2048)) (.at (([],0,5))) (qwo (qko (Sum.inl (s,1,0)))):=rfl
theorem qIc{s:Bs}(hl:s.length<=big)(line:Int){n:Nat}(hn:n<=s.length):qe5 (Sum.inl (s,line,(n:Int)))=some (0,Sum.inl (s,line,((n+((s.drop n).takeWhile (at8 qhE)).length:Nat):Int))):=by
 rw[qpb];refine qJs (p:=at8 qhE) (s:=s) (fun n=>(Sum.inl (s,line,(n:Int)):qdc)) 0 (fun n h=>?_) ?_ (s.length-n) n (by omega)
 ·simp only[qjt,jBy,qpD,qaR h,qaW h,qaX h,qan h hl,br_eq,jAa,ev_bi_some,ev_br,ev_at,cond_some,at8,qhE]
 ·simp[qjt,qpD]
theorem qId{s:Bs}(hl:s.length<=big)(line:Int)(L:List AV){n:Nat}(hn:n<=s.length):qe5 (Sum.inr (s,line,(n:Int),L))=some (1,Sum.inr (s,line,((n+((s.drop n).takeWhile (at8 qhE)).length:Nat):Int),L)):=by
 rw[qpb];refine qJs (p:=at8 qhE) (s:=s) (fun n=>(Sum.inr (s,line,(n:Int),L):qdc)) 1 (fun n h=>?_) ?_ (s.length-n) n (by omega)
 ·simp only[qjt,jBx,qpE,qaR h,qaW h,qaX h,qan h hl,br_eq,jAa,ev_bi_some,ev_br,ev_at,cond_some,at8,qhE]
 ·simp[qjt,qpE]
def qDd(acc:List Tok)(q:List Tok×Int×Int):List Tok×Int×Int:=bif q.2.2 != 0 then([],q.2)else(acc++q.1,q.2)
theorem qT9(acc:List Tok)(t:Tok)(q:List Tok×Int×Int):qDd acc (qqN t q)=qDd (acc++[t]) q:=by
 unfold qqN qDd;cases h:(q.2.2 != 0)
 ·simp[h]
 ·simp[h]
theorem q2s{c:UInt8}{r:Bs}(h:spI c.toNat=true)(line:Int):rdT (c::r) line=rdT r (line+(bif c==10 then 1 else 0)):=by
 have:=zdB (p:=[c]) (s:=r) (by
  have:=qUm (s:=r) [c] (by simpa using h);exact this) line
 rw[show[c]++r=c::r from rfl]at this;rw[this]
 congr 2
 by_cases hc:c=10
 ·subst hc;rfl
 ·have:(c==10)=false:=by simpa using hc
  rw[this,List.count_cons,List.count_nil,this];rfl
theorem zhd{r:Bs}(line:Int):rdT (35::r) line=rdT ((35::r).drop ((35::r).takeWhile (at8 qhE)).length) line:=by
 have hs:=List.takeWhile_append_dropWhile (p:=at8 qhE) (l:=35::r);have hb:=qAc (35::r);have e1:blk true (35::r)=blk true r+1:=rfl;have e2:blk false (35::r)=blk true r+1:=rfl;have hp:=zdB (p:=(35::r).takeWhile (at8 qhE)) (s:=(35::r).drop ((35::r).takeWhile (at8 qhE)).length) (by
  rw[drop_tw,hs,e2,<-e1,hb,drop_tw]) line
 rw[drop_tw,hs]at hp;rw[hp,drop_tw]
 congr 1
 have:((35::r).takeWhile (at8 qhE)).count 10=0:=by
  rw[List.count_eq_zero];intro hm;have:=jAb.1 (q24 (p:=at8 qhE) (l:=35::r)) _ hm;cases this
 rw[this];simp
theorem q6U{s:Bs}(hl:s.length<=2048):∀(k n:Nat) (line:Int) (acc:List Tok),n+k=s.length->0<=line->line<=10000+n->acc.length<=n ->
  (qwo (qko (qxu s line n acc))).ev=some (ET (qDd acc (rdT (s.drop n) line)).1,(qDd acc (rdT (s.drop n) line)).2.1,(qDd acc (rdT (s.drop n) line)).2.2):=by
 have hm:s.length<=1000000:=by omega
 have hb:s.length<=big:=jAz hm (by decide);intro k
 induction k using Nat.strongRecOn with
 |_ k ih=>
  intro n line acc hn h0 h1 h2;rw[qpa];by_cases h:n<s.length
  ·have c10:(qai s (n:Int)==10)=(s[n]==10):=qfY h 10;have c32:(qai s (n:Int)==32)=(s[n]==32):=qfY h 32;have c9:(qai s (n:Int)==9)=(s[n]==9):=qfY h 9;have c35:(qai s (n:Int)==35)=(s[n]==35):=qfY h 35;have hw1:IntKind.i64.wrap (line+1)=line+1:=wrap64 (by omega) (by omega);have hd:=drop_at h;have hcw:=qg9 (p:=at8 qhE) (s.drop n);rw[jB0]at hcw;obtain⟨tk,tt,htok,htk⟩:=qHJ hm h;have step:∀(line':Int) (n':Nat) (acc':List Tok),n<n'->n'<=s.length->0<=line'->line'<=10000+n'->acc'.length<=n'->(qbC (qxu s line n acc)).ev=some (.next (qxu s line' n' acc')) ->
     qDd acc (rdT (s.drop n) line)=qDd acc' (rdT (s.drop n') line') ->
     (qwo (qae (fun v=>(qbC v).ev) (qxu s line n acc))).ev=some (ET (qDd acc (rdT (s.drop n) line)).1,(qDd acc (rdT (s.drop n) line)).2.1,(qDd acc (rdT (s.drop n) line)).2.2):=by
    intro line' n' acc' g1 g2 g3 g4 g5 g6 g7;rw[qal g6,<-qpa,g7];exact ih (s.length-n') (by omega) n' line' acc' (by omega) g3 g4 g5
   by_cases q10:s[n]=10
   ·have e10:(s[n]==10)=true:=by simpa using q10
    refine step (line+1) (n+1) acc (by omega) (by omega) (by omega) (by omega) (by omega) ?_ ?_
    ·cases acc with
     |nil=>simp only[qxu,qbC,jBy,qdA,qaR h,qaW h,c10,e10,hw1,qan h hb,ev_br,ev_at,jAa]
     |cons a acc=>simp only[qxu,qbC,jBx,qdB,qaR h,qaW h,c10,e10,hw1,qan h hb,ev_br,ev_at,jAa]
    ·rw[hd,q2s (by rw[q10];rfl),e10];rfl
   ·have e10:(s[n]==10)=false:=by simpa using q10
    by_cases q32:s[n]=32
    ·have e32:(s[n]==32)=true:=by simpa using q32
     refine step line (n+1) acc (by omega) (by omega) h0 (by omega) (by omega) ?_ ?_
     ·cases acc with
      |nil=>simp only[qxu,qbC,jBy,qdA,qaR h,qaW h,c10,e10,c32,e32,qan h hb,ev_br,ev_at,jAa,jA9]
      |cons a acc=>simp only[qxu,qbC,jBx,qdB,qaR h,qaW h,c10,e10,c32,e32,qan h hb,ev_br,ev_at,jAa,jA9]
     ·rw[hd,q2s (by rw[q32];rfl),e10,jA9,Int.add_zero]
    ·have e32:(s[n]==32)=false:=by simpa using q32
     by_cases q9:s[n]=9
     ·have e9:(s[n]==9)=true:=by simpa using q9
      refine step line (n+1) acc (by omega) (by omega) h0 (by omega) (by omega) ?_ ?_
      ·cases acc with
       |nil=>simp only[qxu,qbC,jBy,qdA,qaR h,qaW h,c10,e10,c32,e32,c9,e9,qan h hb,ev_br,ev_at,jAa,jA9]
       |cons a acc=>simp only[qxu,qbC,jBx,qdB,qaR h,qaW h,c10,e10,c32,e32,c9,e9,qan h hb,ev_br,ev_at,jAa,jA9]
      ·rw[hd,q2s (by rw[q9];rfl),e10,jA9,Int.add_zero]
     ·have e9:(s[n]==9)=false:=by simpa using q9
      by_cases q35:s[n]=35
      ·have e35:(s[n]==35)=true:=by simpa using q35
       have hpos:1<=((s.drop n).takeWhile (at8 qhE)).length:=by
        rw[hd,q35,List.takeWhile_cons_of_pos (by rfl)];simp
       refine step line (n+((s.drop n).takeWhile (at8 qhE)).length) acc (by omega) (by omega) h0 (by omega) (by omega) ?_ ?_
       ·cases acc with
        |nil=>
         simp only[qxu,qbC,jBy,qdA,qaR h,qaW h,c10,e10,c32,e32,c9,e9,c35,e35,qIc hb line (Nat.le_of_lt h),pj_some,jB2,ev_bi_some,sl_inl,ev_br,ev_at,jAa,jA9]
        |cons a acc=>
         simp(decide:=true) only[qxu,qbC,jBx,qdB,qaR h,qaW h,c10,e10,c32,e32,c9,e9,c35,e35,qId hb line (ET (a::acc)) (Nat.le_of_lt h),pj_some,jB2,jBg,ev_bi_some,ev_bi_none,sr_inr,ev_br,ev_at,jAa,jA9]
       ·rw[<-List.drop_drop,hd,q35,zhd]
      ·have e35:(s[n]==35)=false:=by simpa using q35
       have hok:qQF (s.drop n)=true:=by
        rw[hd];simp only[qQF,spI,jA1,jB9,jB6,jBj];have z:∀m:UInt8,s[n]≠m-> ¬((s[n].toNat:Int)=(m.toNat:Int)):=fun m hm he=>hm (UInt8.toNat_inj.1 (Int.ofNat_inj.1 he))
        exact⟨⟨z 32 q32,z 9 q9,z 10 q10⟩,z 35 q35⟩
       obtain⟨r1,r2⟩:=qQk (s.drop n);have hst:=zpY hok line;have hst2:Tk.stepT (s.drop n) line=bif (qaw (s.drop n)).2.2 != 0 then([],line,(qaw (s.drop n)).2.2)else qqN ⟨(qaw (s.drop n)).1,line,(qaw (s.drop n)).2.1⟩ (rdT ((s.drop n).drop (qaw (s.drop n)).2.1.length) line):=by
        conv=>lhs;rw[hd]
        rw[hd];rfl
       rw[hst2]at hst;cases hz:((qaw (s.drop n)).2.2 != 0)
       ·have hz':(qaw (s.drop n)).2.2=0:=by simpa using hz
        rw[hz,jA9]at hst;obtain⟨rfl,rfl⟩:=htk (r1.trans hz');have hr2:=r2 hz';obtain⟨p1,y,p2⟩:=qcB hz';have p1:=jCp.2 p1;have p3:=congrArg List.length p2;rw[jA2,jB0]at p3;rw[hr2]at htok;have hwn:IntKind.i64.wrap ((n:Int)+((qaw (s.drop n)).2.1.length:Int))=((n+(qaw (s.drop n)).2.1.length:Nat):Int):=by rw[wrap64 (by omega) (by omega)];push_cast;rfl
        refine step line (n+(qaw (s.drop n)).2.1.length) (acc++[⟨(qaw (s.drop n)).1,line,(qaw (s.drop n)).2.1⟩]) (by omega) (by omega) h0 (by omega) (by simp only[jA2,jA0,jA4];omega) ?_ ?_
        ·cases acc with
         |nil=>
          simp only[qxu,qbC,jBy,qdA,qaR h,qaW h,c10,e10,c32,e32,c9,e9,c35,e35,htok,hz,hwn,ev_bi_some,ev_br,ev_at,jAa,jA9];rfl
         |cons a acc=>
          have hrm:room ((ET (a::acc)).length+1) 32=true:=qcm (by simp only[jA5,lim];omega);simp only[qxu,qbC,jBx,qdB,qaR h,qaW h,c10,e10,c32,e32,c9,e9,c35,e35,htok,hz,hwn,hrm,ev_bi_some,ev_br,ev_at,jAa,jA9,jAk,jCi];simp[qxu,Tok.av]
        ·rw[hst,qT9,List.drop_drop]
       ·have hzr:((ql9 (s.drop n)).2.2 != 0)=true:=by rw[r1];exact hz
        rw[hz,jAa]at hst;rw[hst];have hac:qDd acc (([]:List Tok),line,(qaw (s.drop n)).2.2)=([],line,(qaw (s.drop n)).2.2):=by
         unfold qDd;simp only[hz,jAa]
        rw[hac,<-r1];cases acc with
        |nil=>
         rw[qaf (j:=0)]
         ·simp only[qwo,qxu,pj_some,jB2,ev_bi_some,ev_at,sl_inl,htok,gv_some];rfl
         ·simp only[qxu,qbC,jBy,qdA,qaR h,qaW h,c10,e10,c32,e32,c9,e9,c35,e35,htok,hzr,ev_bi_some,ev_br,ev_at,jAa,jA9]
        |cons a acc=>
         rw[qaf (j:=2)]
         ·simp(decide:=true) only[qwo,qxu,pj_some,jB2,jBg,ev_bi_some,ev_bi_none,ev_at,sr_inr,htok,gv_some];rfl
         ·simp only[qxu,qbC,jBx,qdB,qaR h,qaW h,c10,e10,c32,e32,c9,e9,c35,e35,htok,hzr,ev_bi_some,ev_br,ev_at,jAa,jA9]
  ·have hd:s.drop n= []:=q5H h;rw[hd,zdA];have hac:qDd acc (([]:List Tok),(0:Int),(0:Int))=(acc,0,0):=by simp[qDd]
   rw[hac];have hle:decide ((n:Int)<(s.length:Int))=false:=qMw h;cases acc with
   |nil=>
    rw[qaf (j:=1)]
    ·rfl
    ·simp only[qxu,qbC,jBy,qdA,hle,ev_br,ev_at,jA9]
   |cons a acc=>
    rw[qaf (j:=3)]
    ·rfl
    ·simp only[qxu,qbC,jBx,qdB,hle,ev_br,ev_at,jA9]
theorem qtR(s:Bs):qoI s=some (ET (qbp s).1,(qbp s).2.1,(qbp s).2.2):=by
 rw[qOd,qQl];cases h:decide ((s.length:Int)>2048)
 ·have h':s.length<=2048:=by
   have:=of_decide_eq_false h;omega
  rw[qqi h'];simp only[ev_br,jA9];have:=q6U h' s.length 0 1 [] (by omega) (by omega) (by omega) (by simp);rw[List.drop_zero]at this;have hac:qDd [] (rdT s 1)=rdT s 1:=by
   unfold qDd;cases hz:((rdT s 1).2.2 != 0)
   ·simp
   ·
    simp only[jAa];exact(Prod.ext (qT5 s 1 hz).symm rfl)
  rw[hac]at this;exact this
 ·unfold qbp;rw[h];rfl
end Go.Proofs.H16
namespace Go.Proofs.H16
open Go Go.Eng Go.Tk
set_option maxRecDepth 20000
theorem zcM(k n:Int)(t:Bs)(q:List Tok×Int×Int)(h:qbp t=q):(DT.bi (some (ET q.1,q.2.1,q.2.2)) (fun y0=>.br (y0.snd.snd==0) (.br ((y0.fst.length:Int)==1) (.br (qaD [CS.int IntKind.i64,CS.int IntKind.i64,CS.str] y0.fst 0) (.br (intOf (cellAt y0.fst 0 0)==k) (.br (qaD [CS.int IntKind.i64,CS.int IntKind.i64,CS.str] y0.fst 0) (.at (strOf (cellAt y0.fst 0 2)==t)) .no) (.at false)) .no) (.at false)) (.at false)) .no).ev=some (qaS ⟨k,n,t⟩):=by
 subst h;unfold qaS;simp only[ev_bi_some,ev_br];cases((qbp t).2.2==0)
 ·rfl
 ·simp only[jAa,jBm];cases hq:(qbp t).1 with
  |nil=>rfl
  |cons u r=>
   cases r with
   |nil=>
    have h0:qaD [CS.int IntKind.i64,CS.int IntKind.i64,CS.str] (ET [u]) 0=true:=okT (l:=[u]) (n:=0) (by simp);have h1:intOf (cellAt (ET [u]) 0 0)=u.kind:=qt0 (l:=[u]) (n:=0) (by simp);have h2:strOf (cellAt (ET [u]) 0 2)=u.text:=qt2 (l:=[u]) (n:=0) (by simp);rw[h0,h1,h2];show(bif true then(bif true then(bif u.kind==k then(bif true then some (u.text==t)else none)else some false)else none)else some false)=some (true&&(u.kind==k&&u.text==t));cases(u.kind==k)<;>rfl
   |cons v r=>
    have e:(((ET (u::v::r)).length:Int)==1)=false:=by
     rw[jBj,jA5,jA0,jA0];omega
    have e2:((u::v::r).length==1)=false:=by simp
    rw[e,e2];rfl
theorem qHX(k n:Int)(t:Bs):quv k n t=some (qaS ⟨k,n,t⟩):=by
 rw[qPj,qsS,qtR];exact zcM k n t _ rfl
theorem qHz(k n:Int)(t:Bs):qAv k n t=some (qaS ⟨k,n,t⟩):=by
 rw[qOG,qsf,qee];exact zcM k n t _ rfl
def qpk:Int->List Tok->Int
 |n,[]=>n
 |_,t::l=>qpk t.line l
theorem qIJ:∀{l:List Tok} {n:Int},qmh qaS n l=true->n<=qpk n l
 | [],_,_=>Int.le_refl _
 |t::l,n,h=>by
  simp only[qmh,jA1,jA6]at h;have:=qIJ h.2.2;show n<=qpk t.line l;omega
theorem qWI:∀{l:List Tok} {n b:Int},n<=b->(∀t∈l,t.line<=b)->qpk n l<=b
 | [],_,_,h,_=>h
 |t::l,n,b,h,hl=>qWI (l:=l) (hl t (by simp)) fun x hx=>hl x (by simp[hx])
theorem qXL:∀{l:List Tok} {i:Nat} {n:Int} {k:Nat},qmh qaS n l=true->okJ i n k l=true->k<=2048->k+(qpk n l-n)<=2048
 | [],i,n,k,_,_,hk=>by simp only[qpk];omega
 |t::l,i,n,k,h,ho,hk=>by
  simp only[qmh,jA1,jA6]at h;simp only[okJ,jA1,jA6]at ho;have:=qXL h.2.2 ho.2.2 ho.2.1;have hs:(t.line-n).toNat<=(qkK i n t).length:=by unfold qkK;simp
  show k+(qpk t.line l-n)<=2048;omega
theorem qIv{l:List Tok}(hl:l.length<=big):∀(k n:Nat) (line:Int),n+k=l.length-> ∃v,qpf (ET l,line,(n:Int))=some ((bif qmh qaS line (l.drop n)then 1 else 0),v)/\(qmh qaS line (l.drop n)=true->v=(ET l,qpk line (l.drop n),((l.length:Nat):Int))):=by
 intro k
 induction k with
 |zero=>
  intro n line hn;have:n=l.length:=by omega
  subst this;rw[jC0,qli];refine⟨_,qaf ?_,fun _=>rfl⟩;simp[qlJ,qp2,qmh]
 |succ k ih=>
  intro n line hn;have h:n<l.length:=by omega
  have hlt:decide ((n:Int)<((ET l).length:Int))=true:=by rw[jA5];exact qaR h
  rw[qli,drop_at h];have hst:(qlJ (ET l,line,(n:Int))).ev=some (bif qaS l[n]&& !decide (l[n].line<line)then .next (ET l,l[n].line,((n+1:Nat):Int))else .done 0):=by
   simp only[qlJ,qp2,hlt,okT h,qt0 h,qt1 h,qt2 h,qHX,ev_br,ev_at,ev_bi_some,br_eq,jAa,qan h hl];cases qaS l[n]
   ·rfl
   ·cases decide (l[n].line<line)<;>rfl
  have hle:decide (line<=l[n].line)= !decide (l[n].line<line):=by
   by_cases hq:l[n].line<line
   ·rw[jA8 hq,jAe (by omega)];rfl
   ·rw[jAe hq,jA8 (by omega)];rfl
  simp only[qmh,hle];cases h1:qaS l[n]
  ·rw[h1]at hst;exact⟨_,qaf hst,fun h=>by cases h⟩
  ·cases h2:decide (l[n].line<line)
   ·rw[h1,h2]at hst;obtain⟨v,e1,e2⟩:=ih (n+1) l[n].line (by omega);rw[qal hst,<-qli];exact⟨v,e1,e2⟩
   ·rw[h1,h2]at hst;exact⟨_,qaf hst,fun h=>by cases h⟩
theorem qIx{l:List Tok}{n:Nat}(h:n<l.length)(hb:l[n].line<=1000000):∀(k:Nat) (line:Int) (acc:Bs),(l[n].line-line).toNat=k->0<=line->acc.length+k<=1000000000-> ∃line',qgQ (ET l,line,acc,(n:Int))=some (0,ET l,line',acc++List.replicate k 10,(n:Int))/\(line<=l[n].line->line'=l[n].line):=by
 intro k
 induction k with
 |zero=>
  intro line acc hk h0 _;rw[qlk];refine⟨line,?_,fun _=>by omega⟩;rw[List.replicate_zero,jC6];refine qaf ?_;have:decide (line<l[n].line)=false:=jAe (by omega);simp only[qoa,qp4,okT h,qt1 h,this,ev_br,ev_at,jAa,jA9]
 |succ k ih=>
  intro line acc hk h0 hl;obtain⟨line',e1,e2⟩:=ih (line+1) (acc++[10]) (by omega) (by omega) (by simp only[jA2,jA0,jA4];omega);refine⟨line',?_,fun _=>e2 (by omega)⟩;rw[qlk];have h1:decide (line<l[n].line)=true:=jA8 (by omega);have h2:decide (acc.length+1<=4611686018427387904)=true:=jA8 (by omega);have h3:IntKind.i64.wrap (line+1)=line+1:=wrap64 (by omega) (by omega);rw[qal (v':=(ET l,line+1,acc++[10],(n:Int))) (by
   simp only[qoa,qp4,okT h,qt1 h,h1,h2,h3,ev_br,ev_at,jAa]),<-qlk,e1,jAf]
  rfl
theorem qIw{l:List Tok}(hl:l.length<=big):∀(k n:Nat) (line:Int) (acc:Bs),n+k=l.length->0<=line->qmh qaS line (l.drop n)=true->qpk line (l.drop n)<=2049->acc.length<=2048 ->
  ∃v j,qmT (ET l,line,acc,(n:Int))=some ((bif okJ n line acc.length (l.drop n)then 2 else j),v)/\j<2/\(okJ n line acc.length (l.drop n)=true->v.2.2.1=acc++qxB n line (l.drop n)):=by
 intro k
 induction k with
 |zero=>
  intro n line acc hn h0 hc hla hac;have:n=l.length:=by omega
  subst this;rw[jC0,qlj];refine⟨_,0,qaf ?_,by decide,fun _=>?_⟩
  ·simp[qlK,qp3,okJ]
  ·simp[qxB]
 |succ k ih=>
  intro n line acc hn h0 hc hla hac;have h:n<l.length:=by omega
  rw[drop_at h]at hc hla ⊢;simp only[qmh,jA1,jA6]at hc;obtain⟨hok,hge,hc⟩:=hc;have hla':qpk l[n].line (l.drop (n+1))<=2049:=hla;have hll:=qIJ hc;have htl:=(qey hok).1;have hlt:decide ((n:Int)<((ET l).length:Int))=true:=by rw[jA5];exact qaR h
  have hz:decide ((n:Int)>0)=decide (n>0):=by
   by_cases hq:n>0
   ·rw[jA8 hq,jA8 (by omega)]
   ·rw[jAe hq,jAe (by omega)]
  obtain⟨b,hb⟩:∃b,b=(decide (n>0)&&(l[n].line==line)):=⟨_,rfl⟩;have hsep:acc++(bif b then[32]else[])++List.replicate (l[n].line-line).toNat 10=acc++qkK n line l[n]:=by
   unfold qkK;cases hbb:b
   ·have:¬(n>0/\l[n].line=line):=by
     rintro⟨q1,q2⟩;rw[hbb,jA8 q1,q2]at hb;simp at hb
    rw[jAm this];simp
   ·rw[hbb]at hb;have hb:=hb.symm;rw[jA1,jA6,jB7]at hb;rw[jAr hb,hb.2];simp
  obtain⟨line',e1,e2⟩:=qIx h (by omega) (l[n].line-line).toNat line (acc++bif b then[32]else[]) rfl h0 (by
   have:(bif b then([32]:Bs)else[]).length<=1:=by cases b<;>simp
   rw[jA2];omega)
  obtain rfl:=e2 hge;rw[hsep]at e1;have hsl:(qkK n line l[n]).length<=3000:=by
   unfold qkK;have:(if n>0/\l[n].line=line then([32]:Bs)else[]).length<=1:=by split<;>simp
   rw[jA2,List.length_replicate];omega
  have q1:decide (acc.length+1<=4611686018427387904)=true:=jA8 (by omega);have q2:decide ((acc++qkK n line l[n]).length+l[n].text.length<=4611686018427387904)=true:=jA8 (by rw[jA2];omega);have q3:decide ((((acc++qkK n line l[n]++l[n].text).length:Nat):Int)>2048)= !decide (acc.length+(qkK n line l[n]).length+l[n].text.length<=2048):=by
   rw[jA2,jA2];by_cases hq:acc.length+(qkK n line l[n]).length+l[n].text.length<=2048
   ·rw[jA8 hq,jAe (by omega)];rfl
   ·rw[jAe hq,jA8 (by omega)];rfl
  have hst:∃j,j<2/\(qlK (ET l,line,acc,(n:Int))).ev=some (bif decide (acc.length+(qkK n line l[n]).length+l[n].text.length<=2048)then .next (ET l,l[n].line,acc++qkK n line l[n]++l[n].text,((n+1:Nat):Int))else .done j):=by
   refine⟨bif b then 0 else 1,by cases b<;>decide,?_⟩;have hbb:br (decide ((n:Int)>0)) (br (qaD [CS.int IntKind.i64,CS.int IntKind.i64,CS.str] (ET l) (n:Int)) (some (intOf (cellAt (ET l) (n:Int) 1)==line)) none) (some false)=some b:=by
    rw[hb,hz,okT h,qt1 h];cases decide (n>0)<;>rfl
   simp only[qlK,qp3,hlt,hbb,ev_bi_some,ev_br,jAa];cases hbq:b
   ·rw[hbq,jA9,jC6]at e1;simp only[jA9,e1,pj_some,jB2,ev_bi_some,okT h,qt2 h,q2,q3,ev_br,ev_at,jAa,qan h hl];cases decide (acc.length+(qkK n line l[n]).length+l[n].text.length<=2048)<;>rfl
   ·rw[hbq,jAa]at e1;simp only[jAa,q1,e1,pj_some,jB2,ev_bi_some,okT h,qt2 h,q2,q3,ev_br,ev_at,qan h hl];cases decide (acc.length+(qkK n line l[n]).length+l[n].text.length<=2048)<;>rfl
  obtain⟨j,hj,hst⟩:=hst;rw[qlj];have hd1:decide (l[n].line-line<=2048)=true\/0=line:=by
   by_cases hq:0=line
   ·exact .inr hq
   ·exact .inl (jA8 (by omega))
  have hok':okJ n line acc.length (l[n]::l.drop (n+1))=(decide (acc.length+(qkK n line l[n]).length+l[n].text.length<=2048)&&okJ (n+1) l[n].line (acc.length+(qkK n line l[n]).length+l[n].text.length) (l.drop (n+1))):=by
   show(decide (l[n].line-line<=2048)&&_)=_;by_cases hq:l[n].line-line<=2048
   ·rw[jA8 hq,jBm]
   ·have:(l[n].line-line).toNat<=(qkK n line l[n]).length:=by unfold qkK;simp
    rw[jAe hq,jAe (by omega)];rfl
  rw[hok'];cases hd:decide (acc.length+(qkK n line l[n]).length+l[n].text.length<=2048)
  ·rw[hd]at hst;exact⟨_,j,qaf hst,hj,fun h=>by cases h⟩
  ·rw[hd]at hst;have hd:=jBd hd;obtain⟨v,i,i1,i2,i3⟩:=ih (n+1) l[n].line (acc++qkK n line l[n]++l[n].text) (by omega) (by omega) hc hla' (by rw[jA2,jA2];omega);have hln:(acc++qkK n line l[n]++l[n].text).length=acc.length+(qkK n line l[n]).length+l[n].text.length:=by rw[jA2,jA2]
   rw[hln]at i1 i3;rw[qal hst,<-qlj];refine⟨v,i,i1,i2,fun hq=>?_⟩;rw[jBm]at hq;rw[i3 hq];simp[qxB,jAf]
theorem qHW{l:List Tok}(hl:l.length<=big)(hb:∀t∈l,t.line<=9223372036854775807):qoX (ET l)=some (qnr qaS l):=by
 rw[qPh,qsQ];obtain⟨v,e1,e2⟩:=qIv hl l.length 0 1 (by omega);rw[List.drop_zero]at e1 e2;have e1:qpf (ET l,1,0)=_:=e1;unfold qnr;rw[e1,zgu];cases hc:qmh qaS 1 l
 ·simp
 ·obtain rfl:=e2 hc;have hg:=qIJ hc;have hle:=qWI (l:=l) (n:=1) (b:=9223372036854775807) (by decide) hb;have hw:IntKind.i64.wrap (qpk 1 l-1)=qpk 1 l-1:=wrap64 (by omega) (by omega);simp(decide:=true) only[jAa,pj_some,jB2,jBg,ev_bi_none,ev_bi_some,hw,ev_br];by_cases hq:qpk 1 l-1>2048
  ·have:okJ 0 1 ([]:Bs).length l=false:=by
    cases ho:okJ 0 1 ([]:Bs).length l
    ·rfl
    ·have:=qXL hc ho (by simp);simp only[jA4]at this;omega
   rw[jA8 hq,this];rfl
  ·rw[jAe hq,jA9];obtain⟨w,j,i1,i2,i3⟩:=qIw hl l.length 0 1 [] (by omega) (by decide) (by rw[List.drop_zero];exact hc) (by rw[List.drop_zero];omega) (by simp);rw[List.drop_zero]at i1 i3;have i1:qmT (ET l,1,[],0)=_:=i1;rw[i1];cases ho:okJ 0 1 ([]:Bs).length l
   ·rcases(show j=0\/j=1 by omega)with rfl|rfl<;>simp(decide:=true)
   ·have i3:=i3 ho;simp(decide:=true) [i3]
theorem q5E:∀d,d<10->List.take ((d+1)-d) (List.drop d ([48,49,50,51,52,53,54,55,56,57]:List UInt8))= [UInt8.ofNat (48+d)]:=by decide
theorem qeb{m:Nat}(hm:m<=1000000){x1:Int}{acc:Bs}(hacc:acc.length<=1000)(h:0<m\/(acc.length:Int)<x1):(qju ((m:Int),x1,acc)).ev=some (.next (((m / 10:Nat):Int),x1,UInt8.ofNat (48+m%10)::acc)):=by
 have e1:((m:Int).tmod 10)=((m%10:Nat):Int):=rfl;have e2:((m:Int).tdiv 10)=((m / 10:Nat):Int):=rfl;have e3:IntKind.i64.wrap (((m%10:Nat):Int)+1)=((m%10+1:Nat):Int):=by rw[wrap64 (by omega) (by omega)];rfl
 have e4:IntKind.i64.wrap ((m / 10:Nat):Int)=((m / 10:Nat):Int):=wrap64 (by omega) (by omega);have hlt:m%10<10:=Nat.mod_lt _ (by decide);have g1:leB ((m%10+1:Nat):Int) 10=true:=qbg (by omega);have g2:leB ((m%10:Nat):Int) ((m%10+1:Nat):Int).toNat=true:=by rw[jB5];exact qbg (by omega)
 have hbr:br (decide ((m:Int)>0)) (some true) (some (decide ((acc.length:Int)<x1)))=some true:=by
  rcases h with h|h
  ·rw[jA8 (show(m:Int)>0 by omega)];rfl
  ·rw[jA8 h];cases decide ((m:Int)>0)<;>rfl
 have g3:decide (([UInt8.ofNat (48+m%10)]:Bs).length+acc.length<=4611686018427387904)=true:=jA8 (by simp only[jA0,jA4];omega);simp only[qju,qpM,hbr,ev_bi_some,e1,e2,e3,e4,g1,g2,Bool.and_self,ev_br,jAa];simp only[jB5,q5E _ hlt,g3,ev_at,jAa];rfl
theorem qxU{x1:Int}{acc:Bs}(h:x1<=(acc.length:Int)):(qju (((0:Nat):Int),x1,acc)).ev=some (.done 0):=by
 have:decide ((acc.length:Int)<x1)=false:=jAe (by omega);simp[qju,qpM,this]
theorem qG7{x1:Int}:∀(b m:Nat) (acc:Bs),m<=b->m<=1000000->acc.length+m<=1000+1000000->acc.length+(bif decide (m>0)then Nat.log2 m+1 else 0)<=1000->x1<=(acc.length:Int)->qmR ((m:Int),x1,acc)=some (0,0,x1,(if m=0 then[]else Lib.decDigits m)++acc):=by
 intro b
 induction b using Nat.strongRecOn with
 |_ b ih=>
  intro m acc hb hm hs hlg hx;by_cases h0:m=0
  ·subst h0;rw[qep,qaf (qxU hx)];rfl
  ·have hac:acc.length<=1000:=by omega
   rw[qep,qal (qeb hm hac (.inl (by omega))),<-qep];have hlg2:(UInt8.ofNat (48+m%10)::acc).length+(bif decide (m / 10>0)then Nat.log2 (m / 10)+1 else 0)<=1000:=by
    rw[jA8 (show m>0 by omega),jAa]at hlg;simp only[jA0];by_cases h1:m / 10>0
    ·rw[jA8 h1,jAa];have:Nat.log2 (m / 10)+1<=Nat.log2 m:=by
      have h2:Nat.log2 (m / 10)<=Nat.log2 (m / 2):=by
       refine(Nat.le_log2 (by omega)).2 (jAz (Nat.log2_self_le (by omega)) (by omega))
      have h3:Nat.log2 m=Nat.log2 (m / 2)+1:=by
       conv=>lhs;rw[Nat.log2_def]
       rw[jAr (by omega)]
      omega
     omega
    ·rw[jAe h1,jA9];omega
   rw[ih (m / 10) (by omega) (m / 10) _ (jAj _) (by omega) (by simp only[jA0];omega) hlg2 (by simp only[jA0];omega),jAm h0]
   congr 4
   conv=>rhs;rw[Lib.decDigits]
   by_cases h1:m<10
   ·rw[dif_pos h1,jAr (by omega)];have:m%10=m:=Nat.mod_eq_of_lt h1;rw[this];rfl
   ·rw[dif_neg h1,jAm (by omega),jAf];rfl
theorem qXg{m:Nat}(h:m<=1000000)(h0:m>0):Nat.log2 m<=19:=by
 have:=(Nat.log2_lt (n:=m) (k:=20) (by omega)).2 (by omega);omega
theorem qxT{m:Nat}(hm:m<=1000000){x1:Int}{acc:Bs}(hac:acc.length<=100)(hx:x1<=(acc.length:Int)):qmR ((m:Int),x1,acc)=some (0,0,x1,(if m=0 then[]else Lib.decDigits m)++acc):=by
 refine qG7 m m acc (jAj _) hm (by omega) ?_ hx;by_cases h0:m>0
 ·have:=qXg hm h0;rw[jA8 h0,jAa];omega
 ·rw[jAe h0,jA9];omega
theorem qHA{m:Nat}(hm:m<=1000000):qmw (m:Int) 1=some (Lib.decDigits m):=by
 rw[qx4,qom];have:qmR ((m:Int),1,[])=some (0,0,1,Lib.decDigits m):=by
  rw[qep,qal (qeb hm (by simp) (.inr (by simp))),<-qep,qxT (by omega) (by simp) (by simp)]
  congr 4
  conv=>rhs;rw[Lib.decDigits]
  by_cases h1:m<10
  ·rw[dif_pos h1,jAr (by omega),Nat.mod_eq_of_lt h1];rfl
  ·rw[dif_neg h1,jAm (by omega)]
 rw[this];rfl
theorem qDD{m:Nat}(hm:m<10000):qmw (m:Int) 4=some (four m):=by
 rw[qx4,qom];have:qmR ((m:Int),4,[])=some (0,0,4,four m):=by
  rw[qep,qal (qeb (by omega) (by simp) (.inr (by simp))),qal (qeb (by omega) (by simp) (.inr (by simp))),qal (qeb (by omega) (by simp) (.inr (by simp))),qal (qeb (by omega) (by simp) (.inr (by simp)))];have h0:m / 10 / 10 / 10 / 10=0:=by omega
  rw[h0,qaf (qxU (by simp))];unfold four;have a1:m / 10 / 10=m / 100:=by omega
  have a2:m / 100 / 10=m / 1000:=by omega
  rw[a1,a2];rfl
 rw[this];rfl
theorem qIk(x0:Bs):∀(k:Nat) (l:Bs),l.length=k->k<=1000->qAM (x0,l)=some (0,x0,Lib.trimRightB l 48):=by
 intro k
 induction k with
 |zero=>
  intro l hl _;have:l= []:=jAy.1 hl;subst this;rw[qlg,qaf (j:=0)]
  ·rfl
  ·simp[qlD,qlE]
 |succ k ih=>
  intro l hl hk;have hne:l≠ []:=by rintro rfl;cases hl
  obtain⟨r,c,rfl⟩:∃r c,l=r++[c]:=⟨l.dropLast,l.getLast hne,(List.dropLast_concat_getLast hne).symm⟩;have hr:r.length=k:=by simpa using hl
  have hlen:(r++[c]).length=k+1:=hl;have e1:IntKind.i64.wrap (((r++[c]).length:Int)-1)=((k:Nat):Int):=by rw[hlen,wrap64 (by omega) (by omega)];omega
  have e2:inB (r++[c]).length ((k:Nat):Int)=true:=qaW (by omega);have e3:(qai (r++[c]) ((k:Nat):Int)==48)=(c==48):=by
   have:=qfY (s:=r++[c]) (n:=k) (by omega) 48;rw[show((48:UInt8).toNat:Int)=48 from rfl]at this;rw[this];have:(r++[c])[k]'(by omega)=c:=by
    rw[List.getElem_append_right (by omega)];simp
   rw[this]
  have e4:leB ((k:Nat):Int) (r++[c]).length=true:=qbg (by omega);have e5:decide (((r++[c]).length:Int)>0)=true:=jA8 (by omega);have e6:(r++[c]).take k=r:=by rw[<-hr];simp
  rw[qos,qlg];by_cases hc:c=48
  ·have:(c==48)=true:=by simpa using hc
   rw[jAr hc,qal (v':=(x0,r)),<-qlg,ih r hr (by omega)];simp only[qlD,qlE,e1,e2,e3,e4,e5,this,br_eq,jAa,ev_bi_some,ev_br,Bool.and_self,jB5,e6,ev_at]
  ·have:(c==48)=false:=by simpa using hc
   rw[jAm hc,qaf (j:=0)];simp only[qlD,qlE,e1,e2,e3,e4,e5,this,br_eq,jAa,ev_bi_some,ev_br,jA9,ev_at]
theorem qUI{m:Nat}(h:m<=1000000):(Lib.decDigits m).length<=30:=by
 have:=qxT (x1:=0) (acc:=[]) h (by simp) (by simp);by_cases h0:(Lib.decDigits m).length<=1
 ·omega
 ·obtain⟨h1,h2,_⟩:=qh2 m m (jAj _);have:=zaF h1 (by omega);rw[h2]at this;have h3:(Lib.decDigits m).length-1<8:=by
   rcases jCb ((Lib.decDigits m).length-1) 8 with h4|h4
   ·exact h4
   ·have:=Nat.pow_le_pow_right (n:=10) (by decide) h4;omega
  omega
theorem qtZ(n:Int):qoP n=some (qQh n):=by
 rw[qOv,qrY];unfold qQh;cases h0:decide (n<0)
 ·cases h1:decide (n>1000000)
  ·have h0:=of_decide_eq_false h0;have h1:=of_decide_eq_false h1;obtain⟨m,rfl⟩:=Int.eq_ofNat_of_zero_le (show 0<=n by omega);have hm:m<=1000000:=by omega
   have e1:((m:Int).tmod 10000)=((m%10000:Nat):Int):=rfl;have e2:((m:Int).tdiv 10000)=((m / 10000:Nat):Int):=rfl;have e3:IntKind.i64.wrap ((m / 10000:Nat):Int)=((m / 10000:Nat):Int):=wrap64 (by omega) (by omega);have hlt:m%10000<10000:=Nat.mod_lt _ (by decide);have hd:=qUI (m:=m / 10000) (by omega);obtain⟨_,ht,_⟩:=qk4 hlt;simp only[e1,e2,e3,qHA (m:=m / 10000) (by omega),qDD hlt,qIk _ 4 (four (m%10000)) rfl (by decide),pj_some,jB2,ev_bi_some,br_eq,jA9,ev_br,Bool.or_false];rw[jB5];unfold qiJ qdl;generalize Lib.trimRightB (four (m%10000)) 48=p at ht;have g1:decide ((Lib.decDigits (m / 10000)).length+1<=4611686018427387904)=true:=jA8 (by omega);have g2:decide ((Lib.decDigits (m / 10000)++[46]).length+p.length<=4611686018427387904)=true:=jA8 (by rw[jA2,jA0,jA4];omega);have g3:decide ((Lib.decDigits (m / 10000)++[46]++p).length+1<=4611686018427387904)=true:=jA8 (by rw[jA2,jA2,jA0,jA4];omega);have e5:(p != [])= !(p== []):=rfl;rw[g1,g2,g3,e5];cases(p== [])
   ·simp[jAf]
   ·simp
  ·simp
 ·simp
theorem qmo(n:Int):qmn n=some (qQh n):=by
 rw[qN8,qrD];unfold qQh;cases h0:decide (n<0)
 ·cases h1:decide (n>1000000)
  ·have h0:=of_decide_eq_false h0;have h1:=of_decide_eq_false h1;obtain⟨m,rfl⟩:=Int.eq_ofNat_of_zero_le (show 0<=n by omega);have hm:m<=1000000:=by omega
   have e1:((m:Int).tmod 10000)=((m%10000:Nat):Int):=rfl;have e2:((m:Int).tdiv 10000)=((m / 10000:Nat):Int):=rfl;have e3:IntKind.i64.wrap ((m / 10000:Nat):Int)=((m / 10000:Nat):Int):=wrap64 (by omega) (by omega);have e4:IntKind.i64.wrap (10000+((m%10000:Nat):Int))=((10000+m%10000:Nat):Int):=by rw[wrap64 (by omega) (by omega)];omega
   have hlt:m%10000<10000:=Nat.mod_lt _ (by decide);have hd:=qUI (m:=m / 10000) (by omega);obtain⟨_,ht,_⟩:=qk4 hlt;have hw:∀k:Nat,k<=1000000->(decide (-9223372036854775808<=((k:Nat):Int))&&decide (((k:Nat):Int)<=9223372036854775807))=true:=fun k hk=>by
    rw[jA8 (by omega),jA8 (by omega)];rfl
   have q1:leB 1 (49::four (m%10000)).length=true:=rfl;have q2:List.drop 1 (49::four (m%10000))=four (m%10000):=rfl;have q3:decide ((four (m%10000)).length<=9223372036854775807)=true:=rfl;simp only[e1,e2,e3,e4,hw _ (show 10000+m%10000<=1000000 by omega),hw _ (show m / 10000<=1000000 by omega),Lib.itoa_nonneg,q5C hlt,q1,q2,q3,ev_bi_some,br_eq,jA9,jAa,ev_br,Bool.or_false];rw[jB5];unfold qiJ qdl;generalize Lib.trimRightB (four (m%10000)) 48=p at ht;have g1:decide ((Lib.decDigits (m / 10000)).length+1<=4611686018427387904)=true:=jA8 (by omega);have g2:decide (1+p.length<=4611686018427387904)=true:=jA8 (by omega);have g3:decide ((Lib.decDigits (m / 10000)).length+([46]++p).length<=4611686018427387904)=true:=jA8 (by rw[jA2,jA0,jA4];omega);have g4:decide ((Lib.decDigits (m / 10000)++([46]++p)).length+1<=4611686018427387904)=true:=jA8 (by rw[jA2,jA2,jA0,jA4];omega);have e5:(p != [])= !(p== []):=rfl;rw[g1,g2,g3,g4,e5];cases(p== [])
   ·simp[jAf]
   ·simp
  ·simp
 ·simp
end Go.Proofs.H16
namespace Go.Tk
open Go Go.Eng
set_option linter.unusedSimpArgs false
set_option linter.unusedVariables false
def qcr(s:Bs):Int:=bif qbO s then 5 else 4
def isW(s:Bs):List Tok->Bool
 | []=>false
 |t::_=>t.text==s&&t.kind==qcr s
def qkw(s:Bs):Option Int:=bif qg5 s&& !qhk s then some (qa4 0 s:Int)else none
def numAt:List Tok->Option Int
 | []=>none
 |t::_=>bif t.kind==2 then qkw t.text else none
inductive Rs where
 |bad (r:List Tok)
 |ok (e:Ex) (r:List Tok)
inductive Md where
 |ex|cmp|neg|prim
 |bin (k:Nat)
 |lp (k:Nat) (e:Ex)
def lvS:Nat->List (Bs×Int)
 |0=>[([111,114],15)]
 |1=>[([97,110,100],14)]
 |2=>[([61,61],10),([33,61],11),([60],12),([60,61],13)]
 |3=>[([43],5),([45],6)]
 |4=>[([42],7),([47],8)]
 |_=>[]
def opAt(k:Nat)(l:List Tok):Int:=match (lvS k).find? (fun x=>isW x.1 l)with
 |some x=>x.2
 |none=>0
def qdh(o:Option Rs)(f:Ex->List Tok->Option Rs):Option Rs:=match o with
 |none=>none
 |some (.bad r)=>some (.bad r)
 |some (.ok e r)=>f e r
def qb0(s:Bs)(r:List Tok)(k:List Tok->Option Rs):Option Rs:=bif isW s r then k r.tail else some (.bad r)
def exN(o:Int)(l:List Ex):Ex:=.mk o 0 [] l
def qeO(op:Int)(p:List Tok->Option Rs)(r:List Tok):Option Rs:=
 qb0 [40] r fun r=>qdh (p r) fun a r=>qb0 [44] r fun r=>qdh (p r) fun b r=>qb0 [41] r fun r=>some (.ok (exN op [a,b]) r)
def qg8(l:List Tok):Rs:=match l with
 | []=>.bad []
 |t::r=>bif t.kind==1 then .ok (.mk 4 0 t.text []) r
  else bif t.kind==3 then(bif (qbm t.text).2==0 then .ok (.mk 3 (qbm t.text).1 [] []) r else .bad l)
  else match numAt l with
   |some n=>.ok (.mk 1 n [] []) r
   |none=>.bad l
def prs:Nat->Md->List Tok->Option Rs
 |0,_,_=>none
 |n+1,.ex,l=>bif isW [105,102] l then
   qdh (prs n .ex l.tail) fun a r=>qb0 [116,104,101,110] r fun r=>qdh (prs n .ex r) fun b r=>qb0 [101,108,115,101] r fun r=>qdh (prs n .ex r) fun c r=>some (.ok (exN 19 [a,b,c]) r)
  else prs n (.bin 0) l
 |n+1,.bin k,l=>bif k==5 then prs n .neg l else bif k==2 then
   (bif isW [110,111,116] l then qdh (prs n (.bin 2) l.tail) fun a r=>some (.ok (exN 16 [a]) r)else prs n .cmp l)
  else qdh (prs n (.bin (k+1)) l) fun e r=>prs n (.lp k e) r
 |n+1,.cmp,l=>qdh (prs n (.bin 3) l) fun e r=>prs n (.lp 2 e) r
 |n+1,.lp k e,l=>bif opAt k l==0 then some (.ok e l)else
   qdh (prs n (.bin (k+1)) l.tail) fun b r=>bif k==2 then some (.ok (exN (opAt k l) [e,b]) r)else prs n (.lp k (exN (opAt k l) [e,b])) r
 |n+1,.neg,l=>bif isW [45] l then qdh (prs n .neg l.tail) fun a r=>some (.ok (exN 9 [a]) r)else prs n .prim l
 |n+1,.prim,l=>bif isW [36] l then(match numAt l.tail with
    |some v=>some (.ok (.mk 2 v [] []) l.tail.tail)
    |none=>some (.bad l.tail))
  else bif isW [109,105,110] l then qeO 17 (prs n .ex) l.tail
  else bif isW [109,97,120] l then qeO 18 (prs n .ex) l.tail
  else bif isW [40] l then qdh (prs n .ex l.tail) fun e r=>qb0 [41] r fun r=>some (.ok e r)
  else some (qg8 l)
theorem qzk(n:Nat)(l:List Tok):prs (n+1) .ex l=(bif isW [105,102] l then
   qdh (prs n .ex l.tail) fun a r=>qb0 [116,104,101,110] r fun r=>qdh (prs n .ex r) fun b r=>qb0 [101,108,115,101] r fun r=>qdh (prs n .ex r) fun c r=>some (.ok (exN 19 [a,b,c]) r)
  else prs n (.bin 0) l):=rfl
theorem qpo(n:Nat)(k:Nat)(l:List Tok):prs (n+1) (.bin k) l=(bif k==5 then prs n .neg l else bif k==2 then
   (bif isW [110,111,116] l then qdh (prs n (.bin 2) l.tail) fun a r=>some (.ok (exN 16 [a]) r)else prs n .cmp l)
  else qdh (prs n (.bin (k+1)) l) fun e r=>prs n (.lp k e) r):=rfl
theorem qv2(n:Nat)(l:List Tok):prs (n+1) .cmp l=(qdh (prs n (.bin 3) l) fun e r=>prs n (.lp 2 e) r):=rfl
theorem qzl(n:Nat)(k:Nat)(e:Ex)(l:List Tok):prs (n+1) (.lp k e) l=(bif opAt k l==0 then some (.ok e l)else
   qdh (prs n (.bin (k+1)) l.tail) fun b r=>bif k==2 then some (.ok (exN (opAt k l) [e,b]) r)else prs n (.lp k (exN (opAt k l) [e,b])) r):=rfl
theorem qpp(n:Nat)(l:List Tok):prs (n+1) .neg l=(bif isW [45] l then qdh (prs n .neg l.tail) fun a r=>some (.ok (exN 9 [a]) r)else prs n .prim l):=rfl
theorem qlr(n:Nat)(l:List Tok):prs (n+1) .prim l=(bif isW [36] l then(match numAt l.tail with
    |some v=>some (.ok (.mk 2 v [] []) l.tail.tail)
    |none=>some (.bad l.tail))
  else bif isW [109,105,110] l then qeO 17 (prs n .ex) l.tail
  else bif isW [109,97,120] l then qeO 18 (prs n .ex) l.tail
  else bif isW [40] l then qdh (prs n .ex l.tail) fun e r=>qb0 [41] r fun r=>some (.ok e r)
  else some (qg8 l)):=rfl
theorem qcA{o o':Option Rs}{f f':Ex->List Tok->Option Rs}(ho:∀r,o=some r->o'=some r)(hf:∀e r x,f e r=some x->f' e r=some x){x:Rs}(h:qdh o f=some x):qdh o' f'=some x:=by
 unfold qdh at h ⊢;cases o with
 |none=>cases h
 |some q=>
  rw[ho q rfl];cases q with
  |bad r=>exact h
  |ok e r=>exact hf _ _ _ h
theorem qeP{s:Bs}{r:List Tok}{f f':List Tok->Option Rs}(hf:∀r x,f r=some x->f' r=some x){x:Rs}(h:qb0 s r f=some x):qb0 s r f'=some x:=by
 unfold qb0 at h ⊢;revert h;cases isW s r
 ·exact fun h=>h
 ·exact fun h=>hf _ _ h
theorem qES{op:Int}{p p':List Tok->Option Rs}(hp:∀r x,p r=some x->p' r=some x){r:List Tok}{x:Rs}(h:qeO op p r=some x):qeO op p' r=some x:=by
 unfold qeO at h ⊢;exact qeP (fun r x h=>qcA (hp r) (fun a r x h=>qeP (fun r x h=>qcA (hp r) (fun b r x h=>h) h) h) h) h
theorem qjn:∀(n:Nat) (m:Md) (l:List Tok) (x:Rs),prs n m l=some x->prs (n+1) m l=some x:=by
 intro n
 induction n with
 |zero=>intro m l x h;cases h
 |succ n ih=>
  intro m l x h;cases m with
  |ex=>
   rw[qzk]at h ⊢;cases hi:isW [105,102] l
   ·rw[hi]at h;exact ih _ _ _ h
   ·rw[hi]at h;simp only[jAa]at h ⊢;exact qcA (ih _ _) (fun a r x h=>qeP (fun r x h=>qcA (ih _ _) (fun b r x h=>qeP (fun r x h=>qcA (ih _ _) (fun c r x h=>h) h) h) h) h) h
  |bin k=>
   rw[qpo]at h ⊢;cases h5:(k==5)
   ·rw[h5]at h;cases h2:(k==2)
    ·rw[h2]at h;exact qcA (ih _ _) (fun e r x h=>ih _ _ _ h) h
    ·rw[h2]at h;simp only[jAa,jA9]at h ⊢;cases hi:isW [110,111,116] l
     ·rw[hi]at h;exact ih _ _ _ h
     ·rw[hi]at h;exact qcA (ih _ _) (fun e r x h=>h) h
   ·rw[h5]at h;exact ih _ _ _ h
  |cmp=>rw[qv2]at h ⊢;exact qcA (ih _ _) (fun e r x h=>ih _ _ _ h) h
  |lp k e=>
   rw[qzl]at h ⊢;cases h0:(opAt k l==0)
   ·rw[h0]at h;simp only[jA9]at h ⊢;refine qcA (ih _ _) (fun b r x h=>?_) h;cases h2:(k==2)
    ·rw[h2]at h;exact ih _ _ _ h
    ·rw[h2]at h;exact h
   ·rw[h0]at h;exact h
  |neg=>
   rw[qpp]at h ⊢;cases hi:isW [45] l
   ·rw[hi]at h;exact ih _ _ _ h
   ·rw[hi]at h;exact qcA (ih _ _) (fun e r x h=>h) h
  |prim=>
   rw[qlr]at h ⊢;cases h1:isW [36] l
   ·rw[h1]at h;simp only[jA9]at h ⊢;cases h2:isW [109,105,110] l
    ·rw[h2]at h;simp only[jA9]at h ⊢;cases h3:isW [109,97,120] l
     ·rw[h3]at h;simp only[jA9]at h ⊢;cases h4:isW [40] l
      ·rw[h4]at h;exact h
      ·rw[h4]at h;exact qcA (ih _ _) (fun e r x h=>h) h
     ·rw[h3]at h;exact qES (fun r x h=>ih _ _ _ h) h
    ·rw[h2]at h;exact qES (fun r x h=>ih _ _ _ h) h
   ·rw[h1]at h;exact h
theorem qBt{n k:Nat}(hk:n<=k){m:Md}{l:List Tok}{x:Rs}(h:prs n m l=some x):prs k m l=some x:=by
 induction hk with
 |refl=>exact h
 |step _ ih=>exact qjn _ _ _ _ ih
def Ev(m:Md)(l:List Tok)(x:Rs):Prop:=∃n,prs n m l=some x
theorem Ev.fn{m:Md}{l:List Tok}{x y:Rs}(h:Ev m l x)(h':Ev m l y):x=y:=by
 obtain⟨n,hn⟩:=h;obtain⟨k,hk⟩:=h';have h1:=qBt (Nat.le_max_left n k) hn;have h2:=qBt (jCq n k) hk;rw[h1]at h2;cases h2;rfl
def Thn(x:Rs)(f:Ex->List Tok->Rs->Prop)(y:Rs):Prop:=match x with
 | .bad r=>y= .bad r
 | .ok e r=>f e r y
def Wnt(s:Bs)(r:List Tok)(f:List Tok->Rs->Prop)(y:Rs):Prop:=(isW s r=true/\f r.tail y)\/(isW s r=false/\y= .bad r)
theorem Thn.mono{x:Rs}{f g:Ex->List Tok->Rs->Prop}{y:Rs}(h:Thn x f y)(hf:∀e r y,f e r y->g e r y):Thn x g y:=by
 cases x with
 |bad r=>exact h
 |ok e r=>exact hf _ _ _ h
theorem Wnt.mono{s:Bs}{r:List Tok}{f g:List Tok->Rs->Prop}{y:Rs}(h:Wnt s r f y)(hf:∀r y,f r y->g r y):Wnt s r g y:=by
 rcases h with⟨h1,h2⟩|h
 ·exact .inl ⟨h1,hf _ _ h2⟩
 ·exact .inr h
theorem qtL{s:Bs}{r:List Tok}{F:Nat->List Tok->Option Rs}{y:Rs}(h:Wnt s r (fun r y=>∃n,F n r=some y) y):∃n,qb0 s r (F n)=some y:=by
 rcases h with⟨h1,n,hn⟩|⟨h1,h2⟩
 ·exact⟨n,by unfold qb0;rw[h1];exact hn⟩
 ·exact⟨0,by unfold qb0;rw[h1,h2];rfl⟩
theorem qjJ{m:Md}{l:List Tok}{x y:Rs}{F:Nat->Ex->List Tok->Option Rs}(hx:Ev m l x)(hF:∀n e r z,F n e r=some z->F (n+1) e r=some z)(hy:Thn x (fun e r y=>∃n,F n e r=some y) y):∃n,qdh (prs n m l) (F n)=some y:=by
 obtain⟨n,hn⟩:=hx;have hF':∀{n k},n<=k-> ∀e r z,F n e r=some z->F k e r=some z:=by
  intro n k hk
  induction hk with
  |refl=>intro e r z h;exact h
  |step _ ih=>intro e r z h;exact hF _ _ _ _ (ih _ _ _ h)
 cases x with
 |bad r=>
  cases hy;exact⟨n,by rw[hn];rfl⟩
 |ok e r=>
  obtain⟨k,hk⟩:=hy;refine⟨max n k,?_⟩;rw[qBt (Nat.le_max_left n k) hn];exact hF' (jCq n k) _ _ _ hk
theorem qdP{m:Md}{l:List Tok}{y:Rs}{F:Nat->Option Rs}(he:∀n,prs (n+1) m l=F n)(h:∃n,F n=some y):Ev m l y:=by
 obtain⟨n,hn⟩:=h;exact⟨n+1,by rw[he,hn]⟩
theorem qDA{l:List Tok}{y:Rs}(h0:isW [105,102] l=false)(h:Ev (.bin 0) l y):Ev .ex l y:=qdP (fun n=>by simp only[prs,h0,jA9]) h
theorem qAp{l:List Tok}{y:Rs}(h:Ev .neg l y):Ev (.bin 5) l y:=qdP (fun n=>by simp only[prs];rfl) h
theorem qG8{l:List Tok}{y:Rs}(h0:isW [110,111,116] l=false)(h:Ev .cmp l y):Ev (.bin 2) l y:=qdP (fun n=>by simp only[prs,h0,jA9];rfl) h
theorem qUX{l:List Tok}{x y:Rs}(h0:isW [110,111,116] l=true)(h:Ev (.bin 2) l.tail x)(hy:Thn x (fun a r y=>y= .ok (exN 16 [a]) r) y):Ev (.bin 2) l y:=by
 refine qdP (F:=fun n=>qdh (prs n (.bin 2) l.tail) fun a r=>some (.ok (exN 16 [a]) r)) (fun n=>by simp only[prs,h0,jAa];rfl) (qjJ h (fun n e r z h=>h) ?_);cases x with
 |bad r=>exact hy
 |ok e r=>exact⟨0,by rw[show y=_ from hy]⟩
theorem qj3{k:Nat}(hk:(k==5)=false)(hk2:(k==2)=false){l:List Tok}{x y:Rs}(h:Ev (.bin (k+1)) l x)(hy:Thn x (fun e r y=>Ev (.lp k e) r y) y):Ev (.bin k) l y:=
 qdP (F:=fun n=>qdh (prs n (.bin (k+1)) l) fun e r=>prs n (.lp k e) r) (fun n=>by simp only[prs,hk,hk2,jA9]) (qjJ h (fun n e r z h=>qjn _ _ _ _ h) hy)
theorem qDz{l:List Tok}{x y:Rs}(h:Ev (.bin 3) l x)(hy:Thn x (fun e r y=>Ev (.lp 2 e) r y) y):Ev .cmp l y:=
 qdP (F:=fun n=>qdh (prs n (.bin 3) l) fun e r=>prs n (.lp 2 e) r) (fun n=>by simp only[prs]) (qjJ h (fun n e r z h=>qjn _ _ _ _ h) hy)
theorem qqs{k:Nat}{e:Ex}{l:List Tok}(h:opAt k l=0):Ev (.lp k e) l (.ok e l):=⟨1,by simp only[prs,h];rfl⟩
theorem zgc{k:Nat}(hk:(k==2)=false){e:Ex}{l:List Tok}{x y:Rs}(h0:opAt k l≠0)(h:Ev (.bin (k+1)) l.tail x)(hy:Thn x (fun b r y=>Ev (.lp k (exN (opAt k l) [e,b])) r y) y):Ev (.lp k e) l y:=
 qdP (F:=fun n=>qdh (prs n (.bin (k+1)) l.tail) fun b r=>prs n (.lp k (exN (opAt k l) [e,b])) r) (fun n=>by
  have:(opAt k l==0)=false:=by simpa using h0
  simp only[prs,this,hk,jA9]) (qjJ h (fun n e r z h=>qjn _ _ _ _ h) hy)
theorem qUV{e:Ex}{l:List Tok}{x y:Rs}(h0:opAt 2 l≠0)(h:Ev (.bin 3) l.tail x)(hy:Thn x (fun b r y=>y= .ok (exN (opAt 2 l) [e,b]) r) y):Ev (.lp 2 e) l y:=by
 refine qdP (F:=fun n=>qdh (prs n (.bin 3) l.tail) fun b r=>some (.ok (exN (opAt 2 l) [e,b]) r)) (fun n=>by
  have:(opAt 2 l==0)=false:=by simpa using h0
  simp only[prs,this,jA9];rfl) (qjJ h (fun n e r z h=>h) ?_)
 cases x with
 |bad r=>exact hy
 |ok e r=>exact⟨0,by rw[show y=_ from hy]⟩
theorem qUW{l:List Tok}{x y:Rs}(h0:isW [45] l=true)(h:Ev .neg l.tail x)(hy:Thn x (fun a r y=>y= .ok (exN 9 [a]) r) y):Ev .neg l y:=by
 refine qdP (F:=fun n=>qdh (prs n .neg l.tail) fun a r=>some (.ok (exN 9 [a]) r)) (fun n=>by simp only[prs,h0,jAa]) (qjJ h (fun n e r z h=>h) ?_);cases x with
 |bad r=>exact hy
 |ok e r=>exact⟨0,by rw[show y=_ from hy]⟩
theorem qHb{l:List Tok}{y:Rs}(h0:isW [45] l=false)(h:Ev .prim l y):Ev .neg l y:=qdP (fun n=>by simp only[prs,h0,jA9]) h
theorem qG9{l:List Tok}{xa:Rs}{y:Rs}(h0:isW [105,102] l=true)(ha:Ev .ex l.tail xa)
  (hy:Thn xa (fun a r y=>Wnt [116,104,101,110] r (fun r y=>∃xb,Ev .ex r xb/\Thn xb (fun b r y=>Wnt [101,108,115,101] r (fun r y=>∃xc,Ev .ex r xc/\Thn xc (fun c r y=>y= .ok (exN 19 [a,b,c]) r) y) y) y) y) y):Ev .ex l y:=by
 have hc:∀(a b:Ex) (n:Nat) (r:List Tok) (z:Rs),qdh (prs n .ex r) (fun c r=>some (.ok (exN 19 [a,b,c]) r))=some z->qdh (prs (n+1) .ex r) (fun c r=>some (.ok (exN 19 [a,b,c]) r))=some z:=
  fun a b n r z h=>qcA (fun r h=>qjn _ _ _ _ h) (fun _ _ _ h=>h) h
 have hb:∀(a:Ex) (n:Nat) (r:List Tok) (z:Rs),qdh (prs n .ex r) (fun b r=>qb0 [101,108,115,101] r fun r=>qdh (prs n .ex r) fun c r=>some (.ok (exN 19 [a,b,c]) r))=some z ->
   qdh (prs (n+1) .ex r) (fun b r=>qb0 [101,108,115,101] r fun r=>qdh (prs (n+1) .ex r) fun c r=>some (.ok (exN 19 [a,b,c]) r))=some z:=
  fun a n r z h=>qcA (fun r h=>qjn _ _ _ _ h) (fun b r x h=>qeP (fun r x h=>hc a b n r x h) h) h
 refine qdP (F:=fun n=>qdh (prs n .ex l.tail) fun a r=>qb0 [116,104,101,110] r fun r=>qdh (prs n .ex r) fun b r=>qb0 [101,108,115,101] r fun r=>qdh (prs n .ex r) fun c r=>some (.ok (exN 19 [a,b,c]) r))
  (fun n=>by simp only[prs,h0,jAa]) (qjJ ha (fun n a r z h=>qeP (fun r x h=>hb a n r x h) h) ?_)
 exact hy.mono fun a r y h=>qtL (F:=fun n r=>qdh (prs n .ex r) fun b r=>qb0 [101,108,115,101] r fun r=>qdh (prs n .ex r) fun c r=>some (.ok (exN 19 [a,b,c]) r)) (h.mono fun r y ⟨xb,hxb,h⟩=>
  qjJ (F:=fun n b r=>qb0 [101,108,115,101] r fun r=>qdh (prs n .ex r) fun c r=>some (.ok (exN 19 [a,b,c]) r)) hxb (fun n b r z h=>qeP (fun r x h=>hc a b n r x h) h) (h.mono fun b r y h=>
   qtL (F:=fun n r=>qdh (prs n .ex r) fun c r=>some (.ok (exN 19 [a,b,c]) r)) (h.mono fun r y ⟨xc,hxc,h⟩=>
    qjJ (F:=fun n c r=>some (.ok (exN 19 [a,b,c]) r)) hxc (fun n c r z h=>h) (h.mono fun c r y h=>⟨0,by rw[h]⟩))))
def qNu(op:Int)(r:List Tok)(y:Rs):Prop:=
 Wnt [40] r (fun r y=>∃xa,Ev .ex r xa/\Thn xa (fun a r y=>Wnt [44] r (fun r y=>∃xb,Ev .ex r xb/\Thn xb (fun b r y=>Wnt [41] r (fun r y=>y= .ok (exN op [a,b]) r) y) y) y) y) y
theorem qJY{op:Int}{r:List Tok}{y:Rs}(h:qNu op r y):∃n,qeO op (prs n .ex) r=some y:=by
 have hb:∀(a:Ex) (n:Nat) (r:List Tok) (z:Rs),qdh (prs n .ex r) (fun b r=>qb0 [41] r fun r=>some (.ok (exN op [a,b]) r))=some z->qdh (prs (n+1) .ex r) (fun b r=>qb0 [41] r fun r=>some (.ok (exN op [a,b]) r))=some z:=
  fun a n r z h=>qcA (fun r h=>qjn _ _ _ _ h) (fun _ _ _ h=>h) h
 unfold qeO;exact qtL (F:=fun n r=>qdh (prs n .ex r) fun a r=>qb0 [44] r fun r=>qdh (prs n .ex r) fun b r=>qb0 [41] r fun r=>some (.ok (exN op [a,b]) r)) (h.mono fun r y ⟨xa,hxa,h⟩=>
  qjJ (F:=fun n a r=>qb0 [44] r fun r=>qdh (prs n .ex r) fun b r=>qb0 [41] r fun r=>some (.ok (exN op [a,b]) r)) hxa (fun n a r z h=>qeP (fun r x h=>hb a n r x h) h) (h.mono fun a r y h=>
   qtL (F:=fun n r=>qdh (prs n .ex r) fun b r=>qb0 [41] r fun r=>some (.ok (exN op [a,b]) r)) (h.mono fun r y ⟨xb,hxb,h⟩=>
    qjJ (F:=fun n b r=>qb0 [41] r fun r=>some (.ok (exN op [a,b]) r)) hxb (fun n b r z h=>h) (h.mono fun b r y h=>
     qtL (F:=fun _ r=>some (.ok (exN op [a,b]) r)) (h.mono fun r y h=>⟨0,by rw[h]⟩)))))
theorem qUU{l:List Tok}(h0:isW [36] l=true):Ev .prim l (match numAt l.tail with|some v=>.ok (.mk 2 v [] []) l.tail.tail|none=>.bad l.tail):=
 ⟨1,by simp only[prs,h0,jAa];cases numAt l.tail<;>rfl⟩
theorem zan{l:List Tok}{y:Rs}(h1:isW [36] l=false)(h2:isW [109,105,110] l=true)(h:qNu 17 l.tail y):Ev .prim l y:=
 qdP (F:=fun n=>qeO 17 (prs n .ex) l.tail) (fun n=>by simp only[prs,h1,h2,jAa,jA9]) (qJY h)
theorem zam{l:List Tok}{y:Rs}(h1:isW [36] l=false)(h2:isW [109,105,110] l=false)(h3:isW [109,97,120] l=true)(h:qNu 18 l.tail y):Ev .prim l y:=
 qdP (F:=fun n=>qeO 18 (prs n .ex) l.tail) (fun n=>by simp only[prs,h1,h2,h3,jAa,jA9]) (qJY h)
theorem qJZ{l:List Tok}{x y:Rs}(h1:isW [36] l=false)(h2:isW [109,105,110] l=false)(h3:isW [109,97,120] l=false)(h4:isW [40] l=true)(h:Ev .ex l.tail x)(hy:Thn x (fun e r y=>Wnt [41] r (fun r y=>y= .ok e r) y) y):Ev .prim l y:=by
 refine qdP (F:=fun n=>qdh (prs n .ex l.tail) fun e r=>qb0 [41] r fun r=>some (.ok e r)) (fun n=>by simp only[prs,h1,h2,h3,h4,jAa,jA9]) (qjJ h (fun n e r z h=>h) ?_);cases x with
 |bad r=>exact hy
 |ok e r=>
  rcases hy with⟨h1,hy⟩|⟨h1,hy⟩
  ·exact⟨0,by simp only[qb0,h1,jAa];rw[hy]⟩
  ·exact⟨0,by simp only[qb0,h1,jA9];rw[hy]⟩
theorem qHa{l:List Tok}(h1:isW [36] l=false)(h2:isW [109,105,110] l=false)(h3:isW [109,97,120] l=false)(h4:isW [40] l=false):Ev .prim l (qg8 l):=
 ⟨1,by simp only[prs,h1,h2,h3,h4,jA9]⟩
theorem qbw{s:Bs}{l:List Tok}(h:isW s l=true):∃t r,l=t::r:=by
 cases l with
 |nil=>cases h
 |cons t r=>exact⟨t,r,rfl⟩
theorem qvA{k:Nat}{l:List Tok}(h:opAt k l≠0):∃t r,l=t::r:=by
 unfold opAt at h;cases hf:(lvS k).find? (fun x=>isW x.1 l)with
 |none=>rw[hf]at h;exact absurd rfl h
 |some x=>
  have h2:=jC4 (p:=fun x:Bs×Int=>isW x.1 l) hf;exact qbw (s:=x.1) h2
def zki(m:Md)(l r:List Tok):Prop:=match m with
 | .lp _ _=>r.length<=l.length
 |_=>r.length<l.length
theorem qP5{l:List Tok}{e:Ex}{r:List Tok}(h:qg8 l= .ok e r):r.length<l.length:=by
 unfold qg8 at h;cases l with
 |nil=>cases h
 |cons t l=>
  simp only at h;cases h1:(t.kind==1)
  ·rw[h1]at h;cases h3:(t.kind==3)
   ·rw[h3]at h;simp only[jA9]at h;split at h
    ·cases h;simp
    ·cases h
   ·rw[h3]at h;simp only[jAa,jA9]at h;cases h4:((qbm t.text).2==0)
    ·rw[h4]at h;cases h
    ·rw[h4]at h;cases h;simp
  ·rw[h1]at h;cases h;simp
theorem qdt{o:Option Rs}{f:Ex->List Tok->Option Rs}{e:Ex}{r:List Tok}(h:qdh o f=some (.ok e r)):∃e' r',o=some (.ok e' r')/\f e' r'=some (.ok e r):=by
 unfold qdh at h;split at h
 ·cases h
 ·cases h
 ·exact⟨_,_,rfl,h⟩
theorem qjF{s:Bs}{l:List Tok}{f:List Tok->Option Rs}{e:Ex}{r:List Tok}(h:qb0 s l f=some (.ok e r)):∃t l',l=t::l'/\isW s l=true/\f l'=some (.ok e r):=by
 unfold qb0 at h;cases hq:isW s l
 ·rw[hq]at h;cases h
 ·rw[hq]at h;obtain⟨t,l',rfl⟩:=qbw hq;exact⟨t,l',rfl,rfl,h⟩
theorem qZW{op:Int}{p:List Tok->Option Rs}{l:List Tok}{e:Ex}{r:List Tok}(h:qeO op p l=some (.ok e r)) :
  ∃t1 l1 a t2 l2 b t3,l=t1::l1/\p l1=some (.ok a (t2::l2))/\p l2=some (.ok b (t3::r))/\e=exN op [a,b]:=by
 unfold qeO at h;obtain⟨t1,l1,rfl,_,h⟩:=qjF h;obtain⟨a,r1,h1,h⟩:=qdt h;obtain⟨t2,l2,rfl,_,h⟩:=qjF h;obtain⟨b,r2,h2,h⟩:=qdt h;obtain⟨t3,l3,rfl,_,h⟩:=qjF h;cases h;exact⟨t1,l1,a,t2,l2,b,t3,rfl,h1,h2,rfl⟩
theorem qZ9:∀(n:Nat) (m:Md) (l:List Tok) (e:Ex) (r:List Tok),prs n m l=some (.ok e r)->zki m l r:=by
 intro n
 induction n with
 |zero=>intro m l e r h;cases h
 |succ n ih=>
  intro m l e r h;cases m with
  |ex=>
   simp only[prs]at h;show r.length<l.length;cases hi:isW [105,102] l
   ·rw[hi]at h;exact ih _ _ _ _ h
   ·rw[hi]at h;obtain⟨t,l',rfl⟩:=qbw hi;simp only[jAa,jB3]at h;obtain⟨a,r1,h1,h⟩:=qdt h;obtain⟨t1,l1,rfl,_,h⟩:=qjF h;obtain⟨b,r2,h2,h⟩:=qdt h;obtain⟨t2,l2,rfl,_,h⟩:=qjF h;obtain⟨c,r3,h3,h⟩:=qdt h;cases h;have q1:_<_:=ih _ _ _ _ h1;have q2:_<_:=ih _ _ _ _ h2;have q3:_<_:=ih _ _ _ _ h3;simp only[jA0]at q1 q2 q3 ⊢;omega
  |bin k=>
   simp only[prs]at h;show r.length<l.length;cases h5:(k==5)
   ·rw[h5]at h;cases h2:(k==2)
    ·rw[h2]at h;simp only[jA9]at h;obtain⟨a,r1,h1,h⟩:=qdt h;have q1:_<_:=ih _ _ _ _ h1;have q2:_<=_:=ih _ _ _ _ h;omega
    ·rw[h2]at h;simp only[jAa,jA9]at h;cases hi:isW [110,111,116] l
     ·rw[hi]at h;exact ih _ _ _ _ h
     ·rw[hi]at h;obtain⟨t,l',rfl⟩:=qbw hi;obtain⟨a,r1,h1,h⟩:=qdt h;cases h;have q1:_<_:=ih _ _ _ _ h1;simp only[jB3,jA0]at q1 ⊢;omega
   ·rw[h5]at h;exact ih _ _ _ _ h
  |cmp=>
   simp only[prs]at h;show r.length<l.length;obtain⟨a,r1,h1,h⟩:=qdt h;have q1:_<_:=ih _ _ _ _ h1;have q2:_<=_:=ih _ _ _ _ h;omega
  |lp k e0=>
   simp only[prs]at h;show r.length<=l.length;cases h0:(opAt k l==0)
   ·rw[h0]at h;obtain⟨t,l',rfl⟩:=qvA (by simpa using h0);simp only[jA9,jB3]at h;obtain⟨b,r1,h1,h⟩:=qdt h;have q1:_<_:=ih _ _ _ _ h1;cases h2:(k==2)
    ·rw[h2]at h;have q2:_<=_:=ih _ _ _ _ h;simp only[jA0];omega
    ·rw[h2]at h;cases h;simp only[jA0];omega
   ·rw[h0]at h;cases h;exact jAj _
  |neg=>
   simp only[prs]at h;show r.length<l.length;cases hi:isW [45] l
   ·rw[hi]at h;exact ih _ _ _ _ h
   ·rw[hi]at h;obtain⟨t,l',rfl⟩:=qbw hi;obtain⟨a,r1,h1,h⟩:=qdt h;cases h;have q1:_<_:=ih _ _ _ _ h1;simp only[jB3,jA0]at q1 ⊢;omega
  |prim=>
   simp only[prs]at h;show r.length<l.length;have hpair:∀{op:Int} {t:Tok} {l':List Tok},qeO op (prs n .ex) l'=some (.ok e r)->r.length<(t::l').length:=by
    intro op t l' h;obtain⟨t1,l1,a,t2,l2,b,t3,rfl,h1,h2,_⟩:=qZW h;have q1:_<_:=ih _ _ _ _ h1;have q2:_<_:=ih _ _ _ _ h2;simp only[jA0]at q1 q2 ⊢;omega
   cases h1:isW [36] l
   ·rw[h1]at h;simp only[jA9]at h;cases h2:isW [109,105,110] l
    ·rw[h2]at h;simp only[jA9]at h;cases h3:isW [109,97,120] l
     ·rw[h3]at h;simp only[jA9]at h;cases h4:isW [40] l
      ·rw[h4]at h;simp only[jA9,jA7]at h;exact qP5 h
      ·rw[h4]at h;obtain⟨t,l',rfl⟩:=qbw h4;simp only[jAa,jB3]at h;obtain⟨a,r1,h1,h⟩:=qdt h;obtain⟨t1,l1,rfl,_,h⟩:=qjF h;cases h;have q1:_<_:=ih _ _ _ _ h1;simp only[jA0]at q1 ⊢;omega
     ·rw[h3]at h;obtain⟨t,l',rfl⟩:=qbw h3;exact hpair h
    ·rw[h2]at h;obtain⟨t,l',rfl⟩:=qbw h2;exact hpair h
   ·rw[h1]at h;obtain⟨t,l',rfl⟩:=qbw h1;simp only[jAa,jB3]at h;split at h
    ·rename_i v hv;cases h;cases l' with
     |nil=>cases hv
     |cons t' l'=>simp only[jB3,jA0];omega
    ·cases h
theorem Ev.short{m:Md}{l:List Tok}{e:Ex}{r:List Tok}(h:Ev m l (.ok e r)):zki m l r:=h.elim fun n hn=>qZ9 n _ _ _ _ hn
def wgt:Md->Nat
 | .prim=>0
 | .neg=>1
 | .bin k=>if k>=5 then 2 else if k=4 then 3 else if k=3 then 4 else if k=2 then 6 else if k=1 then 7 else 8
 | .cmp=>5
 | .ex=>9
 | .lp _ _=>10
def zpF:Md->Bool
 | .bin k=>decide (k<=5)
 | .lp k _=>decide (k<=4)
 |_=>true
theorem zlG:∀(n w:Nat) (m:Md) (l:List Tok),l.length=n->wgt m=w->zpF m=true-> ∃x,Ev m l x:=by
 intro n
 induction n using Nat.strongRecOn with
 |_ n ihn=>
  have hex:∀{l':List Tok},l'.length<n-> ∀m,zpF m=true-> ∃x,Ev m l' x:=fun h m hm=>ihn _ h _ m _ rfl rfl hm
  intro w
  induction w using Nat.strongRecOn with
  |_ w ihw=>
   intro m l hl hw hm;have hlow:∀m',wgt m'<w->zpF m'=true-> ∃x,Ev m' l x:=fun m' h hm'=>ihw _ h m' l hl rfl hm'
   have hpair:∀(op:Int) (t:Tok) (l':List Tok),l=t::l'-> ∃y,qNu op l' y:=by
    intro op t l' he;unfold qNu;by_cases h1:isW [40] l'=true
    ·obtain⟨t1,l1,rfl⟩:=qbw h1;obtain⟨xa,hxa⟩:=hex (l':=l1) (by rw[<-hl,he];simp;omega) .ex rfl;cases xa with
     |bad r=>exact⟨_,.inl ⟨h1,_,hxa,rfl⟩⟩
     |ok a r=>
      have q1:_<_:=hxa.short;by_cases h2:isW [44] r=true
      ·obtain⟨t2,l2,rfl⟩:=qbw h2;obtain⟨xb,hxb⟩:=hex (l':=l2) (by rw[<-hl,he];simp only[jA0]at q1 ⊢;omega) .ex rfl;cases xb with
       |bad r=>exact⟨_,.inl ⟨h1,_,hxa,.inl ⟨h2,_,hxb,rfl⟩⟩⟩
       |ok b r=>
        by_cases h3:isW [41] r=true
        ·exact⟨_,.inl ⟨h1,_,hxa,.inl ⟨h2,_,hxb,.inl ⟨h3,rfl⟩⟩⟩⟩
        ·exact⟨_,.inl ⟨h1,_,hxa,.inl ⟨h2,_,hxb,.inr ⟨by simpa using h3,rfl⟩⟩⟩⟩
      ·exact⟨_,.inl ⟨h1,_,hxa,.inr ⟨by simpa using h2,rfl⟩⟩⟩
    ·exact⟨_,.inr ⟨by simpa using h1,rfl⟩⟩
   cases m with
   |prim=>
    cases h1:isW [36] l
    ·cases h2:isW [109,105,110] l
     ·cases h3:isW [109,97,120] l
      ·cases h4:isW [40] l
       ·exact⟨_,qHa h1 h2 h3 h4⟩
       ·obtain⟨t,l',rfl⟩:=qbw h4;obtain⟨x,hx⟩:=hex (l':=l') (by rw[<-hl];simp) .ex rfl;cases x with
        |bad r=>exact⟨_,qJZ h1 h2 h3 h4 hx rfl⟩
        |ok e r=>
         by_cases h5:isW [41] r=true
         ·exact⟨_,qJZ h1 h2 h3 h4 hx (.inl ⟨h5,rfl⟩)⟩
         ·exact⟨_,qJZ h1 h2 h3 h4 hx (.inr ⟨by simpa using h5,rfl⟩)⟩
      ·obtain⟨t,l',rfl⟩:=qbw h3;obtain⟨y,hy⟩:=hpair 18 t l' rfl;exact⟨y,zam h1 h2 h3 hy⟩
     ·obtain⟨t,l',rfl⟩:=qbw h2;obtain⟨y,hy⟩:=hpair 17 t l' rfl;exact⟨y,zan h1 h2 hy⟩
    ·exact⟨_,qUU h1⟩
   |neg=>
    cases h1:isW [45] l
    ·obtain⟨x,hx⟩:=hlow .prim (by rw[<-hw];decide) rfl;exact⟨x,qHb h1 hx⟩
    ·obtain⟨t,l',rfl⟩:=qbw h1;obtain⟨x,hx⟩:=hex (l':=l') (by rw[<-hl];simp) .neg rfl;cases x with
     |bad r=>exact⟨_,qUW h1 hx rfl⟩
     |ok e r=>exact⟨_,qUW h1 hx rfl⟩
   |cmp=>
    obtain⟨x,hx⟩:=hlow (.bin 3) (by rw[<-hw];decide) rfl;cases x with
    |bad r=>exact⟨_,qDz hx rfl⟩
    |ok e r=>
     have q1:_<_:=hx.short;obtain⟨y,hy⟩:=hex (l':=r) (by omega) (.lp 2 e) rfl;exact⟨y,qDz hx hy⟩
   |ex=>
    cases h1:isW [105,102] l
    ·obtain⟨x,hx⟩:=hlow (.bin 0) (by rw[<-hw];decide) rfl;exact⟨x,qDA h1 hx⟩
    ·obtain⟨t,l',rfl⟩:=qbw h1;obtain⟨xa,hxa⟩:=hex (l':=l') (by rw[<-hl];simp) .ex rfl;cases xa with
     |bad r=>exact⟨_,qG9 h1 hxa rfl⟩
     |ok a r=>
      have q1:_<_:=hxa.short;by_cases h2:isW [116,104,101,110] r=true
      ·obtain⟨t2,l2,rfl⟩:=qbw h2;obtain⟨xb,hxb⟩:=hex (l':=l2) (by rw[<-hl];simp only[jA0,jB3]at q1 ⊢;omega) .ex rfl;cases xb with
       |bad r=>exact⟨_,qG9 h1 hxa (.inl ⟨h2,_,hxb,rfl⟩)⟩
       |ok b r=>
        have q2:_<_:=hxb.short;by_cases h3:isW [101,108,115,101] r=true
        ·obtain⟨t3,l3,rfl⟩:=qbw h3;obtain⟨xc,hxc⟩:=hex (l':=l3) (by rw[<-hl];simp only[jA0,jB3]at q1 q2 ⊢;omega) .ex rfl;cases xc with
         |bad r=>exact⟨_,qG9 h1 hxa (.inl ⟨h2,_,hxb,.inl ⟨h3,_,hxc,rfl⟩⟩)⟩
         |ok c r=>exact⟨_,qG9 h1 hxa (.inl ⟨h2,_,hxb,.inl ⟨h3,_,hxc,rfl⟩⟩)⟩
        ·exact⟨_,qG9 h1 hxa (.inl ⟨h2,_,hxb,.inr ⟨by simpa using h3,rfl⟩⟩)⟩
      ·exact⟨_,qG9 h1 hxa (.inr ⟨by simpa using h2,rfl⟩)⟩
   |bin k=>
    have hk:k<=5:=jBd hm;have hgen:(k==5)=false->(k==2)=false->wgt (.bin (k+1))<w-> ∃x,Ev (.bin k) l x:=by
     intro h5 h2 hlt;have hk5:k≠5:=by simpa using h5
     obtain⟨x,hx⟩:=hlow (.bin (k+1)) hlt (jA8 (by omega));cases x with
     |bad r=>exact⟨_,qj3 h5 h2 hx rfl⟩
     |ok e r=>
      have q1:_<_:=hx.short;obtain⟨y,hy⟩:=hex (l':=r) (by omega) (.lp k e) (jA8 (by omega));exact⟨y,qj3 h5 h2 hx hy⟩
    match k,hk with
    |0,_=>exact hgen rfl rfl (by rw[<-hw];decide)
    |1,_=>exact hgen rfl rfl (by rw[<-hw];decide)
    |3,_=>exact hgen rfl rfl (by rw[<-hw];decide)
    |4,_=>exact hgen rfl rfl (by rw[<-hw];decide)
    |2,_=>
     cases h1:isW [110,111,116] l
     ·obtain⟨x,hx⟩:=hlow .cmp (by rw[<-hw];decide) rfl;exact⟨x,qG8 h1 hx⟩
     ·obtain⟨t,l',rfl⟩:=qbw h1;obtain⟨x,hx⟩:=hex (l':=l') (by rw[<-hl];simp) (.bin 2) rfl;cases x with
      |bad r=>exact⟨_,qUX h1 hx rfl⟩
      |ok e r=>exact⟨_,qUX h1 hx rfl⟩
    |5,_=>
     obtain⟨x,hx⟩:=hlow .neg (by rw[<-hw];decide) rfl;exact⟨x,qAp hx⟩
   |lp k e=>
    have hk:k<=4:=jBd hm;by_cases h0:opAt k l=0
    ·exact⟨_,qqs h0⟩
    ·obtain⟨t,l',rfl⟩:=qvA h0;obtain⟨x,hx⟩:=hex (l':=l') (by rw[<-hl];simp) (.bin (k+1)) (jA8 (by omega));by_cases h2:k=2
     ·subst h2;cases x with
      |bad r=>exact⟨_,qUV h0 hx rfl⟩
      |ok b r=>exact⟨_,qUV h0 hx rfl⟩
     ·cases x with
      |bad r=>exact⟨_,zgc (by simpa using h2) h0 hx rfl⟩
      |ok b r=>
       have q1:_<_:=hx.short;obtain⟨y,hy⟩:=hex (l':=r) (by rw[<-hl];simp only[jB3,jA0]at q1 ⊢;omega) (.lp k (exN (opAt k (t::l')) [e,b])) (jA8 hk);exact⟨y,zgc (by simpa using h2) h0 hx hy⟩
theorem qJ0{m:Md}(hm:zpF m=true)(l:List Tok):∃x,Ev m l x:=zlG _ _ m l rfl rfl hm
end Go.Tk
namespace Go.Tk
open Go Go.Eng
set_option linter.unusedSimpArgs false
set_option linter.unusedVariables false
def qaO(op:Int):Nat:=if op=19 then 0 else if op=15 then 1 else if op=14 then 2 else if op=16 then 3 else if op=10\/op=11\/op=12\/op=13 then 4 else if op=5\/op=6 then 5 else if op=7\/op=8 then 6 else if op=9 then 7 else 8
def mkT(k:Int)(s:Bs):Tok:=⟨k,1,s⟩
def wT(s:Bs):Tok:=mkT (qcr s) s
def qdY(op:Int):Bs:=if op=5 then[43]else if op=6 then[45]else if op=7 then[42]else if op=8 then[47]else if op=10 then[61,61]else if op=11 then[33,61]else if op=12 then[60]else if op=13 then[60,61]else if op=14 then[97,110,100]else[111,114]
def qxw(op n:Int)(s:Bs):List Tok:=if op=1 then[mkT 2 (Lib.itoa n)]else if op=2 then[wT [36],mkT 2 (Lib.itoa n)]else if op=3 then[mkT 3 (qiJ n.toNat)]else[mkT 1 s]
def qQe(r:Nat)(op:Int)(l:List Tok):List Tok:=if qaO op<r then wT [40]::(l++[wT [41]])else l
def qdE(op:Int):Nat:=if qaO op=4 then 5 else qaO op
def wrB:Ex->List Tok
 | .mk o n s []=>qxw o n s
 | .mk o n s [a]=>wT (if o=16 then[110,111,116]else[45])::qQe (qaO o) a.op (wrB a)
 | .mk o n s [a,b]=>if o=17\/o=18 then wT (if o=17 then[109,105,110]else[109,97,120])::wT [40]::(wrB a++wT [44]::(wrB b++[wT [41]]))
   else qQe (qdE o) a.op (wrB a)++wT (qdY o)::qQe (qaO o+1) b.op (wrB b)
 | .mk o n s (a::b::c::_)=>wT [105,102]::(wrB a++wT [116,104,101,110]::(wrB b++wT [101,108,115,101]::wrB c))
def par(r:Nat)(e:Ex):List Tok:=qQe r e.op (wrB e)
theorem qfd{r:Nat}{e:Ex}(h:r<=qaO e.op):par r e=wrB e:=by unfold par qQe;rw[jAm (by omega)]
theorem qvW{r:Nat}{e:Ex}(h:qaO e.op<r):par r e=wT [40]::(wrB e++[wT [41]]):=by unfold par qQe;rw[jAr h]
theorem qdf(e:Ex):par 0 e=wrB e:=qfd (jBa _)
theorem qen{e:Ex}(h:qaM e=true):qaJ e.op=(e.args.length:Int)/\0<=e.num/\e.num<=qe6 e.op/\(e.txt= []\/e.op=4):=by
 simp only[qaM,jA1,jB7,jA6,jAv,ge_iff_le]at h;exact h
theorem qqY{e:Ex}(h:qaJ e.op=(e.args.length:Int))(h2:e.args.length=2):5<=e.op/\e.op<=18/\e.op≠9/\e.op≠16:=by
 rw[h2]at h;unfold qaJ at h;split at h
 ·cases h
 ·split at h
  ·cases h
  ·split at h
   ·cases h
   ·split at h
    ·omega
    ·cases h
def lvR:Nat->Nat
 |0=>1|1=>2|2=>4|3=>5|_=>6
def stopL(r:Nat)(l:List Tok):Prop:=∀k,k<=4->r<=lvR k->opAt k l=0
theorem stopL.up{r r':Nat}{l:List Tok}(h:stopL r l)(hr:r<=r'):stopL r' l:=fun k hk hl=>h k hk (by omega)
theorem qbq(s:Bs)(t:Tok)(l:List Tok):isW s (t::l)=isW s [t]:=rfl
theorem qnC{op:Int}(h1:5<=op)(h2:op<=15)(h9:op≠9):op=5\/op=6\/op=7\/op=8\/op=10\/op=11\/op=12\/op=13\/op=14\/op=15:=by omega
theorem qjd{s:Bs}{t:Tok}{l:List Tok}(h:isW s (t::l)=true):t.text=s/\t.kind=qcr s:=by
 simp only[isW,jA1,jB7]at h;exact h
theorem qBv(op:Int):qaO op<=8:=by unfold qaO;(repeat' split)<;>omega
theorem qq6{n:Int}(h:0<=n):Lib.itoa n=Lib.decDigits n.toNat:=by unfold Lib.itoa;rw[jAm (by omega)]
theorem qih{n:Int}(h:0<=n)(h2:n<=9223372036854775807):qkw (Lib.itoa n)=some n:=by
 rw[qq6 h];obtain⟨i1,i2,_⟩:=qh2 n.toNat n.toNat (jAj _);unfold qkw;rw[qkm i1,i1,i2,jAe (by omega)];simp only[jBm,Bool.not_false,jAa,jA7];omega
theorem qcQ{e:Ex}(h:e.args= []):wrB e=qxw e.op e.num e.txt:=by
 obtain⟨o,n,s,l⟩:=e;simp only[Ex.args]at h;subst h;rw[wrB];rfl
theorem qjQ{e a:Ex}(h:e.args= [a]):wrB e=wT (if e.op=16 then[110,111,116]else[45])::par (qaO e.op) a:=by
 obtain⟨o,n,s,l⟩:=e;simp only[Ex.args]at h;subst h;rw[wrB];rfl
theorem qov{e a b:Ex}(h:e.args= [a,b])(h7:e.op≠17)(h8:e.op≠18):wrB e=par (qdE e.op) a++wT (qdY e.op)::par (qaO e.op+1) b:=by
 obtain⟨o,n,s,l⟩:=e;simp only[Ex.args]at h;subst h;simp only[Ex.op]at h7 h8;rw[wrB,jAm (by omega)];rfl
theorem qg4{e a b:Ex}(h:e.args= [a,b])(h7:e.op=17\/e.op=18):wrB e=wT (if e.op=17 then[109,105,110]else[109,97,120])::wT [40]::(wrB a++wT [44]::(wrB b++[wT [41]])):=by
 obtain⟨o,n,s,l⟩:=e;simp only[Ex.args]at h;subst h;simp only[Ex.op]at h7;rw[wrB,jAr h7];rfl
theorem qFE{e a b c:Ex}{m:List Ex}(h:e.args=a::b::c::m):wrB e=wT [105,102]::(wrB a++wT [116,104,101,110]::(wrB b++wT [101,108,115,101]::wrB c)):=by
 obtain⟨o,n,s,l⟩:=e;simp only[Ex.args]at h;subst h;rw[wrB]
theorem qIX(r:Nat)(e:Ex):(wrB e).length<=(par r e).length/\(par r e).length<=(wrB e).length+2:=by
 unfold par qQe;split
 ·simp only[jA0,jA2,jA4];omega
 ·omega
end Go.Tk
namespace Go.Eng
theorem brF{α:Type}{b:Bool}{x y:DT α}(h:b=false):(DT.br b x y).ev=y.ev:=by rw[h];rfl
theorem brT{α:Type}{b:Bool}{x y:DT α}(h:b=true):(DT.br b x y).ev=x.ev:=by rw[h];rfl
theorem biS{α β:Type}[Inhabited β]{o:Option β}{v:β}{k:β->DT α}{e:DT α}(h:o=some v):(DT.bi o k e).ev=(k v).ev:=by rw[h];rfl
theorem biN{α β:Type}[Inhabited β]{o:Option β}{k:β->DT α}{e:DT α}(h:o=none):(DT.bi o k e).ev=e.ev:=by rw[h];rfl
theorem qqM{α β γ:Type}[Inhabited β]{o:Option (β⊕γ)}{v:γ}{k:β->DT α}{e:DT α}(h:o=some (.inr v)):(DT.bi (pl o) k e).ev=e.ev:=by rw[h];rfl
theorem biR{α β γ:Type}[Inhabited γ]{o:Option (β⊕γ)}{v:γ}{k:γ->DT α}{e:DT α}(h:o=some (.inr v)):(DT.bi (pr o) k e).ev=(k v).ev:=by rw[h];rfl
end Go.Eng
namespace Go.Tk
open Go Go.Eng
theorem qBn(r:Nat)(op:Int)(l:List Tok):(qQe r op l).length<=l.length+2:=by
 unfold qQe;split
 ·simp
 ·omega
theorem qiG:∀e:Ex,(wrB e).length<=5*e.nodes
 | .mk o n s []=>by
  simp only[wrB,qxw,Ex.nodes,Ex.nodesL]
  (repeat' split)<;>simp
 | .mk o n s [a]=>by
  have h1:=qiG a;have h2:=qBn (qaO o) a.op (wrB a);simp only[wrB,jA0,Ex.nodes,Ex.nodesL];omega
 | .mk o n s [a,b]=>by
  have h1:=qiG a;have h2:=qBn (qdE o) a.op (wrB a);have h3:=qiG b;have h4:=qBn (qaO o+1) b.op (wrB b);simp only[wrB,Ex.nodes,Ex.nodesL];split
  ·simp only[jA0,jA2,jA4];omega
  ·simp only[jA0,jA2];omega
 | .mk o n s (a::b::c::m)=>by
  have h1:=qiG a;have h2:=qiG b;have h3:=qiG c;simp only[wrB,Ex.nodes,Ex.nodesL,jA0,jA2];omega
theorem qbz(r:Nat)(e:Ex):(par r e).length<=5*e.nodes+2:=by
 have h1:=qiG e;have h2:=qIX r e;omega
end Go.Tk
namespace Go.Tk
open Go Go.Eng
set_option maxRecDepth 20000
structure Va where
 (name:Bs)
 (ty:Int)
def Va.av(x:Va):AV:=.agg [.str x.name,.int .i64 x.ty]
abbrev EV(l:List Va):List AV:=l.map Va.av
abbrev ksV:List CS:=[CS.str,CS.int IntKind.i64]
theorem hkV(h:Va):qqQ ksV (qah h.av)=true:=rfl
theorem okV{l:List Va}{n:Nat}(h:n<l.length):qaD ksV (EV l) (n:Int)=true:=qgS hkV h
theorem qv0{l:List Va}{n:Nat}(h:n<l.length):strOf (cellAt (EV l) (n:Int) 0)=l[n].name:=by rw[qaE h];rfl
theorem qv1{l:List Va}{n:Nat}(h:n<l.length):intOf (cellAt (EV l) (n:Int) 1)=l[n].ty:=by rw[qaE h];rfl
abbrev EI(l:List Int):List AV:=l.map (.int .i64)
abbrev ksI:List CS:=[CS.int IntKind.i64]
theorem okI{l:List Int}{n:Nat}(h:n<l.length):qaD ksI (EI l) (n:Int)=true:=qgS (fun _=>rfl) h
def qPR(t:Int):Bool:=decide (t>=1)&&decide (t<=5)
def ariL:List ((Int×Int×Int)×Int):=[((5,1,1),1),((5,2,2),2),((5,3,3),3),((5,4,1),4),((6,1,1),1),((6,2,2),2),((6,3,3),3),((6,4,1),4),((6,4,4),1),((7,1,1),1),((7,1,2),2),((7,1,3),3),((7,2,1),2),((7,2,3),2),((7,3,1),3),((7,3,2),2),((8,1,1),1),((8,2,1),2),((8,2,2),1),((8,3,1),3)]
def qUd(op a b:Int):Option Int:=(ariL.find? fun p=>p.1==(op,a,b)).map (·.2)
def zw2(op a:Int):Int×Bool:=
 if op=16 then bif a==5 then(5,true)else(0,false)
 else if op=9 then bif a==1||(a==2||a==3)then(a,true)else(0,false)
 else(0,false)
def zxe(op a b:Int):Int×Bool:=
 if op=10\/op=11 then bif a==b then(5,true)else(0,false)
 else if op=12\/op=13 then bif a==b&&a != 5 then(5,true)else(0,false)
 else if op=14\/op=15 then bif a==b&&a==5 then(5,true)else(0,false)
 else if op=17\/op=18 then bif a==b&&a != 5 then(a,true)else(0,false)
 else match qUd op a b with
  |some t=>(t,true)
  |none=>(0,false)
def znz(op a b c:Int):Int×Bool:=bif op==19&&(a==5&&b==c)then(b,true)else(0,false)
def zvp(op:Int)(l:List Int):Int×Bool:=bif !l.all qPR then(0,false)else match l with
 | [a]=>zw2 op a
 | [a,b]=>zxe op a b
 | [a,b,c]=>znz op a b c
 |_=>(0,false)
def ztl(vs:List Va)(s:Bs):Int×Int:=match vs.find? fun v=>v.name==s with
 |none=>(0,4)
 |some v=>bif qPR v.ty then(v.ty,0)else(0,3)
def zve(op:Int)(p:List Int×Int):Int×Int:=bif p.2 != 0 then(0,p.2)else bif (zvp op p.1).2 then((zvp op p.1).1,0)else(0,3)
mutual
def Ex.ty(vs:List Va):Ex->Int×Int
 | .mk o _ s l=>if o=1 then(1,0)else if o=2 then(2,0)else if o=3 then(3,0)else if o=4 then ztl vs s else zve o (Ex.tys vs l)
def Ex.tys(vs:List Va):List Ex->List Int×Int
 | []=>([],0)
 |e::l=>bif (Ex.ty vs e).2 != 0 then([],(Ex.ty vs e).2)else bif (Ex.tys vs l).2 != 0 then([],(Ex.tys vs l).2)else((Ex.ty vs e).1::(Ex.tys vs l).1,0)
end
end Go.Tk

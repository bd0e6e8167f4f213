/- The document's way of reading tokens is the program's. -/
import Derived.Test.YtjhhnkemeegahaaGreatDoorX16Tok
set_option linter.all false
namespace Go.Proofs.H16
open Go Go.Eng Go.Tk
set_option maxRecDepth 20000
theorem qEW:qnw=some (ES wordsS):=by
 rw[qvG,qm6];rfl
theorem qFJ(s:Bs):qnP (s,ES wordsS,0)=some (qjO (s== ·) (fun _=>0) 1 wordsS,s,ES wordsS,((wordsS.findIdx (s== ·):Nat):Int)):=by
 rw[qnQ];refine qbd (hd:=fun n=>(s,ES wordsS,(n:Int))) (jx:=fun _=>0) (s== ·) 1 (fun n h=>?_) ?_
 ·have hb:wordsS.length<=big:=by decide
  have hl:decide ((n:Int)<((ES wordsS).length:Int))=true:=by rw[jA5];exact qa0 h
  simp only[qiD,qhN,hl,qC0 h,qs0 h,ev_br,ev_at,jAa,qat h hb];have:(wordsS[n]==s)=(s==wordsS[n]):=by rw[jC7,jB7,jB7];exact jBv
  rw[this];cases(s==wordsS[n])<;>rfl
 ·simp[qiD,qhN]
theorem qFa(s:Bs):qg4 s=some (qbT s):=by
 rw[qvH,qm7,qEW,ev_bi_some,qFJ,qbm,qbT,has];cases wordsS.any (s== ·)<;>simp
theorem qfr{s:Bs}{n:Nat}(h:n<s.length)(k:UInt8):(qal s (n:Int)==(k.toNat:Int))=(s[n]==k):=by
 rw[qaX h,jC7,jB7,jB7,<-UInt8.toNat_inj];exact Int.ofNat_inj
theorem qFL{s:Bs}{n:Nat}(h:n<s.length):∃v,qs2 (s,(n:Int),one13,0)=some ((bif one13.any (· == s[n])then 0 else 1),v):=by
 have:=qbd (st:=fun v=>(qkF v).ev) (l:=one13) (hd:=fun k=>(s,(n:Int),one13,(k:Int))) (jx:=fun _=>0) (· == s[n]) 1 (fun k hk=>by
  have hb:one13.length<=big:=by decide
  have e1:(qal one13 (k:Int)==qal s (n:Int))=(one13[k]==s[n]):=by
   rw[qaX hk,qaX h,jC7,jB7,jB7,<-UInt8.toNat_inj];exact Int.ofNat_inj
  simp only[qkF,qoy,qa0 hk,qa5 hk,qa5 h,e1,ev_br,ev_at,jAa,qat hk hb];cases(one13[k]==s[n])<;>rfl) (by simp[qkF,qoy])
 rw[qbm]at this;rw[qwh];exact⟨_,this⟩
theorem qFc{s:Bs}(hl:s.length<=1000000){n:Nat}(h:n<s.length):qsq s (n:Int)=some ((qkS (s.drop n):Nat):Int):=by
 have hb:s.length<=big:=jAz hl (by decide);rw[qMp,qqZ,qat h hb];have e61:(61:Int)=((61:UInt8).toNat:Int):=rfl;have e33:(33:Int)=((33:UInt8).toNat:Int):=rfl;have e60:(60:Int)=((60:UInt8).toNat:Int):=rfl;rw[drop_at h];have e13:([123,125,40,41,44,59,58,36,43,45,42,47,60]:List UInt8)=one13:=rfl;obtain⟨v,hv⟩:=qFL h;have c1:(qal s (n:Int)==61)=(s[n]==61):=qfr h 61;have c2:(qal s (n:Int)==33)=(s[n]==33):=qfr h 33;have c3:(qal s (n:Int)==60)=(s[n]==60):=qfr h 60;rw[e13,hv];unfold qkS;by_cases h2:n+1<s.length
 ·have c4:(qal s ((n+1:Nat):Int)==61)=(s[n+1]==61):=qfr h2 61;simp only[qa0 h2,qa5 h2,qa5 h,c1,c2,c3,c4,br_eq,jAa,ev_bi_some];rw[drop_at h2];cases hq:(s[n+1]==61&&(s[n]==61||(s[n]==33||s[n]==60)))
  ·rw[qJS (r:=s[n+1]::s.drop (n+1+1)) hq];have:(bif s[n+1]==61 then(bif s[n]==61 then some true else bif s[n]==33 then some true else some (s[n]==60))else some false)=some false:=by
    revert hq;cases(s[n+1]==61)<;>cases(s[n]==61)<;>cases(s[n]==33)<;>cases(s[n]==60)<;>simp
   rw[this];simp only[ev_bi_some,ev_br,jA9];cases one13.any (· == s[n])<;>rfl
  ·rw[q3z hq];have:(bif s[n+1]==61 then(bif s[n]==61 then some true else bif s[n]==33 then some true else some (s[n]==60))else some false)=some true:=by
    revert hq;cases(s[n+1]==61)<;>cases(s[n]==61)<;>cases(s[n]==33)<;>cases(s[n]==60)<;>simp
   rw[this];rfl
 ·have hd:s.drop (n+1)= []:=List.drop_eq_nil_of_le (by omega);rw[hd,qJS (r:=[]) rfl];simp only[qJO h2,br_eq,jA9,ev_bi_some,ev_br];cases one13.any (· == s[n])<;>rfl
theorem qRQ{s:Bs}{n k:Nat}(hk:k<=(s.drop n).length):List.take ((((n+k:Nat):Int)).toNat-((n:Nat):Int).toNat) (List.drop ((n:Nat):Int).toNat s)=(s.drop n).take k:=by
 rw[jB5,jB5]
 congr 1;omega
theorem qEV{s:Bs}(hl:s.length<=1000000){n:Nat}(h:n<s.length):∃k t,qds s (n:Int)=some (k,0,t,(qk5 (s.drop n)).2.2)/\((qk5 (s.drop n)).2.2=0->k=(qk5 (s.drop n)).1/\t=(qk5 (s.drop n)).2.1):=by
 have hb:s.length<=big:=jAz hl (by decide);rw[qL6,qqG];have hd:=drop_at h;have hln:(s.drop n).length=s.length-n:=by rw[jB0]
 have l1:=qgt (p:=qNQ false) (s.drop n);have l2:=qgt (p:=qNQ true) (s.drop n);have g1:leB (((n+((s.drop n).takeWhile (qNQ false)).length:Nat)):Int) s.length=true:=qbj (by omega);have g2:leB ((n:Nat):Int) (((n+((s.drop n).takeWhile (qNQ false)).length:Nat)):Int).toNat=true:=by rw[jB5];exact qbj (by omega)
 have g3:leB (((n+((s.drop n).takeWhile (qNQ true)).length:Nat)):Int) s.length=true:=qbj (by omega);have g4:leB ((n:Nat):Int) (((n+((s.drop n).takeWhile (qNQ true)).length:Nat)):Int).toNat=true:=by rw[jB5];exact qbj (by omega)
 simp only[qa5 h,qaX h,qr6,qfT,qsv hb false (Nat.le_of_lt h),qsv hb true (Nat.le_of_lt h),g1,g2,g3,g4,ev_br,ev_bi_some,jAa,qRQ l1,qRQ l2,qiI,Bool.and_self];have en:qNQ false=at8 qch:=rfl;have em:qNQ true=at8 qcD:=rfl;rw[en,em]at *;have hr:qk5 (s.drop n)=(bif at8 qei s[n]then(bif qbT ((s.drop n).takeWhile (at8 qch))then(5,(s.drop n).takeWhile (at8 qch),0)else bif decide (((s.drop n).takeWhile (at8 qch)).length>16)then(1,(s.drop n).takeWhile (at8 qch),4)else(1,(s.drop n).takeWhile (at8 qch),0))
  else bif at8 qbe s[n]then
   (bif qgo ((s.drop n).takeWhile (at8 qcD))then(bif qgD ((s.drop n).takeWhile (at8 qcD))then(2,(s.drop n).takeWhile (at8 qcD),6)else(2,(s.drop n).takeWhile (at8 qcD),0))
   else bif !qnE ((s.drop n).takeWhile (at8 qcD))then(3,(s.drop n).takeWhile (at8 qcD),2)else bif (qbh ((s.drop n).takeWhile (at8 qcD))).2 != 0 then(3,(s.drop n).takeWhile (at8 qcD),6)else(3,(s.drop n).takeWhile (at8 qcD),0))
  else bif qkS (s.drop n)==0 then(0,[],2)else(4,(s.drop n).take (qkS (s.drop n)),0)):=by
  conv=>lhs;rw[hd]
  rw[<-hd]
  conv=>lhs;unfold qk5
  rw[hd]
 rw[hr];show ∃k t,(bif at8 qei s[n]then _ else _)=_/\_;cases hlt:at8 qei s[n]
 ·simp only[jA9];show ∃k t,(bif at8 qbe s[n]then _ else _)=_/\_;cases hdg:at8 qbe s[n]
  ·simp only[jA9,qFc hl h,ev_bi_some];have e0:(((qkS (s.drop n):Nat):Int)==0)=(qkS (s.drop n)==0):=by
    rw[jC7,jB7,jB7];omega
   rw[ev_br,e0];have hmk:qkS (s.drop n)<=(s.drop n).length:=by
    unfold qkS;cases hf:marksS.find? (preB · (s.drop n))with
    |none=>simp
    |some m=>
     have:=congrArg List.length (qBI hf);rw[List.length_take]at this;show m.length<=(s.drop n).length;omega
   cases hm:(qkS (s.drop n)==0)
   ·have hw:IntKind.i64.wrap ((n:Int)+((qkS (s.drop n):Nat):Int))=((n+qkS (s.drop n):Nat):Int):=by rw[wrap64 (by omega) (by omega)];push_cast;rfl
    have q1:leB ((n+qkS (s.drop n):Nat):Int) s.length=true:=qbj (by omega);have q2:leB ((n:Nat):Int) (((n+qkS (s.drop n):Nat)):Int).toNat=true:=by rw[jB5];exact qbj (by omega)
    simp only[jA9,hw,q1,q2,Bool.and_self,ev_br,jAa,qRQ hmk,ev_at];exact⟨_,_,rfl,fun _=>⟨rfl,rfl⟩⟩
   ·exact⟨_,_,rfl,fun h=>by cases h⟩
  ·simp only[jAa];have hlt2:((s.drop n).takeWhile (at8 qcD)).length<=1000000:=by have:=qgt (p:=at8 qcD) (s.drop n);omega
   have hlb:((s.drop n).takeWhile (at8 qcD)).length<=big:=jAz hlt2 (by decide);have hh:∃r,(s.drop n).takeWhile (at8 qcD)=s[n]::r:=by
    rw[hd,jBk];have:at8 qcD s[n]=true:=by simp only[at8,qcD,qch]at hdg ⊢;simp[hdg]
    rw[this];exact⟨_,rfl⟩
   generalize (s.drop n).takeWhile (at8 qcD)=t at hlt2 hlb hh;simp only[qlA hlb,ev_bi_some];have ei:(((plS t:Nat):Int)==(t.length:Int))=qgo t:=by
    obtain⟨r,rfl⟩:=hh;unfold plS;have hcd:at8 qbe s[n]=true:=hdg;rw[jC7,jB7,qa6];constructor
    ·intro h1;cases hc:(decide (((s[n]::r).takeWhile (at8 qbe)).length>1)&&(s[n]::r).head? == some 48)
     ·rw[hc]at h1;simp only[jA9]at h1;have hall:(s[n]::r).takeWhile (at8 qbe)=s[n]::r:=by
       have:=qiI (p:=at8 qbe) (s[n]::r);rw[show((s[n]::r).takeWhile (at8 qbe)).length=(s[n]::r).length by omega,List.take_length]at this;exact this.symm
      refine⟨qk8.1 hall,by simp,?_⟩;rw[hall]at hc;by_cases h1l:(s[n]::r).length>1
      ·right;rw[jA8 h1l]at hc;simpa using hc
      ·left;simp only[jA0]at h1l ⊢;omega
     ·rw[hc]at h1;simp only[jAa,jA0]at h1;omega
    ·rintro⟨h1,h2,h3⟩;rw[qk8.2 h1];have:(decide ((s[n]::r).length>1)&&(s[n]::r).head? == some 48)=false:=by
      rcases h3 with h3|h3
      ·rw[jAe (by omega)];rfl
      ·have:((s[n]::r).head? == some 48)=false:=by simpa using h3
       rw[this,Bool.and_false]
     rw[this];rfl
   rw[ev_br,ei];cases hi:qgo t
   ·simp only[jA9,qsp hlb,qlC hlt2,ev_bi_some,ev_br];cases hf:qnE t
    ·exact⟨_,_,rfl,fun h=>by cases h⟩
    ·simp only[Bool.not_true,jA9];cases hz:((qbh t).2 != 0)
     ·exact⟨_,_,rfl,fun _=>⟨rfl,rfl⟩⟩
     ·exact⟨_,_,rfl,fun h=>by cases h⟩
   ·simp only[jAa,qEX,ev_bi_some,ev_br];cases qgD t
    ·exact⟨_,_,rfl,fun _=>⟨rfl,rfl⟩⟩
    ·exact⟨_,_,rfl,fun h=>by cases h⟩
 ·simp only[jAa,qFa,ev_bi_some,ev_br];have e6:decide ((((s.drop n).takeWhile (at8 qch)).length:Int)>16)=decide (((s.drop n).takeWhile (at8 qch)).length>16):=by
   by_cases h:((s.drop n).takeWhile (at8 qch)).length>16
   ·rw[jA8 h,jA8 (by omega)]
   ·rw[jAe h,jAe (by omega)]
  rw[e6];cases qbT ((s.drop n).takeWhile (at8 qch))
  ·cases decide (((s.drop n).takeWhile (at8 qch)).length>16)
   ·exact⟨_,_,rfl,fun _=>⟨rfl,rfl⟩⟩
   ·exact⟨_,_,rfl,fun h=>by cases h⟩
  ·exact⟨_,_,rfl,fun _=>⟨rfl,rfl⟩⟩
def qu8(s:Bs)(line:Int)(n:Nat):List Tok->qep
 | []=>.inl (s,line,(n:Int))
 |acc=>.inr (s,line,(n:Int),ET acc)
noncomputable def qt6(o:Option (Nat×qep)):DT qC6:=
  .bi (pj 0 o) (fun y0=>.at (([],(sl y0).snd.fst,(gv (qds (sl y0).fst (sl y0).snd.snd)).snd.snd.snd)))
   (.bi (pj 1 o) (fun y0=>.at (([],0,0)))
    (.bi (pj 2 o) (fun y0=>.at (([],(sr y0).snd.fst,(gv (qds (sr y0).fst (sr y0).snd.snd.fst)).snd.snd.snd)))
     (.bi (pj 3 o) (fun y0=>.at (((sr y0).snd.snd.snd,0,0)))
      (.no))))
theorem qNn(s:Bs):qpZ s= .br (decide ((s.length:Int)>2048)) (.at (([],0,5))) (qt6 (qoX (Sum.inl (s,1,0)))):=rfl
theorem qM6{s:Bs}(hl:s.length<=big)(line:Int){n:Nat}(hn:n<=s.length):qiU (Sum.inl (s,line,(n:Int)))=some (0,Sum.inl (s,line,((n+((s.drop n).takeWhile (at8 qgV)).length:Nat):Int))):=by
 rw[qs6];refine qGU (p:=at8 qgV) (s:=s) (fun n=>(Sum.inl (s,line,(n:Int)):qeq)) 0 (fun n h=>?_) ?_ (s.length-n) n (by omega)
 ·simp only[qlV,jBy,quC,qa0 h,qa5 h,qaX h,qat h hl,br_eq,jAa,ev_bi_some,ev_br,ev_at,cond_some,at8,qgV]
 ·simp[qlV,quC]
theorem qM7{s:Bs}(hl:s.length<=big)(line:Int)(L:List AV){n:Nat}(hn:n<=s.length):qiU (Sum.inr (s,line,(n:Int),L))=some (1,Sum.inr (s,line,((n+((s.drop n).takeWhile (at8 qgV)).length:Nat):Int),L)):=by
 rw[qs6];refine qGU (p:=at8 qgV) (s:=s) (fun n=>(Sum.inr (s,line,(n:Int),L):qeq)) 1 (fun n h=>?_) ?_ (s.length-n) n (by omega)
 ·simp only[qlV,jBx,quD,qa0 h,qa5 h,qaX h,qat h hl,br_eq,jAa,ev_bi_some,ev_br,ev_at,cond_some,at8,qgV]
 ·simp[qlV,quD]
def qAG(acc:List Tok)(q:List Tok×Int×Int):List Tok×Int×Int:=bif q.2.2 != 0 then([],q.2)else(acc++q.1,q.2)
theorem qRp(acc:List Tok)(t:Tok)(q:List Tok×Int×Int):qAG acc (qpa t q)=qAG (acc++[t]) q:=by
 unfold qpa qAG;cases h:(q.2.2 != 0)
 ·simp[h]
 ·simp[h]
theorem qZC{c:UInt8}{r:Bs}(h:spI c.toNat=true)(line:Int):rdT (c::r) line=rdT r (line+(bif c==10 then 1 else 0)):=by
 have:=zaE (p:=[c]) (s:=r) (by
  have:=qRB (s:=r) [c] (by simpa using h);exact this) line
 rw[show[c]++r=c::r from rfl]at this;rw[this]
 congr 2
 by_cases hc:c=10
 ·subst hc;rfl
 ·have:(c==10)=false:=by simpa using hc
  rw[this,List.count_cons,List.count_nil,this];rfl
theorem zee{r:Bs}(line:Int):rdT (35::r) line=rdT ((35::r).drop ((35::r).takeWhile (at8 qgV)).length) line:=by
 have hs:=List.takeWhile_append_dropWhile (p:=at8 qgV) (l:=35::r);have hb:=qxx (35::r);have e1:blk true (35::r)=blk true r+1:=rfl;have e2:blk false (35::r)=blk true r+1:=rfl;have hp:=zaE (p:=(35::r).takeWhile (at8 qgV)) (s:=(35::r).drop ((35::r).takeWhile (at8 qgV)).length) (by
  rw[drop_tw,hs,e2,<-e1,hb,drop_tw]) line
 rw[drop_tw,hs]at hp;rw[hp,drop_tw]
 congr 1
 have:((35::r).takeWhile (at8 qgV)).count 10=0:=by
  rw[List.count_eq_zero];intro hm;have:=jAb.1 (q0n (p:=at8 qgV) (l:=35::r)) _ hm;cases this
 rw[this];simp
theorem q31{s:Bs}(hl:s.length<=2048):∀(k n:Nat) (line:Int) (acc:List Tok),n+k=s.length->0<=line->line<=10000+n->acc.length<=n ->
  (qt6 (qoX (qu8 s line n acc))).ev=some (ET (qAG acc (rdT (s.drop n) line)).1,(qAG acc (rdT (s.drop n) line)).2.1,(qAG acc (rdT (s.drop n) line)).2.2):=by
 have hm:s.length<=1000000:=by omega
 have hb:s.length<=big:=jAz hm (by decide);intro k
 induction k using Nat.strongRecOn with
 |_ k ih=>
  intro n line acc hn h0 h1 h2;rw[qs5];by_cases h:n<s.length
  ·have c10:(qal s (n:Int)==10)=(s[n]==10):=qfr h 10;have c32:(qal s (n:Int)==32)=(s[n]==32):=qfr h 32;have c9:(qal s (n:Int)==9)=(s[n]==9):=qfr h 9;have c35:(qal s (n:Int)==35)=(s[n]==35):=qfr h 35;have hw1:IntKind.i64.wrap (line+1)=line+1:=wrap64 (by omega) (by omega);have hd:=drop_at h;have hcw:=qgt (p:=at8 qgV) (s.drop n);rw[jB0]at hcw;obtain⟨tk,tt,htok,htk⟩:=qEV hm h;have step:∀(line':Int) (n':Nat) (acc':List Tok),n<n'->n'<=s.length->0<=line'->line'<=10000+n'->acc'.length<=n'->(qcc (qu8 s line n acc)).ev=some (.next (qu8 s line' n' acc')) ->
     qAG acc (rdT (s.drop n) line)=qAG acc' (rdT (s.drop n') line') ->
     (qt6 (qae (fun v=>(qcc v).ev) (qu8 s line n acc))).ev=some (ET (qAG acc (rdT (s.drop n) line)).1,(qAG acc (rdT (s.drop n) line)).2.1,(qAG acc (rdT (s.drop n) line)).2.2):=by
    intro line' n' acc' g1 g2 g3 g4 g5 g6 g7;rw[qaq g6,<-qs5,g7];exact ih (s.length-n') (by omega) n' line' acc' (by omega) g3 g4 g5
   by_cases q10:s[n]=10
   ·have e10:(s[n]==10)=true:=by simpa using q10
    refine step (line+1) (n+1) acc (by omega) (by omega) (by omega) (by omega) (by omega) ?_ ?_
    ·cases acc with
     |nil=>simp only[qu8,qcc,jBy,qee,qa0 h,qa5 h,c10,e10,hw1,qat h hb,ev_br,ev_at,jAa]
     |cons a acc=>simp only[qu8,qcc,jBx,qef,qa0 h,qa5 h,c10,e10,hw1,qat h hb,ev_br,ev_at,jAa]
    ·rw[hd,qZC (by rw[q10];rfl),e10];rfl
   ·have e10:(s[n]==10)=false:=by simpa using q10
    by_cases q32:s[n]=32
    ·have e32:(s[n]==32)=true:=by simpa using q32
     refine step line (n+1) acc (by omega) (by omega) h0 (by omega) (by omega) ?_ ?_
     ·cases acc with
      |nil=>simp only[qu8,qcc,jBy,qee,qa0 h,qa5 h,c10,e10,c32,e32,qat h hb,ev_br,ev_at,jAa,jA9]
      |cons a acc=>simp only[qu8,qcc,jBx,qef,qa0 h,qa5 h,c10,e10,c32,e32,qat h hb,ev_br,ev_at,jAa,jA9]
     ·rw[hd,qZC (by rw[q32];rfl),e10,jA9,Int.add_zero]
    ·have e32:(s[n]==32)=false:=by simpa using q32
     by_cases q9:s[n]=9
     ·have e9:(s[n]==9)=true:=by simpa using q9
      refine step line (n+1) acc (by omega) (by omega) h0 (by omega) (by omega) ?_ ?_
      ·cases acc with
       |nil=>simp only[qu8,qcc,jBy,qee,qa0 h,qa5 h,c10,e10,c32,e32,c9,e9,qat h hb,ev_br,ev_at,jAa,jA9]
       |cons a acc=>simp only[qu8,qcc,jBx,qef,qa0 h,qa5 h,c10,e10,c32,e32,c9,e9,qat h hb,ev_br,ev_at,jAa,jA9]
      ·rw[hd,qZC (by rw[q9];rfl),e10,jA9,Int.add_zero]
     ·have e9:(s[n]==9)=false:=by simpa using q9
      by_cases q35:s[n]=35
      ·have e35:(s[n]==35)=true:=by simpa using q35
       have hpos:1<=((s.drop n).takeWhile (at8 qgV)).length:=by
        rw[hd,q35,List.takeWhile_cons_of_pos (by rfl)];simp
       refine step line (n+((s.drop n).takeWhile (at8 qgV)).length) acc (by omega) (by omega) h0 (by omega) (by omega) ?_ ?_
       ·cases acc with
        |nil=>
         simp only[qu8,qcc,jBy,qee,qa0 h,qa5 h,c10,e10,c32,e32,c9,e9,c35,e35,qM6 hb line (Nat.le_of_lt h),pj_some,jB2,ev_bi_some,sl_inl,ev_br,ev_at,jAa,jA9]
        |cons a acc=>
         simp(decide:=true) only[qu8,qcc,jBx,qef,qa0 h,qa5 h,c10,e10,c32,e32,c9,e9,c35,e35,qM7 hb line (ET (a::acc)) (Nat.le_of_lt h),pj_some,jB2,jBg,ev_bi_some,ev_bi_none,sr_inr,ev_br,ev_at,jAa,jA9]
       ·rw[<-List.drop_drop,hd,q35,zee]
      ·have e35:(s[n]==35)=false:=by simpa using q35
       have hok:qNS (s.drop n)=true:=by
        rw[hd];simp only[qNS,spI,jA1,jB9,jB6,jBj];have z:∀m:UInt8,s[n]≠m-> ¬((s[n].toNat:Int)=(m.toNat:Int)):=fun m hm he=>hm (UInt8.toNat_inj.1 (Int.ofNat_inj.1 he))
        exact⟨⟨z 32 q32,z 9 q9,z 10 q10⟩,z 35 q35⟩
       obtain⟨r1,r2⟩:=qNm (s.drop n);have hst:=znz hok line;have hst2:Tk.stepT (s.drop n) line=bif (qaw (s.drop n)).2.2 != 0 then([],line,(qaw (s.drop n)).2.2)else qpa ⟨(qaw (s.drop n)).1,line,(qaw (s.drop n)).2.1⟩ (rdT ((s.drop n).drop (qaw (s.drop n)).2.1.length) line):=by
        conv=>lhs;rw[hd]
        rw[hd];rfl
       rw[hst2]at hst;cases hz:((qaw (s.drop n)).2.2 != 0)
       ·have hz':(qaw (s.drop n)).2.2=0:=by simpa using hz
        rw[hz,jA9]at hst;obtain⟨rfl,rfl⟩:=htk (r1.trans hz');have hr2:=r2 hz';obtain⟨p1,y,p2⟩:=qcp hz';have p1:=jCp.2 p1;have p3:=congrArg List.length p2;rw[jA2,jB0]at p3;rw[hr2]at htok;have hwn:IntKind.i64.wrap ((n:Int)+((qaw (s.drop n)).2.1.length:Int))=((n+(qaw (s.drop n)).2.1.length:Nat):Int):=by rw[wrap64 (by omega) (by omega)];push_cast;rfl
        refine step line (n+(qaw (s.drop n)).2.1.length) (acc++[⟨(qaw (s.drop n)).1,line,(qaw (s.drop n)).2.1⟩]) (by omega) (by omega) h0 (by omega) (by simp only[jA2,jA0,jA4];omega) ?_ ?_
        ·cases acc with
         |nil=>
          simp only[qu8,qcc,jBy,qee,qa0 h,qa5 h,c10,e10,c32,e32,c9,e9,c35,e35,htok,hz,hwn,ev_bi_some,ev_br,ev_at,jAa,jA9];rfl
         |cons a acc=>
          have hrm:room ((ET (a::acc)).length+1) 32=true:=qdB (by simp only[jA5,lim];omega);simp only[qu8,qcc,jBx,qef,qa0 h,qa5 h,c10,e10,c32,e32,c9,e9,c35,e35,htok,hz,hwn,hrm,ev_bi_some,ev_br,ev_at,jAa,jA9,jAk,jCi];simp[qu8,Tok.av]
        ·rw[hst,qRp,List.drop_drop]
       ·have hzr:((qk5 (s.drop n)).2.2 != 0)=true:=by rw[r1];exact hz
        rw[hz,jAa]at hst;rw[hst];have hac:qAG acc (([]:List Tok),line,(qaw (s.drop n)).2.2)=([],line,(qaw (s.drop n)).2.2):=by
         unfold qAG;simp only[hz,jAa]
        rw[hac,<-r1];cases acc with
        |nil=>
         rw[qaf (j:=0)]
         ·simp only[qt6,qu8,pj_some,jB2,ev_bi_some,ev_at,sl_inl,htok,gv_some];rfl
         ·simp only[qu8,qcc,jBy,qee,qa0 h,qa5 h,c10,e10,c32,e32,c9,e9,c35,e35,htok,hzr,ev_bi_some,ev_br,ev_at,jAa,jA9]
        |cons a acc=>
         rw[qaf (j:=2)]
         ·simp(decide:=true) only[qt6,qu8,pj_some,jB2,jBg,ev_bi_some,ev_bi_none,ev_at,sr_inr,htok,gv_some];rfl
         ·simp only[qu8,qcc,jBx,qef,qa0 h,qa5 h,c10,e10,c32,e32,c9,e9,c35,e35,htok,hzr,ev_bi_some,ev_br,ev_at,jAa,jA9]
  ·have hd:s.drop n= []:=q2T h;rw[hd,zaD];have hac:qAG acc (([]:List Tok),(0:Int),(0:Int))=(acc,0,0):=by simp[qAG]
   rw[hac];have hle:decide ((n:Int)<(s.length:Int))=false:=qJO h;cases acc with
   |nil=>
    rw[qaf (j:=1)]
    ·rfl
    ·simp only[qu8,qcc,jBy,qee,hle,ev_br,ev_at,jA9]
   |cons a acc=>
    rw[qaf (j:=3)]
    ·rfl
    ·simp only[qu8,qcc,jBx,qef,hle,ev_br,ev_at,jA9]
theorem qrK(s:Bs):qno s=some (ET (qbr s).1,(qbr s).2.1,(qbr s).2.2):=by
 rw[qLn,qNn];cases h:decide ((s.length:Int)>2048)
 ·have h':s.length<=2048:=by
   have:=of_decide_eq_false h;omega
  rw[qoG h'];simp only[ev_br,jA9];have:=q31 h' s.length 0 1 [] (by omega) (by omega) (by omega) (by simp);rw[List.drop_zero]at this;have hac:qAG [] (rdT s 1)=rdT s 1:=by
   unfold qAG;cases hz:((rdT s 1).2.2 != 0)
   ·simp
   ·
    simp only[jAa];exact(Prod.ext (qRl s 1 hz).symm rfl)
  rw[hac]at this;exact this
 ·unfold qbr;rw[h];rfl
end Go.Proofs.H16
namespace Go.Proofs.H16
open Go Go.Eng Go.Tk
set_option maxRecDepth 20000
theorem q9T(k n:Int)(t:Bs)(q:List Tok×Int×Int)(h:qbr t=q):(DT.bi (some (ET q.1,q.2.1,q.2.2)) (fun y0=>.br (y0.snd.snd==0) (.br ((y0.fst.length:Int)==1) (.br (qaG [CS.int IntKind.i64,CS.int IntKind.i64,CS.str] y0.fst 0) (.br (intOf (cellAt y0.fst 0 0)==k) (.br (qaG [CS.int IntKind.i64,CS.int IntKind.i64,CS.str] y0.fst 0) (.at (strOf (cellAt y0.fst 0 2)==t)) .no) (.at false)) .no) (.at false)) (.at false)) .no).ev=some (qaP ⟨k,n,t⟩):=by
 subst h;unfold qaP;simp only[ev_bi_some,ev_br];cases((qbr t).2.2==0)
 ·rfl
 ·simp only[jAa,jBm];cases hq:(qbr t).1 with
  |nil=>rfl
  |cons u r=>
   cases r with
   |nil=>
    have h0:qaG [CS.int IntKind.i64,CS.int IntKind.i64,CS.str] (ET [u]) 0=true:=okT (l:=[u]) (n:=0) (by simp);have h1:intOf (cellAt (ET [u]) 0 0)=u.kind:=qt0 (l:=[u]) (n:=0) (by simp);have h2:strOf (cellAt (ET [u]) 0 2)=u.text:=qt2 (l:=[u]) (n:=0) (by simp);rw[h0,h1,h2];show(bif true then(bif true then(bif u.kind==k then(bif true then some (u.text==t)else none)else some false)else none)else some false)=some (true&&(u.kind==k&&u.text==t));cases(u.kind==k)<;>rfl
   |cons v r=>
    have e:(((ET (u::v::r)).length:Int)==1)=false:=by
     rw[jBj,jA5,jA0,jA0];omega
    have e2:((u::v::r).length==1)=false:=by simp
    rw[e,e2];rfl
theorem qEL(k n:Int)(t:Bs):qxP k n t=some (qaP ⟨k,n,t⟩):=by
 rw[qLO,qqo,qfN];exact q9T k n t _ rfl
end Go.Proofs.H16
namespace Go.Tk
open Go Go.Eng
set_option linter.unusedSimpArgs false
set_option linter.unusedVariables false
def qcu(s:Bs):Int:=bif qbT s then 5 else 4
def isW(s:Bs):List Tok->Bool
 | []=>false
 |t::_=>t.text==s&&t.kind==qcu s
def qjA(s:Bs):Option Int:=bif qgo s&& !qgD s then some (qa1 0 s:Int)else none
def numAt:List Tok->Option Int
 | []=>none
 |t::_=>bif t.kind==2 then qjA t.text else none
inductive Rs where
 |bad (r:List Tok)
 |ok (e:Ex) (r:List Tok)
inductive Md where
 |ex|cmp|neg|prim
 |bin (k:Nat)
 |lp (k:Nat) (e:Ex)
def lvS:Nat->List (Bs×Int)
 |0=>[([111,114],15)]
 |1=>[([97,110,100],14)]
 |2=>[([61,61],10),([33,61],11),([60],12),([60,61],13)]
 |3=>[([43],5),([45],6)]
 |4=>[([42],7),([47],8)]
 |_=>[]
def opAt(k:Nat)(l:List Tok):Int:=match (lvS k).find? (fun x=>isW x.1 l)with
 |some x=>x.2
 |none=>0
def qcY(o:Option Rs)(f:Ex->List Tok->Option Rs):Option Rs:=match o with
 |none=>none
 |some (.bad r)=>some (.bad r)
 |some (.ok e r)=>f e r
def qbS(s:Bs)(r:List Tok)(k:List Tok->Option Rs):Option Rs:=bif isW s r then k r.tail else some (.bad r)
def exN(o:Int)(l:List Ex):Ex:=.mk o 0 [] l
def qed(op:Int)(p:List Tok->Option Rs)(r:List Tok):Option Rs:=
 qbS [40] r fun r=>qcY (p r) fun a r=>qbS [44] r fun r=>qcY (p r) fun b r=>qbS [41] r fun r=>some (.ok (exN op [a,b]) r)
def qgr(l:List Tok):Rs:=match l with
 | []=>.bad []
 |t::r=>bif t.kind==1 then .ok (.mk 4 0 t.text []) r
  else bif t.kind==3 then(bif (qbh t.text).2==0 then .ok (.mk 3 (qbh t.text).1 [] []) r else .bad l)
  else match numAt l with
   |some n=>.ok (.mk 1 n [] []) r
   |none=>.bad l
def prs:Nat->Md->List Tok->Option Rs
 |0,_,_=>none
 |n+1,.ex,l=>bif isW [105,102] l then
   qcY (prs n .ex l.tail) fun a r=>qbS [116,104,101,110] r fun r=>qcY (prs n .ex r) fun b r=>qbS [101,108,115,101] r fun r=>qcY (prs n .ex r) fun c r=>some (.ok (exN 19 [a,b,c]) r)
  else prs n (.bin 0) l
 |n+1,.bin k,l=>bif k==5 then prs n .neg l else bif k==2 then
   (bif isW [110,111,116] l then qcY (prs n (.bin 2) l.tail) fun a r=>some (.ok (exN 16 [a]) r)else prs n .cmp l)
  else qcY (prs n (.bin (k+1)) l) fun e r=>prs n (.lp k e) r
 |n+1,.cmp,l=>qcY (prs n (.bin 3) l) fun e r=>prs n (.lp 2 e) r
 |n+1,.lp k e,l=>bif opAt k l==0 then some (.ok e l)else
   qcY (prs n (.bin (k+1)) l.tail) fun b r=>bif k==2 then some (.ok (exN (opAt k l) [e,b]) r)else prs n (.lp k (exN (opAt k l) [e,b])) r
 |n+1,.neg,l=>bif isW [45] l then qcY (prs n .neg l.tail) fun a r=>some (.ok (exN 9 [a]) r)else prs n .prim l
 |n+1,.prim,l=>bif isW [36] l then(match numAt l.tail with
    |some v=>some (.ok (.mk 2 v [] []) l.tail.tail)
    |none=>some (.bad l.tail))
  else bif isW [109,105,110] l then qed 17 (prs n .ex) l.tail
  else bif isW [109,97,120] l then qed 18 (prs n .ex) l.tail
  else bif isW [40] l then qcY (prs n .ex l.tail) fun e r=>qbS [41] r fun r=>some (.ok e r)
  else some (qgr l)
theorem qwH(n:Nat)(l:List Tok):prs (n+1) .ex l=(bif isW [105,102] l then
   qcY (prs n .ex l.tail) fun a r=>qbS [116,104,101,110] r fun r=>qcY (prs n .ex r) fun b r=>qbS [101,108,115,101] r fun r=>qcY (prs n .ex r) fun c r=>some (.ok (exN 19 [a,b,c]) r)
  else prs n (.bin 0) l):=rfl
theorem qnX(n:Nat)(k:Nat)(l:List Tok):prs (n+1) (.bin k) l=(bif k==5 then prs n .neg l else bif k==2 then
   (bif isW [110,111,116] l then qcY (prs n (.bin 2) l.tail) fun a r=>some (.ok (exN 16 [a]) r)else prs n .cmp l)
  else qcY (prs n (.bin (k+1)) l) fun e r=>prs n (.lp k e) r):=rfl
theorem qtJ(n:Nat)(l:List Tok):prs (n+1) .cmp l=(qcY (prs n (.bin 3) l) fun e r=>prs n (.lp 2 e) r):=rfl
theorem qwI(n:Nat)(k:Nat)(e:Ex)(l:List Tok):prs (n+1) (.lp k e) l=(bif opAt k l==0 then some (.ok e l)else
   qcY (prs n (.bin (k+1)) l.tail) fun b r=>bif k==2 then some (.ok (exN (opAt k l) [e,b]) r)else prs n (.lp k (exN (opAt k l) [e,b])) r):=rfl
theorem qnY(n:Nat)(l:List Tok):prs (n+1) .neg l=(bif isW [45] l then qcY (prs n .neg l.tail) fun a r=>some (.ok (exN 9 [a]) r)else prs n .prim l):=rfl
theorem qkk(n:Nat)(l:List Tok):prs (n+1) .prim l=(bif isW [36] l then(match numAt l.tail with
    |some v=>some (.ok (.mk 2 v [] []) l.tail.tail)
    |none=>some (.bad l.tail))
  else bif isW [109,105,110] l then qed 17 (prs n .ex) l.tail
  else bif isW [109,97,120] l then qed 18 (prs n .ex) l.tail
  else bif isW [40] l then qcY (prs n .ex l.tail) fun e r=>qbS [41] r fun r=>some (.ok e r)
  else some (qgr l)):=rfl
theorem qco{o o':Option Rs}{f f':Ex->List Tok->Option Rs}(ho:∀r,o=some r->o'=some r)(hf:∀e r x,f e r=some x->f' e r=some x){x:Rs}(h:qcY o f=some x):qcY o' f'=some x:=by
 unfold qcY at h ⊢;cases o with
 |none=>cases h
 |some q=>
  rw[ho q rfl];cases q with
  |bad r=>exact h
  |ok e r=>exact hf _ _ _ h
theorem qeg{s:Bs}{r:List Tok}{f f':List Tok->Option Rs}(hf:∀r x,f r=some x->f' r=some x){x:Rs}(h:qbS s r f=some x):qbS s r f'=some x:=by
 unfold qbS at h ⊢;revert h;cases isW s r
 ·exact fun h=>h
 ·exact fun h=>hf _ _ h
theorem qB8{op:Int}{p p':List Tok->Option Rs}(hp:∀r x,p r=some x->p' r=some x){r:List Tok}{x:Rs}(h:qed op p r=some x):qed op p' r=some x:=by
 unfold qed at h ⊢;exact qeg (fun r x h=>qco (hp r) (fun a r x h=>qeg (fun r x h=>qco (hp r) (fun b r x h=>h) h) h) h) h
theorem qiw:∀(n:Nat) (m:Md) (l:List Tok) (x:Rs),prs n m l=some x->prs (n+1) m l=some x:=by
 intro n
 induction n with
 |zero=>intro m l x h;cases h
 |succ n ih=>
  intro m l x h;cases m with
  |ex=>
   rw[qwH]at h ⊢;cases hi:isW [105,102] l
   ·rw[hi]at h;exact ih _ _ _ h
   ·rw[hi]at h;simp only[jAa]at h ⊢;exact qco (ih _ _) (fun a r x h=>qeg (fun r x h=>qco (ih _ _) (fun b r x h=>qeg (fun r x h=>qco (ih _ _) (fun c r x h=>h) h) h) h) h) h
  |bin k=>
   rw[qnX]at h ⊢;cases h5:(k==5)
   ·rw[h5]at h;cases h2:(k==2)
    ·rw[h2]at h;exact qco (ih _ _) (fun e r x h=>ih _ _ _ h) h
    ·rw[h2]at h;simp only[jAa,jA9]at h ⊢;cases hi:isW [110,111,116] l
     ·rw[hi]at h;exact ih _ _ _ h
     ·rw[hi]at h;exact qco (ih _ _) (fun e r x h=>h) h
   ·rw[h5]at h;exact ih _ _ _ h
  |cmp=>rw[qtJ]at h ⊢;exact qco (ih _ _) (fun e r x h=>ih _ _ _ h) h
  |lp k e=>
   rw[qwI]at h ⊢;cases h0:(opAt k l==0)
   ·rw[h0]at h;simp only[jA9]at h ⊢;refine qco (ih _ _) (fun b r x h=>?_) h;cases h2:(k==2)
    ·rw[h2]at h;exact ih _ _ _ h
    ·rw[h2]at h;exact h
   ·rw[h0]at h;exact h
  |neg=>
   rw[qnY]at h ⊢;cases hi:isW [45] l
   ·rw[hi]at h;exact ih _ _ _ h
   ·rw[hi]at h;exact qco (ih _ _) (fun e r x h=>h) h
  |prim=>
   rw[qkk]at h ⊢;cases h1:isW [36] l
   ·rw[h1]at h;simp only[jA9]at h ⊢;cases h2:isW [109,105,110] l
    ·rw[h2]at h;simp only[jA9]at h ⊢;cases h3:isW [109,97,120] l
     ·rw[h3]at h;simp only[jA9]at h ⊢;cases h4:isW [40] l
      ·rw[h4]at h;exact h
      ·rw[h4]at h;exact qco (ih _ _) (fun e r x h=>h) h
     ·rw[h3]at h;exact qB8 (fun r x h=>ih _ _ _ h) h
    ·rw[h2]at h;exact qB8 (fun r x h=>ih _ _ _ h) h
   ·rw[h1]at h;exact h
theorem qyS{n k:Nat}(hk:n<=k){m:Md}{l:List Tok}{x:Rs}(h:prs n m l=some x):prs k m l=some x:=by
 induction hk with
 |refl=>exact h
 |step _ ih=>exact qiw _ _ _ _ ih
def Ev(m:Md)(l:List Tok)(x:Rs):Prop:=∃n,prs n m l=some x
theorem Ev.fn{m:Md}{l:List Tok}{x y:Rs}(h:Ev m l x)(h':Ev m l y):x=y:=by
 obtain⟨n,hn⟩:=h;obtain⟨k,hk⟩:=h';have h1:=qyS (Nat.le_max_left n k) hn;have h2:=qyS (jCq n k) hk;rw[h1]at h2;cases h2;rfl
def Thn(x:Rs)(f:Ex->List Tok->Rs->Prop)(y:Rs):Prop:=match x with
 | .bad r=>y= .bad r
 | .ok e r=>f e r y
def Wnt(s:Bs)(r:List Tok)(f:List Tok->Rs->Prop)(y:Rs):Prop:=(isW s r=true/\f r.tail y)\/(isW s r=false/\y= .bad r)
theorem Thn.mono{x:Rs}{f g:Ex->List Tok->Rs->Prop}{y:Rs}(h:Thn x f y)(hf:∀e r y,f e r y->g e r y):Thn x g y:=by
 cases x with
 |bad r=>exact h
 |ok e r=>exact hf _ _ _ h
theorem Wnt.mono{s:Bs}{r:List Tok}{f g:List Tok->Rs->Prop}{y:Rs}(h:Wnt s r f y)(hf:∀r y,f r y->g r y):Wnt s r g y:=by
 rcases h with⟨h1,h2⟩|h
 ·exact .inl ⟨h1,hf _ _ h2⟩
 ·exact .inr h
theorem qrE{s:Bs}{r:List Tok}{F:Nat->List Tok->Option Rs}{y:Rs}(h:Wnt s r (fun r y=>∃n,F n r=some y) y):∃n,qbS s r (F n)=some y:=by
 rcases h with⟨h1,n,hn⟩|⟨h1,h2⟩
 ·exact⟨n,by unfold qbS;rw[h1];exact hn⟩
 ·exact⟨0,by unfold qbS;rw[h1,h2];rfl⟩
theorem qiR{m:Md}{l:List Tok}{x y:Rs}{F:Nat->Ex->List Tok->Option Rs}(hx:Ev m l x)(hF:∀n e r z,F n e r=some z->F (n+1) e r=some z)(hy:Thn x (fun e r y=>∃n,F n e r=some y) y):∃n,qcY (prs n m l) (F n)=some y:=by
 obtain⟨n,hn⟩:=hx;have hF':∀{n k},n<=k-> ∀e r z,F n e r=some z->F k e r=some z:=by
  intro n k hk
  induction hk with
  |refl=>intro e r z h;exact h
  |step _ ih=>intro e r z h;exact hF _ _ _ _ (ih _ _ _ h)
 cases x with
 |bad r=>
  cases hy;exact⟨n,by rw[hn];rfl⟩
 |ok e r=>
  obtain⟨k,hk⟩:=hy;refine⟨max n k,?_⟩;rw[qyS (Nat.le_max_left n k) hn];exact hF' (jCq n k) _ _ _ hk
theorem qdr{m:Md}{l:List Tok}{y:Rs}{F:Nat->Option Rs}(he:∀n,prs (n+1) m l=F n)(h:∃n,F n=some y):Ev m l y:=by
 obtain⟨n,hn⟩:=h;exact⟨n+1,by rw[he,hn]⟩
theorem qA2{l:List Tok}{y:Rs}(h0:isW [105,102] l=false)(h:Ev (.bin 0) l y):Ev .ex l y:=qdr (fun n=>by simp only[prs,h0,jA9]) h
theorem qxJ{l:List Tok}{y:Rs}(h:Ev .neg l y):Ev (.bin 5) l y:=qdr (fun n=>by simp only[prs];rfl) h
theorem qEi{l:List Tok}{y:Rs}(h0:isW [110,111,116] l=false)(h:Ev .cmp l y):Ev (.bin 2) l y:=qdr (fun n=>by simp only[prs,h0,jA9];rfl) h
theorem qSb{l:List Tok}{x y:Rs}(h0:isW [110,111,116] l=true)(h:Ev (.bin 2) l.tail x)(hy:Thn x (fun a r y=>y= .ok (exN 16 [a]) r) y):Ev (.bin 2) l y:=by
 refine qdr (F:=fun n=>qcY (prs n (.bin 2) l.tail) fun a r=>some (.ok (exN 16 [a]) r)) (fun n=>by simp only[prs,h0,jAa];rfl) (qiR h (fun n e r z h=>h) ?_);cases x with
 |bad r=>exact hy
 |ok e r=>exact⟨0,by rw[show y=_ from hy]⟩
theorem qjc{k:Nat}(hk:(k==5)=false)(hk2:(k==2)=false){l:List Tok}{x y:Rs}(h:Ev (.bin (k+1)) l x)(hy:Thn x (fun e r y=>Ev (.lp k e) r y) y):Ev (.bin k) l y:=
 qdr (F:=fun n=>qcY (prs n (.bin (k+1)) l) fun e r=>prs n (.lp k e) r) (fun n=>by simp only[prs,hk,hk2,jA9]) (qiR h (fun n e r z h=>qiw _ _ _ _ h) hy)
theorem qA1{l:List Tok}{x y:Rs}(h:Ev (.bin 3) l x)(hy:Thn x (fun e r y=>Ev (.lp 2 e) r y) y):Ev .cmp l y:=
 qdr (F:=fun n=>qcY (prs n (.bin 3) l) fun e r=>prs n (.lp 2 e) r) (fun n=>by simp only[prs]) (qiR h (fun n e r z h=>qiw _ _ _ _ h) hy)
theorem qoQ{k:Nat}{e:Ex}{l:List Tok}(h:opAt k l=0):Ev (.lp k e) l (.ok e l):=⟨1,by simp only[prs,h];rfl⟩
theorem zdd{k:Nat}(hk:(k==2)=false){e:Ex}{l:List Tok}{x y:Rs}(h0:opAt k l≠0)(h:Ev (.bin (k+1)) l.tail x)(hy:Thn x (fun b r y=>Ev (.lp k (exN (opAt k l) [e,b])) r y) y):Ev (.lp k e) l y:=
 qdr (F:=fun n=>qcY (prs n (.bin (k+1)) l.tail) fun b r=>prs n (.lp k (exN (opAt k l) [e,b])) r) (fun n=>by
  have:(opAt k l==0)=false:=by simpa using h0
  simp only[prs,this,hk,jA9]) (qiR h (fun n e r z h=>qiw _ _ _ _ h) hy)
theorem qR9{e:Ex}{l:List Tok}{x y:Rs}(h0:opAt 2 l≠0)(h:Ev (.bin 3) l.tail x)(hy:Thn x (fun b r y=>y= .ok (exN (opAt 2 l) [e,b]) r) y):Ev (.lp 2 e) l y:=by
 refine qdr (F:=fun n=>qcY (prs n (.bin 3) l.tail) fun b r=>some (.ok (exN (opAt 2 l) [e,b]) r)) (fun n=>by
  have:(opAt 2 l==0)=false:=by simpa using h0
  simp only[prs,this,jA9];rfl) (qiR h (fun n e r z h=>h) ?_)
 cases x with
 |bad r=>exact hy
 |ok e r=>exact⟨0,by rw[show y=_ from hy]⟩
theorem qSa{l:List Tok}{x y:Rs}(h0:isW [45] l=true)(h:Ev .neg l.tail x)(hy:Thn x (fun a r y=>y= .ok (exN 9 [a]) r) y):Ev .neg l y:=by
 refine qdr (F:=fun n=>qcY (prs n .neg l.tail) fun a r=>some (.ok (exN 9 [a]) r)) (fun n=>by simp only[prs,h0,jAa]) (qiR h (fun n e r z h=>h) ?_);cases x with
 |bad r=>exact hy
 |ok e r=>exact⟨0,by rw[show y=_ from hy]⟩
theorem qEl{l:List Tok}{y:Rs}(h0:isW [45] l=false)(h:Ev .prim l y):Ev .neg l y:=qdr (fun n=>by simp only[prs,h0,jA9]) h
theorem qEj{l:List Tok}{xa:Rs}{y:Rs}(h0:isW [105,102] l=true)(ha:Ev .ex l.tail xa)
  (hy:Thn xa (fun a r y=>Wnt [116,104,101,110] r (fun r y=>∃xb,Ev .ex r xb/\Thn xb (fun b r y=>Wnt [101,108,115,101] r (fun r y=>∃xc,Ev .ex r xc/\Thn xc (fun c r y=>y= .ok (exN 19 [a,b,c]) r) y) y) y) y) y):Ev .ex l y:=by
 have hc:∀(a b:Ex) (n:Nat) (r:List Tok) (z:Rs),qcY (prs n .ex r) (fun c r=>some (.ok (exN 19 [a,b,c]) r))=some z->qcY (prs (n+1) .ex r) (fun c r=>some (.ok (exN 19 [a,b,c]) r))=some z:=
  fun a b n r z h=>qco (fun r h=>qiw _ _ _ _ h) (fun _ _ _ h=>h) h
 have hb:∀(a:Ex) (n:Nat) (r:List Tok) (z:Rs),qcY (prs n .ex r) (fun b r=>qbS [101,108,115,101] r fun r=>qcY (prs n .ex r) fun c r=>some (.ok (exN 19 [a,b,c]) r))=some z ->
   qcY (prs (n+1) .ex r) (fun b r=>qbS [101,108,115,101] r fun r=>qcY (prs (n+1) .ex r) fun c r=>some (.ok (exN 19 [a,b,c]) r))=some z:=
  fun a n r z h=>qco (fun r h=>qiw _ _ _ _ h) (fun b r x h=>qeg (fun r x h=>hc a b n r x h) h) h
 refine qdr (F:=fun n=>qcY (prs n .ex l.tail) fun a r=>qbS [116,104,101,110] r fun r=>qcY (prs n .ex r) fun b r=>qbS [101,108,115,101] r fun r=>qcY (prs n .ex r) fun c r=>some (.ok (exN 19 [a,b,c]) r))
  (fun n=>by simp only[prs,h0,jAa]) (qiR ha (fun n a r z h=>qeg (fun r x h=>hb a n r x h) h) ?_)
 exact hy.mono fun a r y h=>qrE (F:=fun n r=>qcY (prs n .ex r) fun b r=>qbS [101,108,115,101] r fun r=>qcY (prs n .ex r) fun c r=>some (.ok (exN 19 [a,b,c]) r)) (h.mono fun r y ⟨xb,hxb,h⟩=>
  qiR (F:=fun n b r=>qbS [101,108,115,101] r fun r=>qcY (prs n .ex r) fun c r=>some (.ok (exN 19 [a,b,c]) r)) hxb (fun n b r z h=>qeg (fun r x h=>hc a b n r x h) h) (h.mono fun b r y h=>
   qrE (F:=fun n r=>qcY (prs n .ex r) fun c r=>some (.ok (exN 19 [a,b,c]) r)) (h.mono fun r y ⟨xc,hxc,h⟩=>
    qiR (F:=fun n c r=>some (.ok (exN 19 [a,b,c]) r)) hxc (fun n c r z h=>h) (h.mono fun c r y h=>⟨0,by rw[h]⟩))))
def qKM(op:Int)(r:List Tok)(y:Rs):Prop:=
 Wnt [40] r (fun r y=>∃xa,Ev .ex r xa/\Thn xa (fun a r y=>Wnt [44] r (fun r y=>∃xb,Ev .ex r xb/\Thn xb (fun b r y=>Wnt [41] r (fun r y=>y= .ok (exN op [a,b]) r) y) y) y) y) y
theorem qHo{op:Int}{r:List Tok}{y:Rs}(h:qKM op r y):∃n,qed op (prs n .ex) r=some y:=by
 have hb:∀(a:Ex) (n:Nat) (r:List Tok) (z:Rs),qcY (prs n .ex r) (fun b r=>qbS [41] r fun r=>some (.ok (exN op [a,b]) r))=some z->qcY (prs (n+1) .ex r) (fun b r=>qbS [41] r fun r=>some (.ok (exN op [a,b]) r))=some z:=
  fun a n r z h=>qco (fun r h=>qiw _ _ _ _ h) (fun _ _ _ h=>h) h
 unfold qed;exact qrE (F:=fun n r=>qcY (prs n .ex r) fun a r=>qbS [44] r fun r=>qcY (prs n .ex r) fun b r=>qbS [41] r fun r=>some (.ok (exN op [a,b]) r)) (h.mono fun r y ⟨xa,hxa,h⟩=>
  qiR (F:=fun n a r=>qbS [44] r fun r=>qcY (prs n .ex r) fun b r=>qbS [41] r fun r=>some (.ok (exN op [a,b]) r)) hxa (fun n a r z h=>qeg (fun r x h=>hb a n r x h) h) (h.mono fun a r y h=>
   qrE (F:=fun n r=>qcY (prs n .ex r) fun b r=>qbS [41] r fun r=>some (.ok (exN op [a,b]) r)) (h.mono fun r y ⟨xb,hxb,h⟩=>
    qiR (F:=fun n b r=>qbS [41] r fun r=>some (.ok (exN op [a,b]) r)) hxb (fun n b r z h=>h) (h.mono fun b r y h=>
     qrE (F:=fun _ r=>some (.ok (exN op [a,b]) r)) (h.mono fun r y h=>⟨0,by rw[h]⟩)))))
theorem qR8{l:List Tok}(h0:isW [36] l=true):Ev .prim l (match numAt l.tail with|some v=>.ok (.mk 2 v [] []) l.tail.tail|none=>.bad l.tail):=
 ⟨1,by simp only[prs,h0,jAa];cases numAt l.tail<;>rfl⟩
theorem q7v{l:List Tok}{y:Rs}(h1:isW [36] l=false)(h2:isW [109,105,110] l=true)(h:qKM 17 l.tail y):Ev .prim l y:=
 qdr (F:=fun n=>qed 17 (prs n .ex) l.tail) (fun n=>by simp only[prs,h1,h2,jAa,jA9]) (qHo h)
theorem q7u{l:List Tok}{y:Rs}(h1:isW [36] l=false)(h2:isW [109,105,110] l=false)(h3:isW [109,97,120] l=true)(h:qKM 18 l.tail y):Ev .prim l y:=
 qdr (F:=fun n=>qed 18 (prs n .ex) l.tail) (fun n=>by simp only[prs,h1,h2,h3,jAa,jA9]) (qHo h)
theorem qHp{l:List Tok}{x y:Rs}(h1:isW [36] l=false)(h2:isW [109,105,110] l=false)(h3:isW [109,97,120] l=false)(h4:isW [40] l=true)(h:Ev .ex l.tail x)(hy:Thn x (fun e r y=>Wnt [41] r (fun r y=>y= .ok e r) y) y):Ev .prim l y:=by
 refine qdr (F:=fun n=>qcY (prs n .ex l.tail) fun e r=>qbS [41] r fun r=>some (.ok e r)) (fun n=>by simp only[prs,h1,h2,h3,h4,jAa,jA9]) (qiR h (fun n e r z h=>h) ?_);cases x with
 |bad r=>exact hy
 |ok e r=>
  rcases hy with⟨h1,hy⟩|⟨h1,hy⟩
  ·exact⟨0,by simp only[qbS,h1,jAa];rw[hy]⟩
  ·exact⟨0,by simp only[qbS,h1,jA9];rw[hy]⟩
theorem qEk{l:List Tok}(h1:isW [36] l=false)(h2:isW [109,105,110] l=false)(h3:isW [109,97,120] l=false)(h4:isW [40] l=false):Ev .prim l (qgr l):=
 ⟨1,by simp only[prs,h1,h2,h3,h4,jA9]⟩
theorem qbt{s:Bs}{l:List Tok}(h:isW s l=true):∃t r,l=t::r:=by
 cases l with
 |nil=>cases h
 |cons t r=>exact⟨t,r,rfl⟩
theorem qtk{k:Nat}{l:List Tok}(h:opAt k l≠0):∃t r,l=t::r:=by
 unfold opAt at h;cases hf:(lvS k).find? (fun x=>isW x.1 l)with
 |none=>rw[hf]at h;exact absurd rfl h
 |some x=>
  have h2:=jC4 (p:=fun x:Bs×Int=>isW x.1 l) hf;exact qbt (s:=x.1) h2
def zho(m:Md)(l r:List Tok):Prop:=match m with
 | .lp _ _=>r.length<=l.length
 |_=>r.length<l.length
theorem qM9{l:List Tok}{e:Ex}{r:List Tok}(h:qgr l= .ok e r):r.length<l.length:=by
 unfold qgr at h;cases l with
 |nil=>cases h
 |cons t l=>
  simp only at h;cases h1:(t.kind==1)
  ·rw[h1]at h;cases h3:(t.kind==3)
   ·rw[h3]at h;simp only[jA9]at h;split at h
    ·cases h;simp
    ·cases h
   ·rw[h3]at h;simp only[jAa,jA9]at h;cases h4:((qbh t.text).2==0)
    ·rw[h4]at h;cases h
    ·rw[h4]at h;cases h;simp
  ·rw[h1]at h;cases h;simp
theorem qda{o:Option Rs}{f:Ex->List Tok->Option Rs}{e:Ex}{r:List Tok}(h:qcY o f=some (.ok e r)):∃e' r',o=some (.ok e' r')/\f e' r'=some (.ok e r):=by
 unfold qcY at h;split at h
 ·cases h
 ·cases h
 ·exact⟨_,_,rfl,h⟩
theorem qiJ{s:Bs}{l:List Tok}{f:List Tok->Option Rs}{e:Ex}{r:List Tok}(h:qbS s l f=some (.ok e r)):∃t l',l=t::l'/\isW s l=true/\f l'=some (.ok e r):=by
 unfold qbS at h;cases hq:isW s l
 ·rw[hq]at h;cases h
 ·rw[hq]at h;obtain⟨t,l',rfl⟩:=qbt hq;exact⟨t,l',rfl,rfl,h⟩
theorem qXh{op:Int}{p:List Tok->Option Rs}{l:List Tok}{e:Ex}{r:List Tok}(h:qed op p l=some (.ok e r)) :
  ∃t1 l1 a t2 l2 b t3,l=t1::l1/\p l1=some (.ok a (t2::l2))/\p l2=some (.ok b (t3::r))/\e=exN op [a,b]:=by
 unfold qed at h;obtain⟨t1,l1,rfl,_,h⟩:=qiJ h;obtain⟨a,r1,h1,h⟩:=qda h;obtain⟨t2,l2,rfl,_,h⟩:=qiJ h;obtain⟨b,r2,h2,h⟩:=qda h;obtain⟨t3,l3,rfl,_,h⟩:=qiJ h;cases h;exact⟨t1,l1,a,t2,l2,b,t3,rfl,h1,h2,rfl⟩
theorem qXs:∀(n:Nat) (m:Md) (l:List Tok) (e:Ex) (r:List Tok),prs n m l=some (.ok e r)->zho m l r:=by
 intro n
 induction n with
 |zero=>intro m l e r h;cases h
 |succ n ih=>
  intro m l e r h;cases m with
  |ex=>
   simp only[prs]at h;show r.length<l.length;cases hi:isW [105,102] l
   ·rw[hi]at h;exact ih _ _ _ _ h
   ·rw[hi]at h;obtain⟨t,l',rfl⟩:=qbt hi;simp only[jAa,jB3]at h;obtain⟨a,r1,h1,h⟩:=qda h;obtain⟨t1,l1,rfl,_,h⟩:=qiJ h;obtain⟨b,r2,h2,h⟩:=qda h;obtain⟨t2,l2,rfl,_,h⟩:=qiJ h;obtain⟨c,r3,h3,h⟩:=qda h;cases h;have q1:_<_:=ih _ _ _ _ h1;have q2:_<_:=ih _ _ _ _ h2;have q3:_<_:=ih _ _ _ _ h3;simp only[jA0]at q1 q2 q3 ⊢;omega
  |bin k=>
   simp only[prs]at h;show r.length<l.length;cases h5:(k==5)
   ·rw[h5]at h;cases h2:(k==2)
    ·rw[h2]at h;simp only[jA9]at h;obtain⟨a,r1,h1,h⟩:=qda h;have q1:_<_:=ih _ _ _ _ h1;have q2:_<=_:=ih _ _ _ _ h;omega
    ·rw[h2]at h;simp only[jAa,jA9]at h;cases hi:isW [110,111,116] l
     ·rw[hi]at h;exact ih _ _ _ _ h
     ·rw[hi]at h;obtain⟨t,l',rfl⟩:=qbt hi;obtain⟨a,r1,h1,h⟩:=qda h;cases h;have q1:_<_:=ih _ _ _ _ h1;simp only[jB3,jA0]at q1 ⊢;omega
   ·rw[h5]at h;exact ih _ _ _ _ h
  |cmp=>
   simp only[prs]at h;show r.length<l.length;obtain⟨a,r1,h1,h⟩:=qda h;have q1:_<_:=ih _ _ _ _ h1;have q2:_<=_:=ih _ _ _ _ h;omega
  |lp k e0=>
   simp only[prs]at h;show r.length<=l.length;cases h0:(opAt k l==0)
   ·rw[h0]at h;obtain⟨t,l',rfl⟩:=qtk (by simpa using h0);simp only[jA9,jB3]at h;obtain⟨b,r1,h1,h⟩:=qda h;have q1:_<_:=ih _ _ _ _ h1;cases h2:(k==2)
    ·rw[h2]at h;have q2:_<=_:=ih _ _ _ _ h;simp only[jA0];omega
    ·rw[h2]at h;cases h;simp only[jA0];omega
   ·rw[h0]at h;cases h;exact jAj _
  |neg=>
   simp only[prs]at h;show r.length<l.length;cases hi:isW [45] l
   ·rw[hi]at h;exact ih _ _ _ _ h
   ·rw[hi]at h;obtain⟨t,l',rfl⟩:=qbt hi;obtain⟨a,r1,h1,h⟩:=qda h;cases h;have q1:_<_:=ih _ _ _ _ h1;simp only[jB3,jA0]at q1 ⊢;omega
  |prim=>
   simp only[prs]at h;show r.length<l.length;have hpair:∀{op:Int} {t:Tok} {l':List Tok},qed op (prs n .ex) l'=some (.ok e r)->r.length<(t::l').length:=by
    intro op t l' h;obtain⟨t1,l1,a,t2,l2,b,t3,rfl,h1,h2,_⟩:=qXh h;have q1:_<_:=ih _ _ _ _ h1;have q2:_<_:=ih _ _ _ _ h2;simp only[jA0]at q1 q2 ⊢;omega
   cases h1:isW [36] l
   ·rw[h1]at h;simp only[jA9]at h;cases h2:isW [109,105,110] l
    ·rw[h2]at h;simp only[jA9]at h;cases h3:isW [109,97,120] l
     ·rw[h3]at h;simp only[jA9]at h;cases h4:isW [40] l
      ·rw[h4]at h;simp only[jA9,jA7]at h;exact qM9 h
      ·rw[h4]at h;obtain⟨t,l',rfl⟩:=qbt h4;simp only[jAa,jB3]at h;obtain⟨a,r1,h1,h⟩:=qda h;obtain⟨t1,l1,rfl,_,h⟩:=qiJ h;cases h;have q1:_<_:=ih _ _ _ _ h1;simp only[jA0]at q1 ⊢;omega
     ·rw[h3]at h;obtain⟨t,l',rfl⟩:=qbt h3;exact hpair h
    ·rw[h2]at h;obtain⟨t,l',rfl⟩:=qbt h2;exact hpair h
   ·rw[h1]at h;obtain⟨t,l',rfl⟩:=qbt h1;simp only[jAa,jB3]at h;split at h
    ·rename_i v hv;cases h;cases l' with
     |nil=>cases hv
     |cons t' l'=>simp only[jB3,jA0];omega
    ·cases h
theorem Ev.short{m:Md}{l:List Tok}{e:Ex}{r:List Tok}(h:Ev m l (.ok e r)):zho m l r:=h.elim fun n hn=>qXs n _ _ _ _ hn
def wgt:Md->Nat
 | .prim=>0
 | .neg=>1
 | .bin k=>if k>=5 then 2 else if k=4 then 3 else if k=3 then 4 else if k=2 then 6 else if k=1 then 7 else 8
 | .cmp=>5
 | .ex=>9
 | .lp _ _=>10
def zne:Md->Bool
 | .bin k=>decide (k<=5)
 | .lp k _=>decide (k<=4)
 |_=>true
theorem zi0:∀(n w:Nat) (m:Md) (l:List Tok),l.length=n->wgt m=w->zne m=true-> ∃x,Ev m l x:=by
 intro n
 induction n using Nat.strongRecOn with
 |_ n ihn=>
  have hex:∀{l':List Tok},l'.length<n-> ∀m,zne m=true-> ∃x,Ev m l' x:=fun h m hm=>ihn _ h _ m _ rfl rfl hm
  intro w
  induction w using Nat.strongRecOn with
  |_ w ihw=>
   intro m l hl hw hm;have hlow:∀m',wgt m'<w->zne m'=true-> ∃x,Ev m' l x:=fun m' h hm'=>ihw _ h m' l hl rfl hm'
   have hpair:∀(op:Int) (t:Tok) (l':List Tok),l=t::l'-> ∃y,qKM op l' y:=by
    intro op t l' he;unfold qKM;by_cases h1:isW [40] l'=true
    ·obtain⟨t1,l1,rfl⟩:=qbt h1;obtain⟨xa,hxa⟩:=hex (l':=l1) (by rw[<-hl,he];simp;omega) .ex rfl;cases xa with
     |bad r=>exact⟨_,.inl ⟨h1,_,hxa,rfl⟩⟩
     |ok a r=>
      have q1:_<_:=hxa.short;by_cases h2:isW [44] r=true
      ·obtain⟨t2,l2,rfl⟩:=qbt h2;obtain⟨xb,hxb⟩:=hex (l':=l2) (by rw[<-hl,he];simp only[jA0]at q1 ⊢;omega) .ex rfl;cases xb with
       |bad r=>exact⟨_,.inl ⟨h1,_,hxa,.inl ⟨h2,_,hxb,rfl⟩⟩⟩
       |ok b r=>
        by_cases h3:isW [41] r=true
        ·exact⟨_,.inl ⟨h1,_,hxa,.inl ⟨h2,_,hxb,.inl ⟨h3,rfl⟩⟩⟩⟩
        ·exact⟨_,.inl ⟨h1,_,hxa,.inl ⟨h2,_,hxb,.inr ⟨by simpa using h3,rfl⟩⟩⟩⟩
      ·exact⟨_,.inl ⟨h1,_,hxa,.inr ⟨by simpa using h2,rfl⟩⟩⟩
    ·exact⟨_,.inr ⟨by simpa using h1,rfl⟩⟩
   cases m with
   |prim=>
    cases h1:isW [36] l
    ·cases h2:isW [109,105,110] l
     ·cases h3:isW [109,97,120] l
      ·cases h4:isW [40] l
       ·exact⟨_,qEk h1 h2 h3 h4⟩
       ·obtain⟨t,l',rfl⟩:=qbt h4;obtain⟨x,hx⟩:=hex (l':=l') (by rw[<-hl];simp) .ex rfl;cases x with
        |bad r=>exact⟨_,qHp h1 h2 h3 h4 hx rfl⟩
        |ok e r=>
         by_cases h5:isW [41] r=true
         ·exact⟨_,qHp h1 h2 h3 h4 hx (.inl ⟨h5,rfl⟩)⟩
         ·exact⟨_,qHp h1 h2 h3 h4 hx (.inr ⟨by simpa using h5,rfl⟩)⟩
      ·obtain⟨t,l',rfl⟩:=qbt h3;obtain⟨y,hy⟩:=hpair 18 t l' rfl;exact⟨y,q7u h1 h2 h3 hy⟩
     ·obtain⟨t,l',rfl⟩:=qbt h2;obtain⟨y,hy⟩:=hpair 17 t l' rfl;exact⟨y,q7v h1 h2 hy⟩
    ·exact⟨_,qR8 h1⟩
   |neg=>
    cases h1:isW [45] l
    ·obtain⟨x,hx⟩:=hlow .prim (by rw[<-hw];decide) rfl;exact⟨x,qEl h1 hx⟩
    ·obtain⟨t,l',rfl⟩:=qbt h1;obtain⟨x,hx⟩:=hex (l':=l') (by rw[<-hl];simp) .neg rfl;cases x with
     |bad r=>exact⟨_,qSa h1 hx rfl⟩
     |ok e r=>exact⟨_,qSa h1 hx rfl⟩
   |cmp=>
    obtain⟨x,hx⟩:=hlow (.bin 3) (by rw[<-hw];decide) rfl;cases x with
    |bad r=>exact⟨_,qA1 hx rfl⟩
    |ok e r=>
     have q1:_<_:=hx.short;obtain⟨y,hy⟩:=hex (l':=r) (by omega) (.lp 2 e) rfl;exact⟨y,qA1 hx hy⟩
   |ex=>
    cases h1:isW [105,102] l
    ·obtain⟨x,hx⟩:=hlow (.bin 0) (by rw[<-hw];decide) rfl;exact⟨x,qA2 h1 hx⟩
    ·obtain⟨t,l',rfl⟩:=qbt h1;obtain⟨xa,hxa⟩:=hex (l':=l') (by rw[<-hl];simp) .ex rfl;cases xa with
     |bad r=>exact⟨_,qEj h1 hxa rfl⟩
     |ok a r=>
      have q1:_<_:=hxa.short;by_cases h2:isW [116,104,101,110] r=true
      ·obtain⟨t2,l2,rfl⟩:=qbt h2;obtain⟨xb,hxb⟩:=hex (l':=l2) (by rw[<-hl];simp only[jA0,jB3]at q1 ⊢;omega) .ex rfl;cases xb with
       |bad r=>exact⟨_,qEj h1 hxa (.inl ⟨h2,_,hxb,rfl⟩)⟩
       |ok b r=>
        have q2:_<_:=hxb.short;by_cases h3:isW [101,108,115,101] r=true
        ·obtain⟨t3,l3,rfl⟩:=qbt h3;obtain⟨xc,hxc⟩:=hex (l':=l3) (by rw[<-hl];simp only[jA0,jB3]at q1 q2 ⊢;omega) .ex rfl;cases xc with
         |bad r=>exact⟨_,qEj h1 hxa (.inl ⟨h2,_,hxb,.inl ⟨h3,_,hxc,rfl⟩⟩)⟩
         |ok c r=>exact⟨_,qEj h1 hxa (.inl ⟨h2,_,hxb,.inl ⟨h3,_,hxc,rfl⟩⟩)⟩
        ·exact⟨_,qEj h1 hxa (.inl ⟨h2,_,hxb,.inr ⟨by simpa using h3,rfl⟩⟩)⟩
      ·exact⟨_,qEj h1 hxa (.inr ⟨by simpa using h2,rfl⟩)⟩
   |bin k=>
    have hk:k<=5:=jBd hm;have hgen:(k==5)=false->(k==2)=false->wgt (.bin (k+1))<w-> ∃x,Ev (.bin k) l x:=by
     intro h5 h2 hlt;have hk5:k≠5:=by simpa using h5
     obtain⟨x,hx⟩:=hlow (.bin (k+1)) hlt (jA8 (by omega));cases x with
     |bad r=>exact⟨_,qjc h5 h2 hx rfl⟩
     |ok e r=>
      have q1:_<_:=hx.short;obtain⟨y,hy⟩:=hex (l':=r) (by omega) (.lp k e) (jA8 (by omega));exact⟨y,qjc h5 h2 hx hy⟩
    match k,hk with
    |0,_=>exact hgen rfl rfl (by rw[<-hw];decide)
    |1,_=>exact hgen rfl rfl (by rw[<-hw];decide)
    |3,_=>exact hgen rfl rfl (by rw[<-hw];decide)
    |4,_=>exact hgen rfl rfl (by rw[<-hw];decide)
    |2,_=>
     cases h1:isW [110,111,116] l
     ·obtain⟨x,hx⟩:=hlow .cmp (by rw[<-hw];decide) rfl;exact⟨x,qEi h1 hx⟩
     ·obtain⟨t,l',rfl⟩:=qbt h1;obtain⟨x,hx⟩:=hex (l':=l') (by rw[<-hl];simp) (.bin 2) rfl;cases x with
      |bad r=>exact⟨_,qSb h1 hx rfl⟩
      |ok e r=>exact⟨_,qSb h1 hx rfl⟩
    |5,_=>
     obtain⟨x,hx⟩:=hlow .neg (by rw[<-hw];decide) rfl;exact⟨x,qxJ hx⟩
   |lp k e=>
    have hk:k<=4:=jBd hm;by_cases h0:opAt k l=0
    ·exact⟨_,qoQ h0⟩
    ·obtain⟨t,l',rfl⟩:=qtk h0;obtain⟨x,hx⟩:=hex (l':=l') (by rw[<-hl];simp) (.bin (k+1)) (jA8 (by omega));by_cases h2:k=2
     ·subst h2;cases x with
      |bad r=>exact⟨_,qR9 h0 hx rfl⟩
      |ok b r=>exact⟨_,qR9 h0 hx rfl⟩
     ·cases x with
      |bad r=>exact⟨_,zdd (by simpa using h2) h0 hx rfl⟩
      |ok b r=>
       have q1:_<_:=hx.short;obtain⟨y,hy⟩:=hex (l':=r) (by rw[<-hl];simp only[jB3,jA0]at q1 ⊢;omega) (.lp k (exN (opAt k (t::l')) [e,b])) (jA8 hk);exact⟨y,zdd (by simpa using h2) h0 hx hy⟩
theorem qHq{m:Md}(hm:zne m=true)(l:List Tok):∃x,Ev m l x:=zi0 _ _ m l rfl rfl hm
set_option linter.unusedSimpArgs false
set_option linter.unusedVariables false
def qaS(op:Int):Nat:=if op=19 then 0 else if op=15 then 1 else if op=14 then 2 else if op=16 then 3 else if op=10\/op=11\/op=12\/op=13 then 4 else if op=5\/op=6 then 5 else if op=7\/op=8 then 6 else if op=9 then 7 else 8
def mkT(k:Int)(s:Bs):Tok:=⟨k,1,s⟩
def wT(s:Bs):Tok:=mkT (qcu s) s
def qex(op:Int):Bs:=if op=5 then[43]else if op=6 then[45]else if op=7 then[42]else if op=8 then[47]else if op=10 then[61,61]else if op=11 then[33,61]else if op=12 then[60]else if op=13 then[60,61]else if op=14 then[97,110,100]else[111,114]
def qBE(op n:Int)(s:Bs):List Tok:=if op=1 then[mkT 2 (Lib.itoa n)]else if op=2 then[wT [36],mkT 2 (Lib.itoa n)]else if op=3 then[mkT 3 (qk4 n.toNat)]else[mkT 1 s]
def qNW(r:Nat)(op:Int)(l:List Tok):List Tok:=if qaS op<r then wT [40]::(l++[wT [41]])else l
def qev(op:Int):Nat:=if qaS op=4 then 5 else qaS op
def wrB:Ex->List Tok
 | .mk o n s []=>qBE o n s
 | .mk o n s [a]=>wT (if o=16 then[110,111,116]else[45])::qNW (qaS o) a.op (wrB a)
 | .mk o n s [a,b]=>if o=17\/o=18 then wT (if o=17 then[109,105,110]else[109,97,120])::wT [40]::(wrB a++wT [44]::(wrB b++[wT [41]]))
   else qNW (qev o) a.op (wrB a)++wT (qex o)::qNW (qaS o+1) b.op (wrB b)
 | .mk o n s (a::b::c::_)=>wT [105,102]::(wrB a++wT [116,104,101,110]::(wrB b++wT [101,108,115,101]::wrB c))
def lvR:Nat->Nat
 |0=>1|1=>2|2=>4|3=>5|_=>6
def stopL(r:Nat)(l:List Tok):Prop:=∀k,k<=4->r<=lvR k->opAt k l=0
theorem stopL.up{r r':Nat}{l:List Tok}(h:stopL r l)(hr:r<=r'):stopL r' l:=fun k hk hl=>h k hk (by omega)
theorem qbl(s:Bs)(t:Tok)(l:List Tok):isW s (t::l)=isW s [t]:=rfl
theorem qip{s:Bs}{t:Tok}{l:List Tok}(h:isW s (t::l)=true):t.text=s/\t.kind=qcu s:=by
 simp only[isW,jA1,jB7]at h;exact h
theorem qKJ{s s':Bs}{l:List Tok}(h:isW s l=true)(hs:s≠s'):isW s' l=false:=by
 obtain⟨t,l',rfl⟩:=qbt h;obtain⟨ht,_⟩:=qip h;simp only[isW,ht];have:(s==s')=false:=by simpa using hs
 rw[this];rfl
theorem qps{n:Int}(h:0<=n):Lib.itoa n=Lib.decDigits n.toNat:=by unfold Lib.itoa;rw[jAm (by omega)]
theorem qhx{n:Int}(h:0<=n)(h2:n<=9223372036854775807):qjA (Lib.itoa n)=some n:=by
 rw[qps h];obtain⟨i1,i2,_⟩:=qhk n.toNat n.toNat (jAj _);unfold qjA;rw[qjt i1,i1,i2,jAe (by omega)];simp only[jBm,Bool.not_false,jAa,jA7];omega
end Go.Tk
namespace Go.Eng
theorem brF{α:Type}{b:Bool}{x y:DT α}(h:b=false):(DT.br b x y).ev=y.ev:=by rw[h];rfl
theorem brT{α:Type}{b:Bool}{x y:DT α}(h:b=true):(DT.br b x y).ev=x.ev:=by rw[h];rfl
theorem biS{α β:Type}[Inhabited β]{o:Option β}{v:β}{k:β->DT α}{e:DT α}(h:o=some v):(DT.bi o k e).ev=(k v).ev:=by rw[h];rfl
theorem biN{α β:Type}[Inhabited β]{o:Option β}{k:β->DT α}{e:DT α}(h:o=none):(DT.bi o k e).ev=e.ev:=by rw[h];rfl
theorem biL{α β γ:Type}[Inhabited β]{o:Option (β⊕γ)}{v:β}{k:β->DT α}{e:DT α}(h:o=some (.inl v)):(DT.bi (pl o) k e).ev=(k v).ev:=by rw[h];rfl
theorem quZ{α β γ:Type}[Inhabited β]{o:Option (β⊕γ)}{v:γ}{k:β->DT α}{e:DT α}(h:o=some (.inr v)):(DT.bi (pl o) k e).ev=e.ev:=by rw[h];rfl
theorem biR{α β γ:Type}[Inhabited γ]{o:Option (β⊕γ)}{v:γ}{k:γ->DT α}{e:DT α}(h:o=some (.inr v)):(DT.bi (pr o) k e).ev=(k v).ev:=by rw[h];rfl
end Go.Eng
namespace Go.Tk
open Go Go.Eng
end Go.Tk
namespace Go.Tk
open Go Go.Eng
set_option maxRecDepth 20000
structure Va where
 (name:Bs)
 (ty:Int)
def Va.av(x:Va):AV:=.agg [.str x.name,.int .i64 x.ty]
abbrev EV(l:List Va):List AV:=l.map Va.av
abbrev ksV:List CS:=[CS.str,CS.int IntKind.i64]
theorem hkV(h:Va):qpd ksV (qai h.av)=true:=rfl
theorem okV{l:List Va}{n:Nat}(h:n<l.length):qaG ksV (EV l) (n:Int)=true:=qge hkV h
theorem qv0{l:List Va}{n:Nat}(h:n<l.length):strOf (cellAt (EV l) (n:Int) 0)=l[n].name:=by rw[qaD h];rfl
theorem qv1{l:List Va}{n:Nat}(h:n<l.length):intOf (cellAt (EV l) (n:Int) 1)=l[n].ty:=by rw[qaD h];rfl
abbrev EI(l:List Int):List AV:=l.map (.int .i64)
abbrev ksI:List CS:=[CS.int IntKind.i64]
theorem okI{l:List Int}{n:Nat}(h:n<l.length):qaG ksI (EI l) (n:Int)=true:=qge (fun _=>rfl) h
def qMI(t:Int):Bool:=decide (t>=1)&&decide (t<=5)
def ariL:List ((Int×Int×Int)×Int):=[((5,1,1),1),((5,2,2),2),((5,3,3),3),((5,4,1),4),((6,1,1),1),((6,2,2),2),((6,3,3),3),((6,4,1),4),((6,4,4),1),((7,1,1),1),((7,1,2),2),((7,1,3),3),((7,2,1),2),((7,2,3),2),((7,3,1),3),((7,3,2),2),((8,1,1),1),((8,2,1),2),((8,2,2),1),((8,3,1),3)]
def qRt(op a b:Int):Option Int:=(ariL.find? fun p=>p.1==(op,a,b)).map (·.2)
def zul(op a:Int):Int×Bool:=
 if op=16 then bif a==5 then(5,true)else(0,false)
 else if op=9 then bif a==1||(a==2||a==3)then(a,true)else(0,false)
 else(0,false)
def zuv(op a b:Int):Int×Bool:=
 if op=10\/op=11 then bif a==b then(5,true)else(0,false)
 else if op=12\/op=13 then bif a==b&&a != 5 then(5,true)else(0,false)
 else if op=14\/op=15 then bif a==b&&a==5 then(5,true)else(0,false)
 else if op=17\/op=18 then bif a==b&&a != 5 then(a,true)else(0,false)
 else match qRt op a b with
  |some t=>(t,true)
  |none=>(0,false)
def zk9(op a b c:Int):Int×Bool:=bif op==19&&(a==5&&b==c)then(b,true)else(0,false)
def zs0(op:Int)(l:List Int):Int×Bool:=bif !l.all qMI then(0,false)else match l with
 | [a]=>zul op a
 | [a,b]=>zuv op a b
 | [a,b,c]=>zk9 op a b c
 |_=>(0,false)
def zqK(vs:List Va)(s:Bs):Int×Int:=match vs.find? fun v=>v.name==s with
 |none=>(0,4)
 |some v=>bif qMI v.ty then(v.ty,0)else(0,3)
def zsI(op:Int)(p:List Int×Int):Int×Int:=bif p.2 != 0 then(0,p.2)else bif (zs0 op p.1).2 then((zs0 op p.1).1,0)else(0,3)
mutual
def Ex.ty(vs:List Va):Ex->Int×Int
 | .mk o _ s l=>if o=1 then(1,0)else if o=2 then(2,0)else if o=3 then(3,0)else if o=4 then zqK vs s else zsI o (Ex.tys vs l)
def Ex.tys(vs:List Va):List Ex->List Int×Int
 | []=>([],0)
 |e::l=>bif (Ex.ty vs e).2 != 0 then([],(Ex.ty vs e).2)else bif (Ex.tys vs l).2 != 0 then([],(Ex.tys vs l).2)else((Ex.ty vs e).1::(Ex.tys vs l).1,0)
end
end Go.Tk
namespace Go.Proofs.H16
open Go Go.Eng Go.Tk
set_option maxRecDepth 20000
def lvV(k:Nat):List Va:=(lvS k).map fun x=>⟨x.1,x.2⟩
def lvA(l:List Va):AV:=.view 2 (EV l)
abbrev lvs:List (List Va):=[lvV 0,lvV 1,lvV 2,lvV 3,lvV 4]
theorem zsS{l:List (List Va)}{n:Nat}(h:n<l.length):qaG [CS.slice 2] (l.map lvA) (n:Int)=true:=qge (fun _=>rfl) h
theorem qLv{l:List (List Va)}{n:Nat}(h:n<l.length):qap (cellAt (l.map lvA) (n:Int) 0)=EV l[n]:=by rw[qaD h];rfl
theorem qdN:qls=some (lvs.map lvA):=by
 rw[qLK,qqk];rfl
end Go.Proofs.H16
namespace Go.Tk
open Go Go.Eng
set_option linter.unusedSimpArgs false
set_option linter.unusedVariables false
def wtM:Md->Nat
 | .lp _ e=>e.nodes
 |_=>0
def GoodR(l:List Tok)(w:Nat):Rs->Prop
 | .bad r=>r <:+ l
 | .ok e r=>r <:+ l/\e.nodes+r.length<=w+l.length
theorem qdv{l l1:List Tok}{w w1:Nat}{o:Option Rs}{f:Ex->List Tok->Option Rs}{x:Rs}(h:qcY o f=some x)(ho:∀y,o=some y->GoodR l1 w1 y)(hl:l1 <:+ l)
  (hf:∀e r,r <:+ l1->r <:+ l->e.nodes+r.length<=w1+l1.length->f e r=some x->GoodR l w x):GoodR l w x:=by
 unfold qcY at h;cases o with
 |none=>cases h
 |some y=>
  have:=ho y rfl;cases y with
  |bad r=>cases h;exact List.IsSuffix.trans this hl
  |ok e r=>exact hf e r this.1 (this.1.trans hl) this.2 h
theorem qho{l r:List Tok}{s:Bs}{w:Nat}{f:List Tok->Option Rs}{x:Rs}(h:qbS s r f=some x)(hr:r <:+ l)
  (hf:∀r',r' <:+ l->r'.length+1=r.length->f r'=some x->GoodR l w x):GoodR l w x:=by
 unfold qbS at h;cases hi:isW s r
 ·rw[hi]at h;cases h;exact hr
 ·rw[hi]at h;obtain⟨t,r',rfl⟩:=qbt hi;exact hf r' ((jCr t r').trans hr) rfl h
theorem GoodR.up{l l':List Tok}{w w':Nat}{x:Rs}(h:GoodR l w x)(hl:l <:+ l')(hw:w+l.length<=w'+l'.length):GoodR l' w' x:=by
 cases x with
 |bad r=>exact List.IsSuffix.trans h hl
 |ok e r=>exact⟨List.IsSuffix.trans h.1 hl,jAz h.2 hw⟩
theorem zky(t:Tok)(l:List Tok):l <:+ t::l:=jCr t l
theorem qT4{l:List Tok}:GoodR l 0 (qgr l):=by
 unfold qgr;cases l with
 |nil=>exact jCa _
 |cons t r=>
  simp only;have hok:∀(o n:Int) (s:Bs),GoodR (t::r) 0 (.ok (.mk o n s []) r):=fun o n s=>⟨zky t r,by simp[Ex.nodes,Ex.nodesL];try omega⟩
  cases t.kind==1
  ·cases t.kind==3
   ·cases numAt (t::r)with
    |none=>exact jCa _
    |some n=>exact hok _ _ _
   ·cases(qbh t.text).2==0
    ·exact jCa _
    ·exact hok _ _ _
  ·exact hok _ _ _
theorem qoF{s:Bs}{l:List Tok}(h:isW s l=true):l.tail <:+ l/\l.tail.length+1=l.length:=by
 obtain⟨t,r,rfl⟩:=qbt h;exact⟨jCr t r,rfl⟩
theorem zqE{k:Nat}{l:List Tok}(h:(opAt k l==0)=false):l.tail <:+ l/\l.tail.length+1=l.length:=by
 obtain⟨t,r,rfl⟩:=qtk (k:=k) (l:=l) (by simpa using h);exact⟨jCr t r,rfl⟩
theorem qjC{l r:List Tok}{w:Nat}{e:Ex}(h:r <:+ l)(h2:e.nodes+r.length<=w+l.length):GoodR l w (.ok e r):=⟨h,h2⟩
theorem n1(o:Int)(a:Ex):(exN o [a]).nodes=1+a.nodes:=by simp[exN,Ex.nodes,Ex.nodesL];try omega
theorem n2(o:Int)(a b:Ex):(exN o [a,b]).nodes=1+a.nodes+b.nodes:=by simp[exN,Ex.nodes,Ex.nodesL];try omega
theorem n3(o:Int)(a b c:Ex):(exN o [a,b,c]).nodes=1+a.nodes+b.nodes+c.nodes:=by simp[exN,Ex.nodes,Ex.nodesL];try omega
theorem qKf:∀(n:Nat) (m:Md) (l:List Tok) (x:Rs),prs n m l=some x->GoodR l (wtM m) x:=by
 intro n
 induction n with
 |zero=>intro m l x h;cases h
 |succ n ih=>
  intro m l x h;have pairG:∀(op:Int) (r:List Tok),r <:+ l->r.length+1=l.length->qed op (prs n .ex) r=some x->GoodR l 0 x:=by
   intro op r hr hrl h;unfold qed at h;refine qho h hr fun r1 s1 e1 h=>?_
   refine qdv h (ih _ _) s1 fun a r2 _ s2 q2 h=>?_
   refine qho h s2 fun r3 s3 e3 h=>?_
   refine qdv h (ih _ _) s3 fun b r4 _ s4 q4 h=>?_
   refine qho h s4 fun r5 s5 e5 h=>?_
   cases h;refine qjC s5 ?_;rw[n2];simp only[wtM]at q2 q4;omega
  cases m with
  |ex=>
   rw[qwH]at h;cases hi:isW [105,102] l
   ·rw[hi]at h;exact ih (.bin 0) l x h
   ·rw[hi]at h;obtain⟨s0,e0⟩:=qoF hi;refine qdv h (ih _ _) s0 fun a r1 _ s1 q1 h=>?_
    refine qho h s1 fun r2 s2 e2 h=>?_
    refine qdv h (ih _ _) s2 fun b r3 _ s3 q3 h=>?_
    refine qho h s3 fun r4 s4 e4 h=>?_
    refine qdv h (ih _ _) s4 fun c r5 _ s5 q5 h=>?_
    cases h;refine qjC s5 ?_;rw[n3];simp only[wtM]at q1 q3 q5 ⊢;omega
  |bin k=>
   rw[qnX]at h;cases h5:(k==5)
   ·rw[h5]at h;cases h2:(k==2)
    ·rw[h2]at h;refine qdv h (ih _ _) (jCa _) fun e r _ s1 q1 h=>?_
     refine(ih _ _ _ h).up s1 ?_;simp only[wtM]at q1 ⊢;omega
    ·rw[h2]at h;simp only[jAa,jA9]at h;cases hi:isW [110,111,116] l
     ·rw[hi]at h;exact ih .cmp l x h
     ·rw[hi]at h;obtain⟨s0,e0⟩:=qoF hi;refine qdv h (ih _ _) s0 fun a r1 _ s1 q1 h=>?_
      cases h;refine qjC s1 ?_;rw[n1];simp only[wtM]at q1 ⊢;omega
   ·rw[h5]at h;exact ih .neg l x h
  |cmp=>
   rw[qtJ]at h;refine qdv h (ih _ _) (jCa _) fun e r _ s1 q1 h=>?_
   refine(ih _ _ _ h).up s1 ?_;simp only[wtM]at q1 ⊢;omega
  |lp k e=>
   rw[qwI]at h;cases h0:(opAt k l==0)
   ·rw[h0]at h;obtain⟨s0,e0⟩:=zqE h0;refine qdv h (ih _ _) s0 fun b r1 _ s1 q1 h=>?_
    cases h2:(k==2)
    ·rw[h2]at h;refine(ih _ _ _ h).up s1 ?_;simp only[wtM]at q1 ⊢;rw[n2];omega
    ·rw[h2]at h;cases h;refine qjC s1 ?_;rw[n2];simp only[wtM]at q1 ⊢;omega
   ·rw[h0]at h;cases h;exact qjC (jCa _) (jAj _)
  |neg=>
   rw[qnY]at h;cases hi:isW [45] l
   ·rw[hi]at h;exact ih .prim l x h
   ·rw[hi]at h;obtain⟨s0,e0⟩:=qoF hi;refine qdv h (ih _ _) s0 fun a r1 _ s1 q1 h=>?_
    cases h;refine qjC s1 ?_;rw[n1];simp only[wtM]at q1 ⊢;omega
  |prim=>
   rw[qkk]at h;cases h1:isW [36] l
   ·rw[h1]at h;simp only[jA9]at h;cases h2:isW [109,105,110] l
    ·rw[h2]at h;simp only[jA9]at h;cases h3:isW [109,97,120] l
     ·rw[h3]at h;simp only[jA9]at h;cases h4:isW [40] l
      ·rw[h4]at h;cases h;exact qT4
      ·rw[h4]at h;obtain⟨s0,e0⟩:=qoF h4;refine qdv h (ih _ _) s0 fun a r1 _ s1 q1 h=>?_
       refine qho h s1 fun r2 s2 e2 h=>?_
       cases h;refine qjC s2 ?_;simp only[wtM]at q1 ⊢;omega
     ·rw[h3]at h;obtain⟨s0,e0⟩:=qoF h3;exact pairG 18 _ s0 e0 h
    ·rw[h2]at h;obtain⟨s0,e0⟩:=qoF h2;exact pairG 17 _ s0 e0 h
   ·rw[h1]at h;obtain⟨s0,e0⟩:=qoF h1;simp only[jAa]at h;cases hn:numAt l.tail with
    |none=>
     rw[hn]at h;cases h;exact s0
    |some v=>
     rw[hn]at h;cases h;have hne:∃t r,l.tail=t::r:=by
      cases hl:l.tail with
      |nil=>rw[hl]at hn;cases hn
      |cons t r=>exact⟨t,r,rfl⟩
     obtain⟨t,r,hl⟩:=hne;rw[hl]at s0 e0 ⊢;refine qjC ((jCr t r).trans s0) ?_;simp only[jA0,jB3,Ex.nodes,Ex.nodesL,wtM]at e0 ⊢;omega
theorem Ev.good{m:Md}{l:List Tok}{x:Rs}(h:Ev m l x):GoodR l (wtM m) x:=h.elim fun n hn=>qKf n _ _ _ hn
end Go.Tk
namespace Go.Proofs.H16
open Go Go.Eng Go.Tk
set_option maxRecDepth 20000
theorem qmu{s:Bs}{n:Int}(h:qjA s=some n):Lib.atoiAll s= .ok n/\0<=n/\Lib.itoa n=s:=by
 unfold qjA at h;cases hi:qgo s
 ·rw[hi]at h;cases h
 ·have hg:=qjt hi;rw[hi,hg]at h;have ha:=(qa6.1 hi).1;have hne:=(qa6.1 hi).2.1;by_cases hb:9223372036854775808<=qa1 0 s
  ·rw[jA8 hb]at h;cases h
  ·rw[jAe hb]at h;cases h;refine⟨?_,by omega,?_⟩
   ·rw[qxv ha hne,jAr (by omega)]
   ·rw[qps (by omega),show((qa1 0 s:Nat):Int).toNat=qa1 0 s by omega];exact qvu _ _ (jAj _) hi
abbrev pos(T l:List Tok):Int:=((T.length-l.length:Nat):Int)
section
variable {T:List Tok}
theorem qwF{t:Tok}{l:List Tok}(h:t::l <:+ T):T.length-(t::l).length<T.length:=by
 have:=h.length_le;simp only[jA0]at this ⊢;omega
theorem q7g{t:Tok}{l:List Tok}(h:t::l <:+ T):T[T.length-(t::l).length]'(qwF h)=t:=by
 obtain⟨p,rfl⟩:=h;have e:(p++t::l).length-(t::l).length=p.length:=by simp
 simp only[e];simp
theorem qbL{t:Tok}{l:List Tok}(h:t::l <:+ T)(hT:T.length<=1000000):IntKind.i64.wrap (pos T (t::l)+1)=pos T l:=by
 have:=h.length_le;simp only[jA0]at this;unfold pos;rw[wrap64 (by omega) (by omega)];simp only[jA0];omega
theorem qjD:pos T []=(T.length:Int):=by simp[pos]
theorem qKc{t:Tok}{l:List Tok}(h:t::l <:+ T)(hT:T.length<=1000000):IntKind.i64.wrap (pos T l-1)=pos T (t::l):=by
 have:=h.length_le;simp only[jA0]at this;unfold pos;rw[wrap64 (by omega) (by omega)];simp only[jA0];omega
theorem qHH{t:Tok}{l:List Tok}(h:t::l <:+ T):decide (pos T (t::l)>=(T.length:Int))=false:=jAe (by have:=qwF h;unfold pos;omega)
theorem qUI{t:Tok}{l:List Tok}(h:t::l <:+ T):decide (pos T (t::l)<(T.length:Int))=true:=jA8 (by have:=qwF h;unfold pos;omega)
theorem qyI{t:Tok}{l:List Tok}(h:t::l <:+ T):qaG ksT (ET T) (pos T (t::l))=true:=okT (qwF h)
theorem kindP{t:Tok}{l:List Tok}(h:t::l <:+ T):intOf (cellAt (ET T) (pos T (t::l)) 0)=t.kind:=by
 have:=qt0 (qwF h);rw[q7g h]at this;exact this
theorem quJ{t:Tok}{l:List Tok}(h:t::l <:+ T):strOf (cellAt (ET T) (pos T (t::l)) 2)=t.text:=by
 have:=qt2 (qwF h);rw[q7g h]at this;exact this
theorem qaI{l:List Tok}(h:l <:+ T):l.tail <:+ T:=by
 cases l with
 |nil=>exact h
 |cons t l=>exact(jCr t l).trans h
theorem qbl(s:Bs)(t:Tok)(l:List Tok):isW s (t::l)=(t.text==s&&t.kind==qcu s):=rfl
theorem qkg(t:Tok)(l:List Tok):numAt (t::l)=bif t.kind==2 then qjA t.text else none:=rfl
def ztk(T l:List Tok):Option Int->(Int×List AV×Int)⊕(Int×List AV×Int)
 |some v=>.inl (v,ET T,pos T l.tail)
 |none=>.inr (pos T l,ET T,pos T l)
theorem qEr(s:Bs){l:List Tok}(hl:l <:+ T):qrF s (ET T) (pos T l)=some (isW s l,ET T,pos T l):=by
 rw[qK7,qpJ,jA5];cases l with
 |nil=>
  refine(brT (jA8 ?_)).trans rfl;rw[qjD];omega
 |cons t l=>
  refine(brF (qHH hl)).trans ((brT (qyI hl)).trans ?_);rw[quJ hl,kindP hl];rw[qbl];unfold qcu;cases hs:(t.text==s)
  ·exact(brT (by rfl)).trans rfl
  ·refine(brF (by rfl)).trans ((biS (qfR s)).trans ?_);cases hw:qbT s
   ·exact(brF rfl).trans ((brT (qyI hl)).trans rfl)
   ·exact(brT rfl).trans ((brT (qyI hl)).trans rfl)
theorem qhl(hT:T.length<=1000000)(s:Bs){l:List Tok}(hl:l <:+ T):qcS s (ET T) (pos T l)=some (isW s l,ET T,bif isW s l then pos T l.tail else pos T l):=by
 rw[qSJ,qAd];refine(biS (qEr s hl)).trans ?_;cases hi:isW s l
 ·exact(brT rfl).trans rfl
 ·obtain⟨t,l',rfl⟩:=qbt hi;refine(brF rfl).trans ?_;show some _=_;rw[qbL hl hT];rfl
theorem qnC(l:List Tok):qhm (ET T) (pos T l)=some (pos T l,ET T,pos T l):=by
 rw[qSW,qAr];rfl
theorem qKK(hT:T.length<=1000000)(s:Bs){l:List Tok}(hl:l <:+ T):qdH s (ET T) (pos T l)=some (bif isW s l then .inr (ET T,pos T l.tail)else .inl (pos T l,ET T,pos T l)):=by
 rw[qSX,qAt];refine(biS (qhl hT s hl)).trans ?_;cases isW s l
 ·exact(brT rfl).trans ((biS (qnC l)).trans rfl)
 ·exact(brF rfl).trans rfl
theorem qKb(hT:T.length<=1000000)(hb:∀t∈T,t.text.length<=1000000){l:List Tok}(hl:l <:+ T):qdG (ET T) (pos T l)=some (ztk T l (numAt l)):=by
 rw[qSK,qAe,jA5];have fl:∀{l:List Tok},(DT.bi (qhm (ET T) (pos T l)) (fun y0=>DT.at ((.inr (y0.fst,y0.snd.fst,y0.snd.snd)):qPT)) .no).ev=some (.inr (pos T l,ET T,pos T l)):=fun {l}=>(biS (qnC l)).trans rfl
 cases l with
 |nil=>
  refine(brT (jA8 ?_)).trans fl;rw[qjD];omega
 |cons t l=>
  have hp:pOk t.text=true:=by
   have:=hb t (hl.subset (by simp));simp only[pOk,jA6];omega
  refine(brF (qHH hl)).trans ((brT (qyI hl)).trans ?_);rw[kindP hl];rw[qkg];cases hk:(t.kind==2)
  ·have:(t.kind != 2)=true:=by simpa using hk
   exact(brT this).trans fl
  ·have:(t.kind != 2)=false:=by simpa using hk
   refine(brF this).trans ((brT (qyI hl)).trans ?_);rw[quJ hl,hp,jAa];simp only[jBm];have hn:∀n,qjA t.text=some n->Lib.atoiAll t.text= .ok n/\0<=n/\Lib.itoa n=t.text:=fun n h=>qmu h
   cases ha:Lib.atoiAll t.text with
   |ok v=>
    refine(brT rfl).trans ?_;have hbd:-9223372036854775808<=v/\v<=9223372036854775807:=Lib.atoiAll_bounds ha;by_cases h0:v<0
    ·have hnone:qjA t.text=none:=by
      cases hq:qjA t.text with
      |none=>rfl
      |some n=>
       obtain⟨q1,q2,_⟩:=hn n hq;rw[ha]at q1;cases q1;omega
     rw[hnone];refine(biS (v:=true) ?_).trans ((brT rfl).trans fl);show br (decide (v<0)) (some true) _=_;rw[jA8 h0];rfl
    ·have hr:(decide (-9223372036854775808<=v)&&decide (v<=9223372036854775807))=true:=by rw[jA8 hbd.1,jA8 hbd.2];rfl
     refine(biS (v:=!(Lib.itoa v==t.text)) ?_).trans ?_
     ·show br (decide (v<0)) (some true) (br (decide (-9223372036854775808<=v)&&decide (v<=9223372036854775807)) (some (!(Lib.itoa v==t.text))) none)=_;rw[jAe h0,hr];rfl
     ·by_cases he:Lib.itoa v=t.text
      ·have hsome:qjA t.text=some v:=by rw[<-he];exact qhx (by omega) hbd.2
       rw[hsome];have:(!(Lib.itoa v==t.text))=false:=by simpa using he
       refine(brF this).trans ?_;show some (Sum.inl (v,ET T,IntKind.i64.wrap (pos T (t::l)+1)))=_;rw[qbL hl hT];rfl
      ·have hnone:qjA t.text=none:=by
        cases hq:qjA t.text with
        |none=>rfl
        |some n=>
         obtain⟨q1,q2,q3⟩:=hn n hq;rw[ha]at q1;cases q1;exact absurd q3 he
       rw[hnone];have:(!(Lib.itoa v==t.text))=true:=by simpa using he
       exact(brT this).trans fl
   |range=>
    have hnone:qjA t.text=none:=by
     cases hq:qjA t.text with
     |none=>rfl
     |some n=>have:=(hn n hq).1;rw[ha]at this;cases this
    rw[hnone];exact(brF rfl).trans ((brT rfl).trans fl)
   |_=>
    have hnone:qjA t.text=none:=by
     cases hq:qjA t.text with
     |none=>rfl
     |some n=>have:=(hn n hq).1;rw[ha]at this;cases this
    rw[hnone];exact(brF rfl).trans ((brF rfl).trans ((brT rfl).trans fl))
theorem qu9(hT:T.length<=1000000){l:List Tok}(hl:l <:+ T){vs:List Va}(hv:vs.length<=big):qBs (EV vs,(vs.length:Int),0,ET T,pos T l)=some (qjO (fun v=>isW v.name l) (fun _=>0) 1 vs,EV vs,(vs.length:Int),((vs.findIdx (fun v=>isW v.name l):Nat):Int),ET T,pos T l):=by
 rw[qBt];refine qbd (hd:=fun i=>(EV vs,(vs.length:Int),(i:Int),ET T,pos T l)) _ _ 1 (fun i hn=>?_) ?_
 ·show(qjT (EV vs) (vs.length:Int) (i:Int) (ET T) (pos T l)).ev=_;rw[qjT,qa0 hn];refine(brT rfl).trans ((brT (okV hn)).trans ?_);rw[qv0 hn];refine(biS (qhl hT _ hl)).trans ?_;cases isW vs[i].name l
  ·refine(brF rfl).trans ?_;simp only[qat hn hv,jA9];rfl
  ·exact(brT rfl).trans rfl
 ·show(qjT (EV vs) (vs.length:Int) (vs.length:Int) (ET T) (pos T l)).ev=_;rw[qjT];exact(brF (by simp)).trans rfl
theorem zdp(k:Nat)(l:List Tok):opAt k l=match (lvV k).find? (fun v=>isW v.name l)with|some v=>v.ty|none=>0:=by
 unfold opAt lvV;rw[List.find?_map];have:(fun v:Va=>isW v.name l)∘(fun x:Bs×Int=>(⟨x.1,x.2⟩:Va))=fun x=>isW x.1 l:=rfl
 rw[this];cases(lvS k).find? (fun x=>isW x.1 l)<;>rfl
theorem zjO(k:Nat):(lvV k).length<=4:=by
 match k with
 |0|1|2|3|4=>decide
 |k+5=>exact jBa _
theorem zop{k:Nat}{v:Va}(h:v∈lvV k):v.ty≠0:=by
 match k with
 |0|1|2|3|4=>
  simp only[lvV,lvS,jAs,jCe,jAc,jAp,jBp]at h
  first
   |(rcases h with rfl|rfl|rfl|rfl<;>decide)
   |(rcases h with rfl|rfl<;>decide)
   |(rcases h with rfl;decide)
 |k+5=>cases h
def opP(T:List Tok)(k:Nat)(l:List Tok):List Tok:=bif opAt k l==0 then l else l.tail
theorem qgF(hT:T.length<=1000000){k:Nat}(hk:k<5){l:List Tok}(hl:l <:+ T):qoT (k:Int) (ET T) (pos T l)=some (opAt k l,ET T,pos T (opP T k l)):=by
 rw[qSA,qz6];refine(biS qdN).trans ((brT (zsS (l:=lvs) (n:=k) hk)).trans ?_);rw[qLv (l:=lvs) hk,jA5];have hlk:lvs[k]=lvV k:=by
  match k,hk with
  |0,_|1,_|2,_|3,_|4,_=>rfl
 rw[hlk];have hv:(lvV k).length<=big:=by have:=zjO k;simp only[big];omega
 have hL:=qu9 hT hl hv;have hfo:=zdp k l;unfold qjO at hL;cases hf:(lvV k).find? (fun v=>isW v.name l)with
 |none=>
  rw[hf]at hL hfo;rw[hL];refine(biN rfl).trans ((biS rfl).trans ?_);have h0:opAt k l=0:=hfo;unfold opP;rw[h0];rfl
 |some v=>
  rw[hf]at hL hfo;rw[hL];refine(biS rfl).trans ?_;have hp:isW v.name l=true:=jC4 (p:=fun v:Va=>isW v.name l) hf;have hm:=jB4 hf;have h0:opAt k l=v.ty:=hfo;have hlt:(lvV k).findIdx (fun v=>isW v.name l)<(lvV k).length:=List.findIdx_lt_length.2 ⟨v,hm,hp⟩;have hg:(lvV k)[(lvV k).findIdx (fun v=>isW v.name l)]=v:=by
   have:=jCm (p:=fun v:Va=>isW v.name l) (xs:=lvV k);rw[hf,jAh hlt]at this;exact(jC2 this).symm
  show some (intOf (cellAt (EV (lvV k)) _ 1),(gv (qcS (strOf (cellAt (EV (lvV k)) _ 0)) (ET T) (pos T l))).snd.fst,(gv (qcS (strOf (cellAt (EV (lvV k)) _ 0)) (ET T) (pos T l))).snd.snd)=_;rw[qv1 hlt,qv0 hlt,hg,qhl hT _ hl,hp,h0];have hne:(v.ty==0)=false:=by simpa using zop hm
  unfold opP;rw[h0,hne];rfl
def rsP(T:List Tok):Rs->(Int×Int×Bs×List AV×List AV×Int)⊕(Int×List AV×Int)
 | .ok e r=>.inl (e.op,e.num,e.txt,EX e.args,ET T,pos T r)
 | .bad r=>.inr (pos T r,ET T,pos T r)
def rsQ(T:List Tok):Rs->(Int×List AV×Int)⊕(Int×Int×Bs×List AV×List AV×Int)
 | .ok e r=>.inr (e.op,e.num,e.txt,EX e.args,ET T,pos T r)
 | .bad r=>.inl (pos T r,ET T,pos T r)
theorem qbs{o:Option Rs}{f:Ex->List Tok->Option Rs}{x:Rs}(h:qcY o f=some x):(∃r,o=some (.bad r)/\x= .bad r)\/ ∃e r,o=some (.ok e r)/\f e r=some x:=by
 unfold qcY at h;cases o with
 |none=>cases h
 |some y=>
  cases y with
  |bad r=>cases h;exact .inl ⟨r,rfl,rfl⟩
  |ok e r=>exact .inr ⟨e,r,rfl,h⟩
theorem qcg{s:Bs}{r:List Tok}{f:List Tok->Option Rs}{x:Rs}(h:qbS s r f=some x):(isW s r=false/\x= .bad r)\/(isW s r=true/\f r.tail=some x):=by
 unfold qbS at h;cases hi:isW s r
 ·rw[hi]at h;cases h;exact .inl ⟨rfl,rfl⟩
 ·rw[hi]at h;exact .inr ⟨rfl,h⟩
theorem qgj{n:Nat}{m:Md}{l r:List Tok}{e:Ex}(h:prs n m l=some (.ok e r))(hl:l <:+ T):r <:+ T:=(qKf _ _ _ _ h).1.trans hl
theorem qHr(o:Int)(l:List Ex):(exN o l).op=o/\(exN o l).num=0/\(exN o l).txt= []/\(exN o l).args=l:=⟨rfl,rfl,rfl,rfl⟩
theorem EX1(a:Ex):EX [a]= [.agg [.int .i64 a.op,.int .i64 a.num,.str a.txt,.view 4 (EX a.args)]]:=by rw[<-qiZ];rfl
theorem EX2(a b:Ex):EX [a,b]= [.agg [.int .i64 a.op,.int .i64 a.num,.str a.txt,.view 4 (EX a.args)],.agg [.int .i64 b.op,.int .i64 b.num,.str b.txt,.view 4 (EX b.args)]]:=by rw[<-qiZ,<-qiZ];rfl
theorem EX3(a b c:Ex):EX [a,b,c]= [.agg [.int .i64 a.op,.int .i64 a.num,.str a.txt,.view 4 (EX a.args)],.agg [.int .i64 b.op,.int .i64 b.num,.str b.txt,.view 4 (EX b.args)],.agg [.int .i64 c.op,.int .i64 c.num,.str c.txt,.view 4 (EX c.args)]]:=by rw[<-qiZ,<-qiZ,<-qiZ];rfl
theorem rs1(o:Int)(a:Ex)(r:List Tok):rsP T (.ok (exN o [a]) r)= .inl (o,0,[],[.agg [.int .i64 a.op,.int .i64 a.num,.str a.txt,.view 4 (EX a.args)]],ET T,pos T r):=by rw[<-EX1];rfl
theorem rs2(o:Int)(a b:Ex)(r:List Tok):rsP T (.ok (exN o [a,b]) r)= .inl (o,0,[],[.agg [.int .i64 a.op,.int .i64 a.num,.str a.txt,.view 4 (EX a.args)],.agg [.int .i64 b.op,.int .i64 b.num,.str b.txt,.view 4 (EX b.args)]],ET T,pos T r):=by rw[<-EX2];rfl
theorem rq2(o:Int)(a b:Ex)(r:List Tok):rsQ T (.ok (exN o [a,b]) r)= .inr (o,0,[],[.agg [.int .i64 a.op,.int .i64 a.num,.str a.txt,.view 4 (EX a.args)],.agg [.int .i64 b.op,.int .i64 b.num,.str b.txt,.view 4 (EX b.args)]],ET T,pos T r):=by rw[<-EX2];rfl
theorem rs3(o:Int)(a b c:Ex)(r:List Tok):rsP T (.ok (exN o [a,b,c]) r)= .inl (o,0,[],[.agg [.int .i64 a.op,.int .i64 a.num,.str a.txt,.view 4 (EX a.args)],.agg [.int .i64 b.op,.int .i64 b.num,.str b.txt,.view 4 (EX b.args)],.agg [.int .i64 c.op,.int .i64 c.num,.str c.txt,.view 4 (EX c.args)]],ET T,pos T r):=by rw[<-EX3];rfl
abbrev BT:=qfH
def bst(s:Bool)(k:Nat)(op:Int)(A:List AV)(p y4 y5:Int)(y6:Bs)(e:Ex):BT:=bif s then .inr ((k:Int),op,A,p,y4,y5,y6,e.op,e.num,e.txt,EX e.args)else .inl ((k:Int),op,A,p,y4,y5,y6,e.op,e.num,e.txt,EX e.args)
def znp(T:List Tok)(K k:Nat)(v:BT)(x:Rs):Prop:=∃(s:Bool) (op p y4 y5:Int) (y6:Bs) (e:Ex),
 (∃r,x= .ok e r/\p=pos T r/\qdy (qaj K).1 (qaj K).2.1 (qaj K).2.2.1 (qaj K).2.2.2.1 (qaj K).2.2.2.2 v=some (bif s then 5 else 2,bst s k op (ET T) p y4 y5 y6 e)) \/
 (∃b r,x= .ok (exN op [e,b]) r/\(qaj K).2.1 ((k+1:Nat):Int) (ET T) p=some (rsP T (.ok b r))/\qdy (qaj K).1 (qaj K).2.1 (qaj K).2.2.1 (qaj K).2.2.2.1 (qaj K).2.2.2.2 v=some (bif s then 3 else 0,bst s k op (ET T) p y4 y5 y6 e)) \/
 (∃r,x= .bad r/\(qaj K).2.1 ((k+1:Nat):Int) (ET T) p=some (rsP T (.bad r))/\qdy (qaj K).1 (qaj K).2.1 (qaj K).2.2.1 (qaj K).2.2.2.1 (qaj K).2.2.2.2 v=some (bif s then 4 else 1,bst s k op (ET T) p y4 y5 y6 e))
theorem wr1{k:Nat}(h:k<5):IntKind.i64.wrap ((k:Int)+1)=((k+1:Nat):Int):=by rw[wrap64 (by omega) (by omega)];rfl
def AtM(T:List Tok)(l:List Tok)(x:Rs)(K:Nat):Md->Prop
 | .ex=>(qaj K).1 (ET T) (pos T l)=some (rsP T x)
 | .bin k=>k<=5->(qaj K).2.1 (k:Int) (ET T) (pos T l)=some (rsP T x)
 | .cmp=>isW [110,111,116] l=false->(qaj (K+1)).2.1 2 (ET T) (pos T l)=some (rsP T x)
 | .lp k e=>k<5-> ∀s y4 y5 y6,znp T K k (bst s k (opAt k l) (ET T) (pos T (opP T k l)) y4 y5 y6 e) x
 | .neg=>(qaj K).2.2.1 (ET T) (pos T l)=some (rsP T x)
 | .prim=>(qaj K).2.2.2.1 (ET T) (pos T l)=some (rsP T x)
theorem zoo(hT:T.length<=1000000){n K:Nat}(ih:∀m l x,prs n m l=some x->l <:+ T->AtM T l x K m){k:Nat}{e:Ex}{l:List Tok}{x:Rs}(h:prs (n+1) (.lp k e) l=some x)(hl:l <:+ T):AtM T l x K (.lp k e):=by
 intro hk s y4 y5 y6;rw[qwI]at h;cases h0:(opAt k l==0)
 ·rw[h0]at h;simp only[jA9]at h;have hne:(opAt k l != 0)=true:=by rw[bne,h0];rfl
  have hp:opP T k l=l.tail:=by unfold opP;rw[h0];rfl
  rw[hp];rcases qbs h with⟨r,hb,rfl⟩|⟨b,r,hb,h⟩
  ·have hc:=ih _ _ _ hb (qaI hl) (by omega);refine⟨s,opAt k l,pos T l.tail,y4,y5,y6,e,.inr (.inr ⟨r,rfl,hc,?_⟩)⟩;rw[qhu];rw[<-wr1 hk]at hc;refine qaf ?_;cases s
   ·refine(brT hne).trans ?_;exact(quZ hc).trans ((biR hc).trans rfl)
   ·refine(brT hne).trans ?_;exact(quZ hc).trans ((biR hc).trans rfl)
  ·have hc:=ih _ _ _ hb (qaI hl) (by omega);have hc':=hc;rw[<-wr1 hk]at hc';have hr:r <:+ T:=qgj hb (qaI hl);cases h2:(k==2)
   ·rw[h2]at h;simp only[jA9]at h;have h2':((k:Int)==2)=false:=by
     have:k≠2:=by simpa using h2
     simpa using(by omega:¬(k:Int)=2)
    obtain⟨s',op',p',z4,z5,z6,e',hx⟩:=ih _ _ _ h hr hk true y4 y5 y6;have hstep:qdy (qaj K).1 (qaj K).2.1 (qaj K).2.2.1 (qaj K).2.2.2.1 (qaj K).2.2.2.2 (bst s k (opAt k l) (ET T) (pos T l.tail) y4 y5 y6 e)=qdy (qaj K).1 (qaj K).2.1 (qaj K).2.2.1 (qaj K).2.2.2.1 (qaj K).2.2.2.2 (bst true k (opAt k r) (ET T) (pos T (opP T k r)) y4 y5 y6 (exN (opAt k l) [e,b])):=by
     rw[qhu,qhu];refine qaq ?_;cases s
     ·refine(brT hne).trans ((biL hc').trans ((brF h2').trans ((biS (qgF hT hk hr)).trans ?_)));unfold bst;simp only[jAa,qHr,EX2];rfl
     ·refine(brT hne).trans ((biL hc').trans ((brF h2').trans ((biS (qgF hT hk hr)).trans ?_)));unfold bst;simp only[jAa,qHr,EX2];rfl
    refine⟨s',op',p',z4,z5,z6,e',?_⟩;rw[hstep];exact hx
   ·rw[h2]at h;cases h;have h2':((k:Int)==2)=true:=by
     have:k=2:=by simpa using h2
     subst this;rfl
    refine⟨s,opAt k l,pos T l.tail,y4,y5,y6,e,.inr (.inl ⟨b,r,rfl,hc,?_⟩)⟩;rw[qhu];refine qaf ?_;cases s
    ·exact(brT hne).trans ((biL hc').trans ((brT h2').trans rfl))
    ·exact(brT hne).trans ((biL hc').trans ((brT h2').trans rfl))
 ·rw[h0]at h;cases h;have hne:(opAt k l != 0)=false:=by rw[bne,h0];rfl
  have hp:opP T k l=l:=by unfold opP;rw[h0];rfl
  refine⟨s,opAt k l,pos T (opP T k l),y4,y5,y6,e,.inl ⟨l,rfl,by rw[hp],?_⟩⟩;rw[qhu];refine qaf ?_;cases s
  ·exact(brF hne).trans rfl
  ·exact(brF hne).trans rfl
theorem ch0{α:Type}{o:Option (Nat×BT)}{w:BT}{f0 f1 f2 f3 f4 f5:BT->DT α}(h:o=some (0,w)):(DT.bi (pj 0 o) f0 (.bi (pj 1 o) f1 (.bi (pj 2 o) f2 (.bi (pj 3 o) f3 (.bi (pj 4 o) f4 (.bi (pj 5 o) f5 .no)))))).ev=(f0 w).ev:=by subst h;rfl
theorem ch1{α:Type}{o:Option (Nat×BT)}{w:BT}{f0 f1 f2 f3 f4 f5:BT->DT α}(h:o=some (1,w)):(DT.bi (pj 0 o) f0 (.bi (pj 1 o) f1 (.bi (pj 2 o) f2 (.bi (pj 3 o) f3 (.bi (pj 4 o) f4 (.bi (pj 5 o) f5 .no)))))).ev=(f1 w).ev:=by subst h;rfl
theorem ch2{α:Type}{o:Option (Nat×BT)}{w:BT}{f0 f1 f2 f3 f4 f5:BT->DT α}(h:o=some (2,w)):(DT.bi (pj 0 o) f0 (.bi (pj 1 o) f1 (.bi (pj 2 o) f2 (.bi (pj 3 o) f3 (.bi (pj 4 o) f4 (.bi (pj 5 o) f5 .no)))))).ev=(f2 w).ev:=by subst h;rfl
theorem ch3{α:Type}{o:Option (Nat×BT)}{w:BT}{f0 f1 f2 f3 f4 f5:BT->DT α}(h:o=some (3,w)):(DT.bi (pj 0 o) f0 (.bi (pj 1 o) f1 (.bi (pj 2 o) f2 (.bi (pj 3 o) f3 (.bi (pj 4 o) f4 (.bi (pj 5 o) f5 .no)))))).ev=(f3 w).ev:=by subst h;rfl
theorem ch4{α:Type}{o:Option (Nat×BT)}{w:BT}{f0 f1 f2 f3 f4 f5:BT->DT α}(h:o=some (4,w)):(DT.bi (pj 0 o) f0 (.bi (pj 1 o) f1 (.bi (pj 2 o) f2 (.bi (pj 3 o) f3 (.bi (pj 4 o) f4 (.bi (pj 5 o) f5 .no)))))).ev=(f4 w).ev:=by subst h;rfl
theorem ch5{α:Type}{o:Option (Nat×BT)}{w:BT}{f0 f1 f2 f3 f4 f5:BT->DT α}(h:o=some (5,w)):(DT.bi (pj 0 o) f0 (.bi (pj 1 o) f1 (.bi (pj 2 o) f2 (.bi (pj 3 o) f3 (.bi (pj 4 o) f4 (.bi (pj 5 o) f5 .no)))))).ev=(f5 w).ev:=by subst h;rfl
theorem zm4{o:Option ((Int×Int×Bs×List AV×List AV×Int)⊕(Int×List AV×Int))}{x:Rs}(h:o=some (rsP T x)):(DT.bi (pl o) (fun y1=>DT.at ((.inl (y1.fst,y1.snd.fst,y1.snd.snd.fst,y1.snd.snd.snd.fst,y1.snd.snd.snd.snd.fst,y1.snd.snd.snd.snd.snd)):(Int×Int×Bs×List AV×List AV×Int)⊕(Int×List AV×Int))) (DT.bi (pr o) (fun y1=>DT.at (.inr (y1.fst,y1.snd.fst,y1.snd.snd))) DT.no)).ev=some (rsP T x):=by
 subst h;cases x<;>rfl
theorem qpi(hT:T.length<=1000000){s:Bs}{l:List Tok}(hl:l <:+ T)(h:isW s l=true):qdH s (ET T) (pos T l)=some (.inr (ET T,pos T l.tail)):=by rw[qKK hT s hl,h];rfl
theorem qNL(hT:T.length<=1000000){s:Bs}{l:List Tok}(hl:l <:+ T)(h:isW s l=false):qdH s (ET T) (pos T l)=some (.inl (pos T l,ET T,pos T l)):=by rw[qKK hT s hl,h];rfl
theorem paT(hT:T.length<=1000000){s:Bs}{l:List Tok}(hl:l <:+ T)(h:isW s l=true):qcS s (ET T) (pos T l)=some (true,ET T,pos T l.tail):=by rw[qhl hT s hl,h];rfl
theorem zd1(hT:T.length<=1000000){s:Bs}{l:List Tok}(hl:l <:+ T)(h:isW s l=false):qcS s (ET T) (pos T l)=some (false,ET T,pos T l):=by rw[qhl hT s hl,h];rfl
theorem zn8(hT:T.length<=1000000){n K:Nat}(ih:∀m l x,prs n m l=some x->l <:+ T->AtM T l x K m){l:List Tok}{x:Rs}(h:prs (n+1) .ex l=some x)(hl:l <:+ T):AtM T l x (K+1) .ex:=by
 show(qAq (qaj K).1 (qaj K).2.1 (qaj K).2.2.1 (qaj K).2.2.2.1 (qaj K).2.2.2.2 (ET T) (pos T l)).ev=_;rw[qAq];rw[qwH]at h;cases hi:isW [105,102] l
 ·rw[hi]at h;exact(biS (zd1 hT hl hi)).trans ((brT rfl).trans (zm4 (ih (.bin 0) _ _ h hl (by decide))))
 ·rw[hi]at h;simp only[jAa]at h;refine(biS (paT hT hl hi)).trans ((brF rfl).trans ?_);have h1:=qaI hl;rcases qbs h with⟨r,hb,rfl⟩|⟨a,r1,hb,h⟩
  ·have hc:=ih _ _ _ hb h1;exact(quZ hc).trans ((biR hc).trans rfl)
  ·have hc:=ih _ _ _ hb h1;have s1:=qgj hb h1;refine(biL hc).trans ?_;rcases qcg h with⟨hw,rfl⟩|⟨hw,h⟩
   ·exact(biL (qNL hT s1 hw)).trans rfl
   ·refine(quZ (qpi hT s1 hw)).trans ((biR (qpi hT s1 hw)).trans ?_);have s2:=qaI s1;rcases qbs h with⟨r,hb2,rfl⟩|⟨b,r2,hb2,h⟩
    ·have hc2:=ih _ _ _ hb2 s2;exact(quZ hc2).trans ((biR hc2).trans rfl)
    ·have hc2:=ih _ _ _ hb2 s2;have s3:=qgj hb2 s2;refine(biL hc2).trans ?_;rcases qcg h with⟨hw2,rfl⟩|⟨hw2,h⟩
     ·exact(biL (qNL hT s3 hw2)).trans rfl
     ·refine(quZ (qpi hT s3 hw2)).trans ((biR (qpi hT s3 hw2)).trans ?_);have s4:=qaI s3;rcases qbs h with⟨r,hb3,rfl⟩|⟨c,r3,hb3,h⟩
      ·have hc3:=ih _ _ _ hb3 s4;exact(quZ hc3).trans ((biR hc3).trans rfl)
      ·have hc3:=ih _ _ _ hb3 s4;cases h;rw[rs3];exact(biL hc3).trans rfl
theorem zjZ(hT:T.length<=1000000){n K:Nat}(ih:∀m l x,prs n m l=some x->l <:+ T->AtM T l x K m){l:List Tok}{x:Rs}(h:prs (n+1) .neg l=some x)(hl:l <:+ T):AtM T l x (K+1) .neg:=by
 show(qAx (qaj K).1 (qaj K).2.1 (qaj K).2.2.1 (qaj K).2.2.2.1 (qaj K).2.2.2.2 (ET T) (pos T l)).ev=_;rw[qAx];rw[qnY]at h;cases hi:isW [45] l
 ·rw[hi]at h;exact(biS (zd1 hT hl hi)).trans ((brF rfl).trans (zm4 (ih _ _ _ h hl)))
 ·rw[hi]at h;simp only[jAa]at h;refine(biS (paT hT hl hi)).trans ((brT rfl).trans ?_);rcases qbs h with⟨r,hb,rfl⟩|⟨a,r1,hb,h⟩
  ·have hc:=ih _ _ _ hb (qaI hl);exact(quZ hc).trans ((biR hc).trans rfl)
  ·have hc:=ih _ _ _ hb (qaI hl);cases h;rw[rs1];exact(biL hc).trans rfl
theorem zd3(hT:T.length<=1000000){n K:Nat}(ih:∀m l x,prs n m l=some x->l <:+ T->AtM T l x K m)(op:Int){l:List Tok}{x:Rs}(h:qed op (prs n .ex) l=some x)(hl:l <:+ T):(qaj (K+1)).2.2.2.2 op (ET T) (pos T l)=some (rsQ T x):=by
 show(qAs (qaj K).1 (qaj K).2.1 (qaj K).2.2.1 (qaj K).2.2.2.1 (qaj K).2.2.2.2 op (ET T) (pos T l)).ev=_;rw[qAs];unfold qed at h;rcases qcg h with⟨hw,rfl⟩|⟨hw,h⟩
 ·exact(biL (qNL hT hl hw)).trans rfl
 ·refine(quZ (qpi hT hl hw)).trans ((biR (qpi hT hl hw)).trans ?_);have h1:=qaI hl;rcases qbs h with⟨r,hb,rfl⟩|⟨a,r1,hb,h⟩
  ·have hc:=ih _ _ _ hb h1;exact(quZ hc).trans ((biR hc).trans rfl)
  ·have hc:=ih _ _ _ hb h1;have s1:=qgj hb h1;refine(biL hc).trans ?_;rcases qcg h with⟨hw,rfl⟩|⟨hw,h⟩
   ·exact(biL (qNL hT s1 hw)).trans rfl
   ·refine(quZ (qpi hT s1 hw)).trans ((biR (qpi hT s1 hw)).trans ?_);have s2:=qaI s1;rcases qbs h with⟨r,hb2,rfl⟩|⟨b,r2,hb2,h⟩
    ·have hc2:=ih _ _ _ hb2 s2;exact(quZ hc2).trans ((biR hc2).trans rfl)
    ·have hc2:=ih _ _ _ hb2 s2;have s3:=qgj hb2 s2;refine(biL hc2).trans ?_;rcases qcg h with⟨hw2,rfl⟩|⟨hw2,h⟩
     ·exact(biL (qNL hT s3 hw2)).trans rfl
     ·cases h;rw[rq2];exact(quZ (qpi hT s3 hw2)).trans ((biR (qpi hT s3 hw2)).trans rfl)
theorem zke{l:List Tok}{v:Int}(hT:T.length<=1000000)(hb:∀t∈T,t.text.length<=1000000)(hl:l <:+ T)(h:numAt l=some v):qdG (ET T) (pos T l)=some (.inl (v,ET T,pos T l.tail)):=by rw[qKb hT hb hl,h];rfl
theorem q3S{l:List Tok}(hT:T.length<=1000000)(hb:∀t∈T,t.text.length<=1000000)(hl:l <:+ T)(h:numAt l=none):qdG (ET T) (pos T l)=some (.inr (pos T l,ET T,pos T l)):=by rw[qKb hT hb hl,h];rfl
theorem qFV{t:Tok}{l:List Tok}(h:t::l <:+ T):decide (pos T (t::l)<((ET T).length:Int))=true:=by rw[jA5];exact qUI h
theorem zd9(hT:T.length<=1000000)(hb:∀t∈T,t.text.length<=1000000){n K:Nat}(ih:∀m l x,prs n m l=some x->l <:+ T-> ∀K,2*n<=K->AtM T l x K m)(hK:2*n+1<=K){l:List Tok}{x:Rs}(h:prs (n+1) .prim l=some x)(hl:l <:+ T):AtM T l x (K+1) .prim:=by
 obtain⟨J,rfl⟩:∃J,K=J+1:=⟨K-1,by omega⟩;have hpair:∀op l' x',qed op (prs n .ex) l'=some x'->l' <:+ T->(qaj (J+1)).2.2.2.2 op (ET T) (pos T l')=some (rsQ T x'):=fun op l' x' h' hl'=>zd3 hT (fun m l x h hl=>ih m l x h hl J (by omega)) op h' hl'
 generalize J+1=K at hpair hK ⊢;show(qAb (qaj K).1 (qaj K).2.1 (qaj K).2.2.1 (qaj K).2.2.2.1 (qaj K).2.2.2.2 (ET T) (pos T l)).ev=_;rw[qAb];rw[qkk]at h;cases h1:isW [36] l
 ·rw[h1]at h;simp only[jA9]at h;refine(biS (zd1 hT hl h1)).trans ((brF rfl).trans ?_);cases h2:isW [109,105,110] l
  ·rw[h2]at h;simp only[jA9]at h;refine(biS (zd1 hT hl h2)).trans ((brF rfl).trans ?_);cases h3:isW [109,97,120] l
   ·rw[h3]at h;simp only[jA9]at h;refine(biS (zd1 hT hl h3)).trans ((brF rfl).trans ?_);cases h4:isW [40] l
    ·rw[h4]at h;cases h;refine(biS (zd1 hT hl h4)).trans ((brF rfl).trans ?_);have fin:∀{x:Rs},(match numAt l with|some n=>Rs.ok (.mk 1 n [] []) l.tail|none=>.bad l)=x->(DT.bi (pl (qdG (ET T) (pos T l))) (fun y4=>DT.at ((.inl (1,y4.fst,[],[],y4.snd.fst,y4.snd.snd)):qG1)) (.bi (pr (qdG (ET T) (pos T l))) (fun y4=>.at (.inr (y4.fst,y4.snd.fst,y4.snd.snd))) .no)).ev=some (rsP T x):=by
      intro x hx;subst hx;cases hn:numAt l with
      |none=>exact(quZ (q3S hT hb hl hn)).trans ((biR (q3S hT hb hl hn)).trans rfl)
      |some v=>exact(biL (zke hT hb hl hn)).trans rfl
     cases l with
     |nil=>
      have:decide (pos T []<((ET T).length:Int))=false:=jAe (by rw[qjD,jA5];omega);exact(brF this).trans ((brF this).trans (fin rfl))
     |cons t r=>
      refine(brT (qFV hl)).trans ((brT (qyI hl)).trans ?_);unfold qgr;simp only[kindP hl,quJ hl];cases k1:(t.kind==1)
      ·refine(brF rfl).trans ((brT (qFV hl)).trans ((brT (qyI hl)).trans ?_));cases k3:(t.kind==3)
       ·exact(brF rfl).trans (fin rfl)
       ·refine(brT rfl).trans ((brT (qyI hl)).trans ?_);have hbt:=hb t (hl.subset (by simp));refine(biS (qlx (by simp only[big];omega))).trans ?_;cases hr:((qbh t.text).2==0)
        ·refine(brT (by rw[bne,hr];rfl)).trans ((biS (qnC _)).trans rfl)
        ·refine(brF (by rw[bne,hr];rfl)).trans ?_;show some (Sum.inl (3,(qbh t.text).1,[],[],ET T,IntKind.i64.wrap (pos T (t::r)+1)))=_;rw[qbL hl hT];rfl
      ·refine(brT rfl).trans ?_;have e:IntKind.i64.wrap (IntKind.i64.wrap (pos T (t::r)+1)-1)=pos T (t::r):=by rw[qbL hl hT,qKc hl hT]
       refine(brT (by rw[e];exact qyI hl)).trans ?_;show some (Sum.inl (4,0,strOf (cellAt (ET T) (IntKind.i64.wrap (IntKind.i64.wrap (pos T (t::r)+1)-1)) 2),[],ET T,IntKind.i64.wrap (pos T (t::r)+1)))=_;rw[e,quJ hl,qbL hl hT];rfl
    ·rw[h4]at h;simp only[jAa]at h;refine(biS (paT hT hl h4)).trans ((brT rfl).trans ?_);have s0:=qaI hl;rcases qbs h with⟨r,hb2,rfl⟩|⟨a,r,hb2,h⟩
     ·have hc:=ih _ _ _ hb2 s0 K (by omega);exact(quZ hc).trans ((biR hc).trans rfl)
     ·have hc:=ih _ _ _ hb2 s0 K (by omega);have s1:=qgj hb2 s0;refine(biL hc).trans ?_;rcases qcg h with⟨hw,rfl⟩|⟨hw,h⟩
      ·exact(biL (qNL hT s1 hw)).trans rfl
      ·cases h;exact(quZ (qpi hT s1 hw)).trans ((biR (qpi hT s1 hw)).trans rfl)
   ·rw[h3]at h;simp only[jAa]at h;refine(biS (paT hT hl h3)).trans ((brT rfl).trans ?_);have hc:=hpair 18 _ _ h (qaI hl);cases x with
    |ok e r=>exact(quZ hc).trans ((biR hc).trans rfl)
    |bad r=>exact(biL hc).trans rfl
  ·rw[h2]at h;simp only[jAa]at h;refine(biS (paT hT hl h2)).trans ((brT rfl).trans ?_);have hc:=hpair 17 _ _ h (qaI hl);cases x with
   |ok e r=>exact(quZ hc).trans ((biR hc).trans rfl)
   |bad r=>exact(biL hc).trans rfl
 ·rw[h1]at h;simp only[jAa]at h;refine(biS (paT hT hl h1)).trans ((brT rfl).trans ?_);have s0:=qaI hl;cases hn:numAt l.tail with
  |none=>
   rw[hn]at h;cases h;exact(quZ (q3S hT hb s0 hn)).trans ((biR (q3S hT hb s0 hn)).trans rfl)
  |some v=>
   rw[hn]at h;cases h;exact(biL (zke hT hb s0 hn)).trans rfl
def znd(op:Int)(e:Ex)(o:Option qre):Option qre:=some (Sum.inl (op,0,[],[AV.agg [AV.int .i64 e.op,AV.int .i64 e.num,AV.str e.txt,AV.view 4 (EX e.args)],AV.agg [AV.int .i64 (gv (pl o)).fst,AV.int .i64 (gv (pl o)).snd.fst,AV.str (gv (pl o)).snd.snd.fst,AV.view 4 (gv (pl o)).snd.snd.snd.fst]],(gv (pl o)).snd.snd.snd.snd.fst,(gv (pl o)).snd.snd.snd.snd.snd))
def zmR(o:Option qre):Option qre:=some (Sum.inr ((gv (pr o)).fst,(gv (pr o)).snd.fst,(gv (pr o)).snd.snd))
theorem zhM(hT:T.length<=1000000){n K:Nat}(ih:∀m l x,prs n m l=some x->l <:+ T->AtM T l x K m){k:Nat}(h2:k≠2)(hk:k<5){l:List Tok}{x:Rs}(h:(qcY (prs n (.bin (k+1)) l) fun e r=>prs n (.lp k e) r)=some x)(hl:l <:+ T):(qaj (K+1)).2.1 (k:Int) (ET T) (pos T l)=some (rsP T x):=by
 show(qhd (qaj K).1 (qaj K).2.1 (qaj K).2.2.1 (qaj K).2.2.2.1 (qaj K).2.2.2.2 (k:Int) (ET T) (pos T l)).ev=_;rw[qhd];refine(biS qdN).trans ((brF (by rw[jA5];simpa[lvs]using(by omega:¬(k:Int)=5))).trans ((brF (by simpa using(by omega:¬(k:Int)=2))).trans ?_));rcases qbs h with⟨r,hb,rfl⟩|⟨a,r,hb,h⟩
 ·have hc:=ih _ _ _ hb hl (by omega);rw[<-wr1 hk]at hc;exact(quZ hc).trans ((biR hc).trans rfl)
 ·have hc:=ih _ _ _ hb hl (by omega);rw[<-wr1 hk]at hc;have s1:=qgj hb hl;have hloop:=ih _ _ _ h s1 hk false 0 0 [];refine(biL hc).trans ((biS (qgF hT hk s1)).trans ?_);obtain⟨s,op,p,y4,y5,y6,e',(⟨r,rfl,rfl,hL⟩|⟨b,r,rfl,hG,hL⟩|⟨r,rfl,hG,hL⟩)⟩:=hloop
  ·cases s
   ·exact(ch2 hL).trans rfl
   ·exact(ch5 hL).trans rfl
  ·rw[<-wr1 hk]at hG;rw[rs2];cases s
   ·exact(ch0 hL).trans ((congrArg (znd op e') hG).trans rfl)
   ·exact(ch3 hL).trans ((congrArg (znd op e') hG).trans rfl)
  ·rw[<-wr1 hk]at hG;cases s
   ·exact(ch1 hL).trans ((congrArg zmR hG).trans rfl)
   ·exact(ch4 hL).trans ((congrArg zmR hG).trans rfl)
theorem ziU(hT:T.length<=1000000){n K:Nat}(ih:∀m l x,prs n m l=some x->l <:+ T->AtM T l x K m){l:List Tok}{x:Rs}(h:prs (n+1) .cmp l=some x)(hl:l <:+ T):AtM T l x K .cmp:=by
 intro hnot;rw[qtJ]at h;have hk:2<5:=by decide
 show(qhd (qaj K).1 (qaj K).2.1 (qaj K).2.2.1 (qaj K).2.2.2.1 (qaj K).2.2.2.2 ((2:Nat):Int) (ET T) (pos T l)).ev=_;rw[qhd];refine(biS qdN).trans ((brF rfl).trans ((brT rfl).trans ((biS (zd1 hT hl hnot)).trans ((brF rfl).trans ?_))));rcases qbs h with⟨r,hb,rfl⟩|⟨a,r,hb,h⟩
 ·have hc:=ih _ _ _ hb hl (by omega);exact(quZ hc).trans ((biR hc).trans rfl)
 ·have hc:=ih _ _ _ hb hl (by omega);have s1:=qgj hb hl;have hloop:=ih _ _ _ h s1 hk false 0 0 [];refine(biL hc).trans ((biS (qgF hT hk s1)).trans ?_);obtain⟨s,op,p,y4,y5,y6,e',(⟨r,rfl,rfl,hL⟩|⟨b,r,rfl,hG,hL⟩|⟨r,rfl,hG,hL⟩)⟩:=hloop
  ·cases s
   ·exact(ch2 hL).trans rfl
   ·exact(ch5 hL).trans rfl
  ·rw[<-wr1 hk]at hG;rw[rs2];cases s
   ·exact(ch0 hL).trans ((congrArg (znd op e') hG).trans rfl)
   ·exact(ch3 hL).trans ((congrArg (znd op e') hG).trans rfl)
  ·rw[<-wr1 hk]at hG;cases s
   ·exact(ch1 hL).trans ((congrArg zmR hG).trans rfl)
   ·exact(ch4 hL).trans ((congrArg zmR hG).trans rfl)
theorem zkh(hT:T.length<=1000000)(hb:∀t∈T,t.text.length<=1000000):∀n m l x,prs n m l=some x->l <:+ T-> ∀K,2*n<=K->AtM T l x K m:=by
 intro n
 induction n with
 |zero=>intro m l x h;cases h
 |succ n ih=>
  intro m l x h hl K hK;cases m with
  |lp k e=>exact zoo hT (fun m l x h hl=>ih m l x h hl K (by omega)) h hl
  |cmp=>exact ziU hT (fun m l x h hl=>ih m l x h hl K (by omega)) h hl
  |ex=>
   obtain⟨K,rfl⟩:∃J,K=J+1:=⟨K-1,by omega⟩;exact zn8 hT (fun m l x h hl=>ih m l x h hl K (by omega)) h hl
  |neg=>
   obtain⟨K,rfl⟩:∃J,K=J+1:=⟨K-1,by omega⟩;exact zjZ hT (fun m l x h hl=>ih m l x h hl K (by omega)) h hl
  |prim=>
   obtain⟨K,rfl⟩:∃J,K=J+1:=⟨K-1,by omega⟩;exact zd9 hT hb ih (by omega) h hl
  |bin k=>
   obtain⟨K,rfl⟩:∃J,K=J+1:=⟨K-1,by omega⟩;intro hk5;rw[qnX]at h;cases h5:(k==5)
   ·rw[h5]at h;simp only[jA9]at h;have n5:k≠5:=by simpa using h5
    cases h2:(k==2)
    ·rw[h2]at h;exact zhM hT (fun m l x h hl=>ih m l x h hl K (by omega)) (by simpa using h2) (by omega) h hl
    ·rw[h2]at h;simp only[jAa]at h;have e2:k=2:=by simpa using h2
     subst e2;cases hi:isW [110,111,116] l
     ·rw[hi]at h;exact ih _ _ _ h hl K (by omega) hi
     ·rw[hi]at h;simp only[jAa]at h;show(qhd (qaj K).1 (qaj K).2.1 (qaj K).2.2.1 (qaj K).2.2.2.1 (qaj K).2.2.2.2 ((2:Nat):Int) (ET T) (pos T l)).ev=_;rw[qhd];refine(biS qdN).trans ((brF rfl).trans ((brT rfl).trans ((biS (paT hT hl hi)).trans ((brT rfl).trans ?_))));rcases qbs h with⟨r,hb2,rfl⟩|⟨a,r,hb2,h⟩
      ·have hc:=ih _ _ _ hb2 (qaI hl) K (by omega) (by omega);exact(quZ hc).trans ((biR hc).trans rfl)
      ·have hc:=ih _ _ _ hb2 (qaI hl) K (by omega) (by omega);cases h;rw[rs1];exact(biL hc).trans rfl
   ·rw[h5]at h;simp only[jAa]at h;have e5:k=5:=by simpa using h5
    subst e5;show(qhd (qaj K).1 (qaj K).2.1 (qaj K).2.2.1 (qaj K).2.2.2.1 (qaj K).2.2.2.2 ((5:Nat):Int) (ET T) (pos T l)).ev=_;rw[qhd];exact(biS qdN).trans ((brT rfl).trans (zm4 (ih _ _ _ h hl K (by omega))))
theorem qME(hT:T.length<=1000000)(hb:∀t∈T,t.text.length<=1000000){l:List Tok}{x:Rs}(h:Ev .ex l x)(hl:l <:+ T):qSV (ET T) (pos T l)=some (rsP T x):=by
 obtain⟨n,hn⟩:=h;exact qdz (n:=2*n) fun m hm=>zkh hT hb n .ex l x hn hl m hm
end
def zaK(k f:Int):PaR:=(0,0,[],[],k,f)
noncomputable def exS(l:List Tok):Rs:=(qHq (m:=.ex) rfl l).choose
theorem qoR(l:List Tok):Ev .ex l (exS l):=(qHq (m:=.ex) rfl l).choose_spec
def qpv(T:List Tok)(k:Int):Rs->PaR
 | .ok e r=>bif qaJ e==0 then(e.op,e.num,e.txt,EX e.args,pos T r,0)else zaK k (qaJ e)
 | .bad r=>zaK (pos T r) 2
noncomputable def qKa(T:List Tok)(k:Int):PaR:=if k<0\/(T.length:Int)<k then zaK k 2 else qpv T k (exS (T.drop k.toNat))
theorem qKd{T:List Tok}{k:Int}(h0:0<=k)(h1:k<=T.length):pos T (T.drop k.toNat)=k:=by
 unfold pos;rw[jB0];omega
theorem qDq{T:List Tok}(hT:T.length<=1000000)(hb:∀t∈T,t.text.length<=1000000)(k:Int):qba IP 157 [.view 3 (ET T),.int .i64 k] []=some (paF (qKa T k)):=by
 have pc:=fun {r}=>@qB9 IP 157 209 56 202 (by kernel_rfl) (by kernel_rfl) rfl (ET T) k r
 unfold qKa;by_cases hk:k<0\/(T.length:Int)<k
 ·rw[jAr hk];refine pc ?_;simp only[qJ9,jB2,jA5,jAr hk];rfl
 ·rw[jAm hk];have hp:=qKd (T:=T) (k:=k) (by omega) (by omega);have hl:T.drop k.toNat <:+ T:=List.drop_suffix _ _;have hv:=qME hT hb (qoR (T.drop k.toNat)) hl;have hgood:=(qoR (T.drop k.toNat)).good;rw[hp]at hv;have hc:=q7l (ET T,k) _ hv;refine pc ?_;simp only[qJ9,jB2,jA5,jAm hk];revert hc hgood;generalize exS (T.drop k.toNat)=x;intro hgood hc;cases x with
  |bad r=>
   have hc':qba IP 209 [.ref 0 0 0] [(0,.box [.view 3 (ET T),.int .i64 k] false)]=some (.pan (.iface 202 (.agg [.int .i64 (pos T r)])),[(0,.box [.view 3 (ET T),.int .i64 (pos T r)] false)]):=hc;rw[hc'];rfl
  |ok e r=>
   have hc':qba IP 209 [.ref 0 0 0] [(0,.box [.view 3 (ET T),.int .i64 k] false)]=some (.ret (.agg [.int .i64 e.op,.int .i64 e.num,.str e.txt,.view 4 (EX e.args)]),[(0,.box [.view 3 (ET T),.int .i64 (pos T r)] false)]):=hc;have hn:e.nodes<=big:=by
    have h1:=hgood.2;have h2:=hl.length_le;simp only[wtM]at h1;simp only[big];omega
   have hv2:=qRE (e.op,e.num,e.txt,EX e.args) _ (qlk hn);have hv':qba IP 56 [.agg [.int .i64 e.op,.int .i64 e.num,.str e.txt,.view 4 (EX e.args)]] []=some (.ret (.int .i64 (qaJ e)),[]):=hv2;rw[hc'];simp only[hv',qpv];by_cases h0:qaJ e=0
   ·rw[jAr h0,jB7.2 h0];rfl
   ·rw[jAm h0,jBj.2 h0];rfl
theorem q2o{T:List Tok}(hT:T.length<=1000000)(hb:∀t∈T,t.text.length<=1000000)(k:Int):paB IP 157 (ET T) k=true/\paV IP 157 (ET T) k=qKa T k:=zka (qDq hT hb k)
end Go.Proofs.H16

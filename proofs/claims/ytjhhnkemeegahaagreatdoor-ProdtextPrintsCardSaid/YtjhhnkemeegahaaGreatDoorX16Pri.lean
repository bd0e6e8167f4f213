/- Expressions as tokens: what the program prints. -/
import Derived.Test.YtjhhnkemeegahaaGreatDoorX16Tok
import Derived.Test.YtjhhnkemeegahaaGreatDoorX16Tks
import Derived.Test.YtjhhnkemeegahaaGreatDoorE3
import Derived.Test.YtjhhnkemeegahaaGreatDoorD16_1
import Derived.KernelRfl
import Derived.Test.YtjhhnkemeegahaaGreatDoorD16_7
import Derived.Test.YtjhhnkemeegahaaGreatDoorD16_10
import Derived.Test.YtjhhnkemeegahaaGreatDoorD16_12
import Derived.Test.YtjhhnkemeegahaaGreatDoorTkA
import Derived.Lib.Case
import Derived.Lib.IndexAny
import Derived.Test.YtjhhnkemeegahaaGreatDoorE4
set_option linter.all false
namespace Go.Proofs.H16
open Go Go.Eng Go.Tk
set_option maxRecDepth 20000
theorem qbt(op:Int):qa2 op=some (qaO op:Int):=by
 rw[qPd,qsM];by_cases h1:op=19
 ·subst h1;rfl
 by_cases h2:op=15
 ·subst h2;rfl
 by_cases h3:op=14
 ·subst h3;rfl
 by_cases h4:op=16
 ·subst h4;rfl
 by_cases h5:op=10
 ·subst h5;rfl
 by_cases h6:op=11
 ·subst h6;rfl
 by_cases h7:op=12
 ·subst h7;rfl
 by_cases h8:op=13
 ·subst h8;rfl
 by_cases h9:op=5
 ·subst h9;rfl
 by_cases h10:op=6
 ·subst h10;rfl
 by_cases h11:op=7
 ·subst h11;rfl
 by_cases h12:op=8
 ·subst h12;rfl
 by_cases h13:op=9
 ·subst h13;rfl
 have e:∀k:Int,op≠k->(op==k)=false:=fun k h=>by simpa using h
 simp only[ev_br,ev_at,e _ h1,e _ h2,e _ h3,e _ h4,e _ h5,e _ h6,e _ h7,e _ h8,e _ h9,e _ h10,e _ h11,e _ h12,e _ h13,jA9,qaO,h1,h2,h3,h4,h5,h6,h7,h8,h9,h10,h11,h12,h13,jBg,or_self];rfl
def lvV(k:Nat):List Va:=(lvS k).map fun x=>⟨x.1,x.2⟩
def lvA(l:List Va):AV:=.view 2 (EV l)
abbrev lvs:List (List Va):=[lvV 0,lvV 1,lvV 2,lvV 3,lvV 4]
theorem zvn{l:List (List Va)}{n:Nat}(h:n<l.length):qaD [CS.slice 2] (l.map lvA) (n:Int)=true:=qgS (fun _=>rfl) h
theorem qLv{l:List (List Va)}{n:Nat}(h:n<l.length):qap (cellAt (l.map lvA) (n:Int) 0)=EV l[n]:=by rw[qaE h];rfl
theorem qei:qmu=some (lvs.map lvA):=by
 rw[qOC,qsb];rfl
theorem qh5(k:Int)(s:Bs):qnl k s=some (ET [mkT k s]):=by
 rw[qVW,qCU];rfl
theorem qek(k:Int)(s:Bs){acc:List Tok}(h:acc.length<=1000000):qki k s (ET acc)=some (ET (acc++[mkT k s])):=by
 rw[qVJ,qCG,jA5];refine(brT (qcm (by simp only[lim,Prod.i,Prod.h,Prod.f];omega))).trans ?_;rw[show ET (acc++[mkT k s])=ET acc++ET [mkT k s]from jCi ..];rfl
theorem qel(s:Bs):qkj s=some (ET [wT s]):=by
 rw[qVK,qCH];refine(biS (qdj s)).trans ?_;unfold wT qcr;cases qbO s
 ·exact(biS (qh5 4 s)).trans rfl
 ·exact(biS (qh5 5 s)).trans rfl
theorem qaI(s:Bs){acc:List Tok}(h:acc.length<=1000000):qbj s (ET acc)=some (ET (acc++[wT s])):=by
 rw[qVG,qCD];refine(biS (qdj s)).trans ?_;unfold wT qcr;cases qbO s
 ·exact(biS (qek 4 s h)).trans rfl
 ·exact(biS (qek 5 s h)).trans rfl
theorem qvg(op m n:Int)(A:List AV){vs:List Va}(hl:vs.length<=big):qgP (op,A,m,n,EV vs,(vs.length:Int),0)=some (qjX (fun v=>v.ty==op) (fun _=>0) 1 vs,op,A,m,n,EV vs,(vs.length:Int),((vs.findIdx (fun v=>v.ty==op):Nat):Int)):=by
 rw[qyR];refine qaH (hd:=fun i=>(op,A,m,n,EV vs,(vs.length:Int),(i:Int))) _ _ 1 (fun i hn=>?_) ?_
 ·simp only[qn8,qp0,qaR hn,okV hn,qv1 hn,ev_br,ev_at,jAa,qan hn hl];cases(vs[i].ty==op)<;>rfl
 ·simp[qn8,qp0]
theorem qIt(op:Int){ls:List (List Va)}(hl:ls.length<=big)(hb:∀l∈ls,l.length<=big):qvf (op,ls.map lvA,(ls.length:Int),0)=some (qjX (fun l=>l.any (fun v=>v.ty==op)) (fun _=>0) 1 ls,op,ls.map lvA,(ls.length:Int),((ls.findIdx (fun l=>l.any (fun v=>v.ty==op)):Nat):Int)):=by
 rw[qyQ];refine qaH (hd:=fun i=>(op,ls.map lvA,(ls.length:Int),(i:Int))) _ _ 1 (fun i hn=>?_) ?_
 ·have h1:=qvg op (ls.length:Int) (i:Int) (ls.map lvA) (hb ls[i] (jAi hn));rw[qaP]at h1;simp only[qn7,qpZ,qaR hn,zvn hn,qLv hn,jA5,ev_br,jAa,h1];cases ls[i].any (fun v=>v.ty==op)
  ·refine(biN (by rfl)).trans ((biS (by rfl)).trans ?_);simp only[ev_at,qan hn hl];rfl
  ·exact(biS (by rfl)).trans rfl
 ·simp[qn7,qpZ]
theorem qhS{op:Int}{k i n:Nat}{v:Va}(hk:k<5)(h0:qjX (fun l:List Va=>l.any (fun v=>v.ty==op)) (fun _=>0) 1 lvs=0)(h1:lvs.findIdx (fun l=>l.any (fun v=>v.ty==op))=k)(h2:lvs[k]? = some (lvV k))
  (h3:(lvV k).length=n) (h4:qjX (fun v:Va=>v.ty==op) (fun _=>0) 1 (lvV k)=0) (h5:(lvV k).findIdx (fun v=>v.ty==op)=i) (h6:(lvV k)[i]? = some v):qck op=some v.name:=by
 have hb:∀l∈lvs,l.length<=big:=by
  intro l hl;have:l.length<=4:=by
   simp only[jAc,jAp,jBp]at hl;rcases hl with rfl|rfl|rfl|rfl|rfl<;>decide
  simp only[big];omega
 have hout:=qIt op (ls:=lvs) (by simp[big]) hb;rw[h0,h1]at hout;have hkl:k<lvs.length:=hk;have hin:=qvg op (lvs.length:Int) (k:Int) (lvs.map lvA) (vs:=lvV k) (hb _ (jAl h2));rw[h4,h5]at hin;have hv:qap (cellAt (lvs.map lvA) (k:Int) 0)=EV (lvV k):=by
  rw[qLv hkl];have:lvs[k]=lvV k:=by rw[jAh hkl]at h2;exact jC2 h2
  rw[this]
 rw[qPe,qsN];refine(biS qei).trans ?_;rw[jA5,hout];refine(biS (v:=(op,lvs.map lvA,(lvs.length:Int),(k:Int))) (by rfl)).trans ?_;show some (strOf (cellAt (gv (pj 0 (qgP (op,lvs.map lvA,(lvs.length:Int),(k:Int),qap (cellAt (lvs.map lvA) (k:Int) 0),((qap (cellAt (lvs.map lvA) (k:Int) 0)).length:Int),0)))).snd.snd.snd.snd.fst
  (gv (pj 0 (qgP (op,lvs.map lvA,(lvs.length:Int),(k:Int),qap (cellAt (lvs.map lvA) (k:Int) 0),((qap (cellAt (lvs.map lvA) (k:Int) 0)).length:Int),0)))).snd.snd.snd.snd.snd.snd 0))=_
 rw[hv,jA5,hin];have hil:i<(lvV k).length:=(jAg.1 h6).1;have hx:=qv0 hil;rw[jAh hil]at h6;rw[jC2 h6]at hx;exact congrArg some hx
theorem qur{op:Int}(h1:5<=op)(h2:op<=15)(h9:op≠9):qck op=some (qdY op):=by
 rcases qnC h1 h2 h9 with rfl|rfl|rfl|rfl|rfl|rfl|rfl|rfl|rfl|rfl
 ·exact qhS (k:=3) (i:=0) (n:=2) (v:=⟨qdY 5,5⟩) (by decide) (by rfl) (by rfl) (by rfl) (by rfl) (by rfl) (by rfl) (by rfl)
 ·exact qhS (k:=3) (i:=1) (n:=2) (v:=⟨qdY 6,6⟩) (by decide) (by rfl) (by rfl) (by rfl) (by rfl) (by rfl) (by rfl) (by rfl)
 ·exact qhS (k:=4) (i:=0) (n:=2) (v:=⟨qdY 7,7⟩) (by decide) (by rfl) (by rfl) (by rfl) (by rfl) (by rfl) (by rfl) (by rfl)
 ·exact qhS (k:=4) (i:=1) (n:=2) (v:=⟨qdY 8,8⟩) (by decide) (by rfl) (by rfl) (by rfl) (by rfl) (by rfl) (by rfl) (by rfl)
 ·exact qhS (k:=2) (i:=0) (n:=4) (v:=⟨qdY 10,10⟩) (by decide) (by rfl) (by rfl) (by rfl) (by rfl) (by rfl) (by rfl) (by rfl)
 ·exact qhS (k:=2) (i:=1) (n:=4) (v:=⟨qdY 11,11⟩) (by decide) (by rfl) (by rfl) (by rfl) (by rfl) (by rfl) (by rfl) (by rfl)
 ·exact qhS (k:=2) (i:=2) (n:=4) (v:=⟨qdY 12,12⟩) (by decide) (by rfl) (by rfl) (by rfl) (by rfl) (by rfl) (by rfl) (by rfl)
 ·exact qhS (k:=2) (i:=3) (n:=4) (v:=⟨qdY 13,13⟩) (by decide) (by rfl) (by rfl) (by rfl) (by rfl) (by rfl) (by rfl) (by rfl)
 ·exact qhS (k:=1) (i:=0) (n:=1) (v:=⟨qdY 14,14⟩) (by decide) (by rfl) (by rfl) (by rfl) (by rfl) (by rfl) (by rfl) (by rfl)
 ·exact qhS (k:=0) (i:=0) (n:=1) (v:=⟨qdY 15,15⟩) (by decide) (by rfl) (by rfl) (by rfl) (by rfl) (by rfl) (by rfl) (by rfl)
theorem ql8(e:Ex):1<=e.nodes:=by cases e;simp only[Ex.nodes];omega
theorem qZ6:∀e:Ex,e.allX qaM=true-> ∀n,3*e.dep<=n-> ∀acc:List Tok,acc.length+7*e.nodes<=1000000->(qaN n).2.1 e.op e.num e.txt (EX e.args) (ET acc)=some (ET (acc++wrB e)):=by
 intro e
 induction e using Ex.ind with
 |h o n s l ih=>
  intro hf m hm acc hacc;have hdep:(Ex.mk o n s l).dep=Ex.depL l+1:=by simp[Ex.dep]
  have hnod:(Ex.mk o n s l).nodes=1+Ex.nodesL l:=by simp only[Ex.nodes];try omega
  rw[hnod]at hacc;obtain⟨k,rfl⟩:∃k,m=k+3:=⟨m-3,by omega⟩;rw[Ex.allX_eq,jA1,jAb]at hf;obtain⟨hop,hn0,hn1,htx⟩:=qen hf.1;simp only[Ex.op,Ex.args,Ex.num,Ex.txt]at hop hn0 hn1 htx;have hO:∀x∈l,∀(j r:Nat) (acc:List Tok),k<=j->acc.length+7*x.nodes+4<=1000000->(qaN (j+1)).1 x.op x.num x.txt (EX x.args) (r:Int) (ET acc)=some (ET (acc++par r x)):=by
   intro x hx j r acc hj hb;have h2:=Ex.depL_mem hx;have hE:∀acc:List Tok,acc.length+7*x.nodes<=1000000->(qaN j).2.1 x.op x.num x.txt (EX x.args) (ET acc)=some (ET (acc++wrB x)):=fun acc hb=>ih x hx (hf.2 x hx) j (by omega) acc hb
   show(qqj (qaN j).1 (qaN j).2.1 (qaN j).2.2 x.op x.num x.txt (EX x.args) (r:Int) (ET acc)).ev=_;unfold qqj;refine(biS (qbt x.op)).trans ?_;by_cases hr:r<=qaO x.op
   ·have hd:decide (((qaO x.op:Nat):Int)>=(r:Int))=true:=jA8 (by omega);refine(brT hd).trans ?_;refine(biS (hE acc (by omega))).trans ?_;rw[qfd hr];rfl
   ·have hd:decide (((qaO x.op:Nat):Int)>=(r:Int))=false:=jAe (by omega);refine(brF hd).trans ?_;have hw:=qiG x;refine(biS (qaI [40] (by omega))).trans ?_;refine(biS (hE _ (by simp only[jA2,jA0,jA4];omega))).trans ?_;refine(biS (qaI [41] (by simp only[jA2,jA0,jA4];omega))).trans ?_;rw[qvW (by omega)];simp
  have hA:∀(i:Nat) (hi:i<l.length) (j r:Nat) (acc:List Tok),k<=j->acc.length+7*l[i].nodes+4<=1000000 ->
    (qaN (j+1)).1 (intOf (cellAt (EX l) (i:Int) 0)) (intOf (cellAt (EX l) (i:Int) 1)) (strOf (cellAt (EX l) (i:Int) 2)) (qap (cellAt (EX l) (i:Int) 3)) (r:Int) (ET acc)=some (ET (acc++par r l[i])):=by
   intro i hi j r acc hj hb;rw[qx0 hi,qx1 hi,qx2 hi,qx3 hi];exact hO l[i] (jAi hi) j r acc hj hb
  show(qCC (qaN (k+2)).1 (qaN (k+2)).2.1 (qaN (k+2)).2.2 o n s (EX l) (ET acc)).ev=_;unfold qCC;have h64:(decide (-9223372036854775808<=n)&&decide (n<=9223372036854775807))=true:=by
   have:n<=9223372036854775807:=by
    unfold qe6 at hn1
    (repeat' split at hn1)<;>omega
   rw[jA8 (by omega),jA8 this];rfl
  match l,hop,hA,hacc with
  | [],hop,hA,hacc=>
   have h4:o=1\/o=2\/o=3\/o=4:=by
    simp only[jA4,qaJ]at hop
    (repeat' split at hop)<;>omega
   have hn3:o=3->n<=1000000:=by
    rintro rfl;simpa[qe6]using hn1
   simp only[Ex.nodesL]at hacc;rcases h4 with rfl|rfl|rfl|rfl
   ·refine(brT rfl).trans ((brT h64).trans ((biS (qek 2 _ (by omega))).trans ?_));rw[qcQ rfl];rfl
   ·refine(brF rfl).trans ((brT rfl).trans ((biS (qaI _ (by omega))).trans ((brT h64).trans ((biS (qek 2 _ (by simp;omega))).trans ?_))));rw[qcQ rfl];simp[qxw,Ex.op,Ex.num]
   ·refine(brF rfl).trans ((brF rfl).trans ((brT rfl).trans ((biS (qmo n)).trans ((biS (qek 3 _ (by omega))).trans ?_))));have hp:(qQh n).1=qiJ n.toNat:=by
     have h3:=hn3 rfl;have e:(decide (n<0)||decide (n>1000000))=false:=by rw[jAe (by omega),jAe (by omega)];rfl
     unfold qQh;rw[e];rfl
    rw[qcQ rfl,hp];rfl
   ·refine(brF rfl).trans ((brF rfl).trans ((brF rfl).trans ((brT rfl).trans ((biS (qek 1 _ (by omega))).trans ?_))));rw[qcQ rfl];rfl
  | [a],hop,hA,hacc=>
   have h4:o=9\/o=16:=by
    simp only[jA0,jA4,qaJ]at hop
    (repeat' split at hop)<;>omega
   simp only[Ex.nodesL]at hacc;have w:=qiG a;have ok0:qaD ksX (EX [a]) 0=true:=okX (l:=[a]) (n:=0) (by simp);rcases h4 with rfl|rfl
   ·refine(brF rfl).trans ((brF rfl).trans ((brF rfl).trans ((brF rfl).trans ((brT rfl).trans ((biS (qaI _ (by omega))).trans ((brT ok0).trans ((biS (qbt 9)).trans ((biS (hA 0 (by simp) (k+1) 7 _ (by omega) ?_)).trans ?_))))))))
    ·simp;omega
    ·rw[qjQ rfl];simp[Ex.op];rfl
   ·refine(brF rfl).trans ((brF rfl).trans ((brF rfl).trans ((brF rfl).trans ((brF rfl).trans ((brT rfl).trans ((biS (qaI _ (by omega))).trans ((brT ok0).trans ((biS (qbt 16)).trans ((biS (hA 0 (by simp) (k+1) 3 _ (by omega) ?_)).trans ?_)))))))))
    ·simp;omega
    ·rw[qjQ rfl];simp[Ex.op];rfl
  | [a,b],hop,hA,hacc=>
   obtain⟨g1,g2,g3,g4⟩:=qqY (e:=.mk o n s [a,b]) hop rfl;simp only[Ex.op]at g1 g2 g3 g4;simp only[Ex.nodesL]at hacc;have pa:=qbz 0 a;have na:=ql8 a;have nb:=ql8 b;have pl:=qbz (qdE o) a;have pb:=qbz 0 b;have ok0:qaD ksX (EX [a,b]) 0=true:=okX (l:=[a,b]) (n:=0) (by simp);have ok1:qaD ksX (EX [a,b]) 1=true:=okX (l:=[a,b]) (n:=1) (by simp);have hA0:∀(j r:Nat) (acc:List Tok),k<=j->acc.length+7*a.nodes+4<=1000000->(qaN (j+1)).1 (intOf (cellAt (EX [a,b]) 0 0)) (intOf (cellAt (EX [a,b]) 0 1)) (strOf (cellAt (EX [a,b]) 0 2)) (qap (cellAt (EX [a,b]) 0 3)) (r:Int) (ET acc)=some (ET (acc++par r a)):=
    fun j r acc h1 h2=>hA 0 (by simp) j r acc h1 h2
   have hA1:∀(j r:Nat) (acc:List Tok),k<=j->acc.length+7*b.nodes+4<=1000000->(qaN (j+1)).1 (intOf (cellAt (EX [a,b]) 1 0)) (intOf (cellAt (EX [a,b]) 1 1)) (strOf (cellAt (EX [a,b]) 1 2)) (qap (cellAt (EX [a,b]) 1 3)) (r:Int) (ET acc)=some (ET (acc++par r b)):=
    fun j r acc h1 h2=>hA 1 (by simp) j r acc h1 h2
   have ne:∀k:Int,o≠k->(o==k)=false:=fun k h=>by simpa using h
   by_cases h7:o=17
   ·subst h7;refine(brF rfl).trans ((brF rfl).trans ((brF rfl).trans ((brF rfl).trans ((brF rfl).trans ((brF rfl).trans ((brT rfl).trans ((brT rfl).trans ?_)))))));refine(biS (v:=ET (acc++wrB (.mk 17 n s [a,b]))) ?_).trans rfl;show(qk3 (qaN (k+1)).1 (qaN (k+1)).2.1 (qaN (k+1)).2.2 17 n s (EX [a,b]) (ET acc)).ev=_;unfold qk3;refine(brF rfl).trans ((brF rfl).trans ((biS (qaI _ (by omega))).trans ((biS (qaI _ (by simp only[jA2,jA0,jA4];omega))).trans ((brT ok0).trans ((biS (hA0 k 0 _ (jAj _) (by simp only[jA2,jA0,jA4];omega))).trans ((biS (qaI _ (by simp only[jA2,jA0,jA4];omega))).trans ((brT ok1).trans ((biS (hA1 k 0 _ (jAj _) (by simp only[jA2,jA0,jA4];omega))).trans ((biS (qaI _ (by simp only[jA2,jA0,jA4];omega))).trans ((brF rfl).trans ?_))))))))));rw[qg4 (e:=.mk 17 n s [a,b]) rfl (.inl rfl)];simp[qdf,Ex.op]
   by_cases h8:o=18
   ·subst h8;refine(brF rfl).trans ((brF rfl).trans ((brF rfl).trans ((brF rfl).trans ((brF rfl).trans ((brF rfl).trans ((brF rfl).trans ((brT rfl).trans ((brT rfl).trans ?_))))))));refine(biS (v:=ET (acc++wrB (.mk 18 n s [a,b]))) ?_).trans rfl;show(qk3 (qaN (k+1)).1 (qaN (k+1)).2.1 (qaN (k+1)).2.2 18 n s (EX [a,b]) (ET acc)).ev=_;unfold qk3;refine(brT rfl).trans ((biS (qaI _ (by omega))).trans ((biS (qaI _ (by simp only[jA2,jA0,jA4];omega))).trans ((brT ok0).trans ((biS (hA0 k 0 _ (jAj _) (by simp only[jA2,jA0,jA4];omega))).trans ((biS (qaI _ (by simp only[jA2,jA0,jA4];omega))).trans ((brT ok1).trans ((biS (hA1 k 0 _ (jAj _) (by simp only[jA2,jA0,jA4];omega))).trans ((biS (qaI _ (by simp only[jA2,jA0,jA4];omega))).trans ((brF rfl).trans ?_)))))))));rw[qg4 (e:=.mk 18 n s [a,b]) rfl (.inr rfl)];simp[qdf,Ex.op]
   have hr8:=qBv o;refine(brF (ne 1 (by omega))).trans ((brF (ne 2 (by omega))).trans ((brF (ne 3 (by omega))).trans ((brF (ne 4 (by omega))).trans ((brF (ne 9 g3)).trans ((brF (ne 16 g4)).trans ((brF (ne 17 h7)).trans ((brF (ne 18 h8)).trans ((brF (ne 19 (by omega))).trans ?_))))))));refine(biS (qbt o)).trans ((biS (qbt 10)).trans ?_);have hw:∀m:Nat,m<=8->IntKind.i64.wrap ((m:Int)+1)=((m+1:Nat):Int):=fun m hm=>by rw[wrap64 (by omega) (by omega)];omega
   have tl:∀acc':List Tok,acc'.length<=acc.length+5*a.nodes+2->acc'=acc++par (qdE o) a->(DT.bi (qck o) (fun y3=>DT.bi (qbj y3 (ET acc')) (fun y4=>DT.br (qaD [CS.int IntKind.i64,CS.int IntKind.i64,CS.str,CS.slice 4] (EX [a,b]) 1)
     (.bi (qa2 o) (fun y5=>.bi ((qaN (k+2)).1 (intOf (cellAt (EX [a,b]) 1 0)) (intOf (cellAt (EX [a,b]) 1 1)) (strOf (cellAt (EX [a,b]) 1 2)) (qap (cellAt (EX [a,b]) 1 3)) (IntKind.i64.wrap (y5+1)) y4) (fun y6=>.at (y6)) (.no)) (.no)) (.no)) .no) .no:DT qJB).ev=some (ET (acc++wrB (.mk o n s [a,b]))):=by
    intro acc' hl he;refine(biS (qur g1 (by omega) g3)).trans ((biS (qaI _ (by omega))).trans ((brT ok1).trans ((biS (qbt o)).trans ?_)));rw[hw _ hr8];refine(biS (hA1 (k+1) (qaO o+1) _ (by omega) (by simp only[jA2,jA0,jA4];omega))).trans ?_;rw[qov (e:=.mk o n s [a,b]) rfl h7 h8,he];simp[Ex.op]
   by_cases h4:qaO o=4
   ·have hc:(((qaO o:Nat):Int)==((qaO 10:Nat):Int))=true:=by rw[h4];rfl
    refine(brT hc).trans ((brT ok0).trans ?_);rw[hw _ hr8];have hl:qdE o=qaO o+1:=by unfold qdE;rw[jAr h4,h4]
    refine(biS (hA0 (k+1) (qaO o+1) _ (by omega) (by omega))).trans ?_;rw[<-hl];exact tl _ (by simp only[jA2,jA0,jA4];omega) rfl
   ·have hc:(((qaO o:Nat):Int)==((qaO 10:Nat):Int))=false:=by
     have:qaO 10=4:=rfl;rw[this];simp;omega
    refine(brF hc).trans ((brT ok0).trans ?_);have hl:qdE o=qaO o:=by unfold qdE;rw[jAm h4]
    refine(biS (hA0 (k+1) (qaO o) _ (by omega) (by omega))).trans ?_;rw[<-hl];exact tl _ (by simp only[jA2,jA0,jA4];omega) rfl
  |a::b::c::d,hop,hA,hacc=>
   have h19:o=19/\d= []:=by
    simp only[jA0,qaJ]at hop
    (repeat' split at hop)<;>first|omega|(refine⟨by assumption,jAy.1 (by omega)⟩)
   obtain⟨rfl,rfl⟩:=h19;simp only[Ex.nodesL]at hacc;have pa:=qbz 0 a;have na:=ql8 a;have nb:=ql8 b;have pb:=qbz 0 b;have ok0:qaD ksX (EX [a,b,c]) 0=true:=okX (l:=[a,b,c]) (n:=0) (by simp);have ok1:qaD ksX (EX [a,b,c]) 1=true:=okX (l:=[a,b,c]) (n:=1) (by simp);have ok2:qaD ksX (EX [a,b,c]) 2=true:=okX (l:=[a,b,c]) (n:=2) (by simp);have hA0:∀(j r:Nat) (acc:List Tok),k<=j->acc.length+7*a.nodes+4<=1000000->(qaN (j+1)).1 (intOf (cellAt (EX [a,b,c]) 0 0)) (intOf (cellAt (EX [a,b,c]) 0 1)) (strOf (cellAt (EX [a,b,c]) 0 2)) (qap (cellAt (EX [a,b,c]) 0 3)) (r:Int) (ET acc)=some (ET (acc++par r a)):=
    fun j r acc h1 h2=>hA 0 (by simp) j r acc h1 h2
   have hA1:∀(j r:Nat) (acc:List Tok),k<=j->acc.length+7*b.nodes+4<=1000000->(qaN (j+1)).1 (intOf (cellAt (EX [a,b,c]) 1 0)) (intOf (cellAt (EX [a,b,c]) 1 1)) (strOf (cellAt (EX [a,b,c]) 1 2)) (qap (cellAt (EX [a,b,c]) 1 3)) (r:Int) (ET acc)=some (ET (acc++par r b)):=
    fun j r acc h1 h2=>hA 1 (by simp) j r acc h1 h2
   have hA2:∀(j r:Nat) (acc:List Tok),k<=j->acc.length+7*c.nodes+4<=1000000->(qaN (j+1)).1 (intOf (cellAt (EX [a,b,c]) 2 0)) (intOf (cellAt (EX [a,b,c]) 2 1)) (strOf (cellAt (EX [a,b,c]) 2 2)) (qap (cellAt (EX [a,b,c]) 2 3)) (r:Int) (ET acc)=some (ET (acc++par r c)):=
    fun j r acc h1 h2=>hA 2 (by simp) j r acc h1 h2
   refine(brF rfl).trans ((brF rfl).trans ((brF rfl).trans ((brF rfl).trans ((brF rfl).trans ((brF rfl).trans ((brF rfl).trans ((brF rfl).trans ((brT rfl).trans ?_))))))));refine(biS (v:=ET (acc++wrB (.mk 19 n s [a,b,c]))) ?_).trans rfl;show(qk3 (qaN (k+1)).1 (qaN (k+1)).2.1 (qaN (k+1)).2.2 19 n s (EX [a,b,c]) (ET acc)).ev=_;unfold qk3;refine(brF rfl).trans ((brT rfl).trans ((biS (qaI _ (by omega))).trans ((brT ok0).trans ((biS (hA0 k 0 _ (jAj _) (by simp only[jA2,jA0,jA4];omega))).trans ((biS (qaI _ (by simp only[jA2,jA0,jA4];omega))).trans ((brT ok1).trans ((biS (hA1 k 0 _ (jAj _) (by simp only[jA2,jA0,jA4];omega))).trans ((biS (qaI _ (by simp only[jA2,jA0,jA4];omega))).trans ((brT rfl).trans ((brT ok2).trans ((biS (hA2 k 0 _ (jAj _) (by simp only[jA2,jA0,jA4];omega))).trans ?_)))))))))));rw[qFE (e:=.mk 19 n s [a,b,c]) rfl];simp[qdf]
theorem zgV{x:Ex}(hf:x.allX qaM=true){j r:Nat}(hj:3*x.dep<=j){acc:List Tok}(hb:acc.length+7*x.nodes+4<=1000000):(qaN (j+1)).1 x.op x.num x.txt (EX x.args) (r:Int) (ET acc)=some (ET (acc++par r x)):=by
 have hE:∀acc:List Tok,acc.length+7*x.nodes<=1000000->(qaN j).2.1 x.op x.num x.txt (EX x.args) (ET acc)=some (ET (acc++wrB x)):=fun acc hb=>qZ6 x hf j hj acc hb
 show(qqj (qaN j).1 (qaN j).2.1 (qaN j).2.2 x.op x.num x.txt (EX x.args) (r:Int) (ET acc)).ev=_;unfold qqj;refine(biS (qbt x.op)).trans ?_;by_cases hr:r<=qaO x.op
 ·have hd:decide (((qaO x.op:Nat):Int)>=(r:Int))=true:=jA8 (by omega);refine(brT hd).trans ?_;refine(biS (hE acc (by omega))).trans ?_;rw[qfd hr];rfl
 ·have hd:decide (((qaO x.op:Nat):Int)>=(r:Int))=false:=jAe (by omega);refine(brF hd).trans ?_;have hw:=qiG x;refine(biS (qaI [40] (by omega))).trans ?_;refine(biS (hE _ (by simp only[jA2,jA0,jA4];omega))).trans ?_;refine(biS (qaI [41] (by simp only[jA2,jA0,jA4];omega))).trans ?_;rw[qvW (by omega)];simp
theorem qPG{x:Ex}(hf:x.allX qaM=true)(r:Nat){acc:List Tok}(hb:acc.length+7*x.nodes+4<=1000000):qb8 x.op x.num x.txt (EX x.args) (r:Int) (ET acc)=some (ET (acc++par r x)):=by
 refine qdo (n:=3*x.dep+1) fun m hm=>?_
 obtain⟨j,rfl⟩:∃j,m=j+1:=⟨m-1,by omega⟩;exact zgV hf (by omega) hb
theorem qPJ{x:Ex}(hf:x.allX qaM=true){acc:List Tok}(hb:acc.length+7*x.nodes<=1000000):qKe x.op x.num x.txt (EX x.args) (ET acc)=some (ET (acc++wrB x)):=
 qdo (n:=3*x.dep) fun m hm=>qZ6 x hf m hm acc hb
theorem q6K:∀e:Ex,e.allX qaM=true-> ∀n,2*e.dep<=n->7*e.nodes<=1000000->(qb4 n).1 e.op e.num e.txt (EX e.args)=some (ET (wrB e)):=by
 intro e
 induction e using Ex.ind with
 |h o n s l ih=>
  intro hf m hm hacc;have hdep:(Ex.mk o n s l).dep=Ex.depL l+1:=by simp[Ex.dep]
  have hnod:(Ex.mk o n s l).nodes=1+Ex.nodesL l:=by simp only[Ex.nodes];try omega
  rw[hnod]at hacc;obtain⟨k,rfl⟩:∃k,m=k+2:=⟨m-2,by omega⟩;rw[Ex.allX_eq,jA1,jAb]at hf;obtain⟨hop,hn0,hn1,htx⟩:=qen hf.1;simp only[Ex.op,Ex.args,Ex.num,Ex.txt]at hop hn0 hn1 htx;have hO:∀x∈l,∀(r:Nat),7*x.nodes+4<=1000000->(qb4 (k+1)).2 x.op x.num x.txt (EX x.args) (r:Int)=some (ET (par r x)):=by
   intro x hx r hb;have h2:=Ex.depL_mem hx;have hE:(qb4 k).1 x.op x.num x.txt (EX x.args)=some (ET (wrB x)):=ih x hx (hf.2 x hx) k (by omega) (by omega);show(qCl (qb4 k).1 (qb4 k).2 x.op x.num x.txt (EX x.args) (r:Int)).ev=_;unfold qCl;refine(biS (qbt x.op)).trans ?_;by_cases hr:r<=qaO x.op
   ·have hd:decide (((qaO x.op:Nat):Int)>=(r:Int))=true:=jA8 (by omega);refine(brT hd).trans ?_;refine(biS hE).trans ?_;rw[qfd hr];rfl
   ·have hd:decide (((qaO x.op:Nat):Int)>=(r:Int))=false:=jAe (by omega);refine(brF hd).trans ?_;have hw:=qiG x;refine(biS (qel [40])).trans ?_;refine(biS (qPJ (hf.2 x hx) (by simp only[jA2,jA0,jA4];omega))).trans ?_;refine(biS (qaI [41] (by simp only[jA2,jA0,jA4];omega))).trans ?_;rw[qvW (by omega)];simp
  have hP:∀(i:Nat) (hi:i<l.length) (r:Nat) (acc:List Tok),acc.length+7*l[i].nodes+4<=1000000 ->
    qb8 (intOf (cellAt (EX l) (i:Int) 0)) (intOf (cellAt (EX l) (i:Int) 1)) (strOf (cellAt (EX l) (i:Int) 2)) (qap (cellAt (EX l) (i:Int) 3)) (r:Int) (ET acc)=some (ET (acc++par r l[i])):=by
   intro i hi r acc hb;rw[qx0 hi,qx1 hi,qx2 hi,qx3 hi];exact qPG (hf.2 _ (jAi hi)) r hb
  have hQ:∀(i:Nat) (hi:i<l.length) (r:Nat),7*l[i].nodes+4<=1000000 ->
    (qb4 (k+1)).2 (intOf (cellAt (EX l) (i:Int) 0)) (intOf (cellAt (EX l) (i:Int) 1)) (strOf (cellAt (EX l) (i:Int) 2)) (qap (cellAt (EX l) (i:Int) 3)) (r:Int)=some (ET (par r l[i])):=by
   intro i hi r hb;rw[qx0 hi,qx1 hi,qx2 hi,qx3 hi];exact hO l[i] (jAi hi) r hb
  show(qCF (qb4 (k+1)).1 (qb4 (k+1)).2 o n s (EX l)).ev=_;unfold qCF;have h64:(decide (-9223372036854775808<=n)&&decide (n<=9223372036854775807))=true:=by
   have:n<=9223372036854775807:=by
    unfold qe6 at hn1
    (repeat' split at hn1)<;>omega
   rw[jA8 (by omega),jA8 this];rfl
  match l,hop,hP,hQ,hacc with
  | [],hop,hP,hQ,hacc=>
   have h4:o=1\/o=2\/o=3\/o=4:=by
    simp only[jA4,qaJ]at hop
    (repeat' split at hop)<;>omega
   have hn3:o=3->n<=1000000:=by
    rintro rfl;simpa[qe6]using hn1
   rcases h4 with rfl|rfl|rfl|rfl
   ·refine(brT rfl).trans ((brT h64).trans ((biS (qh5 2 _)).trans ?_));rw[qcQ rfl];rfl
   ·refine(brF rfl).trans ((brT rfl).trans ((biS (qel _)).trans ((brT h64).trans ((biS (qek 2 _ (by simp))).trans ?_))));rw[qcQ rfl];simp[qxw,Ex.op,Ex.num]
   ·refine(brF rfl).trans ((brF rfl).trans ((brT rfl).trans ((biS (qmo n)).trans ((biS (qh5 3 _)).trans ?_))));have hp:(qQh n).1=qiJ n.toNat:=by
     have h3:=hn3 rfl;have e:(decide (n<0)||decide (n>1000000))=false:=by rw[jAe (by omega),jAe (by omega)];rfl
     unfold qQh;rw[e];rfl
    rw[qcQ rfl,hp];rfl
   ·refine(brF rfl).trans ((brF rfl).trans ((brF rfl).trans ((brT rfl).trans ((biS (qh5 1 _)).trans ?_))));rw[qcQ rfl];rfl
  | [a],hop,hP,hQ,hacc=>
   have h4:o=9\/o=16:=by
    simp only[jA0,jA4,qaJ]at hop
    (repeat' split at hop)<;>omega
   simp only[Ex.nodesL]at hacc;have ok0:qaD ksX (EX [a]) 0=true:=okX (l:=[a]) (n:=0) (by simp);rcases h4 with rfl|rfl
   ·refine(brF rfl).trans ((brF rfl).trans ((brF rfl).trans ((brF rfl).trans ((brT rfl).trans ((biS (qel _)).trans ((brT ok0).trans ((biS (qbt 9)).trans ((biS (hP 0 (by simp) 7 _ ?_)).trans ?_))))))))
    ·simp;omega
    ·rw[qjQ rfl];simp[Ex.op];rfl
   ·refine(brF rfl).trans ((brF rfl).trans ((brF rfl).trans ((brF rfl).trans ((brF rfl).trans ((brT rfl).trans ((biS (qel _)).trans ((brT ok0).trans ((biS (qbt 16)).trans ((biS (hP 0 (by simp) 3 _ ?_)).trans ?_)))))))))
    ·simp;omega
    ·rw[qjQ rfl];simp[Ex.op];rfl
  | [a,b],hop,hP,hQ,hacc=>
   obtain⟨g1,g2,g3,g4⟩:=qqY (e:=.mk o n s [a,b]) hop rfl;simp only[Ex.op]at g1 g2 g3 g4;simp only[Ex.nodesL]at hacc;have pa:=qbz 0 a;have na:=ql8 a;have nb:=ql8 b;have pl:=qbz (qdE o) a;have pb:=qbz 0 b;have ok0:qaD ksX (EX [a,b]) 0=true:=okX (l:=[a,b]) (n:=0) (by simp);have ok1:qaD ksX (EX [a,b]) 1=true:=okX (l:=[a,b]) (n:=1) (by simp);have hA0:∀(r:Nat) (acc:List Tok),acc.length+7*a.nodes+4<=1000000->qb8 (intOf (cellAt (EX [a,b]) 0 0)) (intOf (cellAt (EX [a,b]) 0 1)) (strOf (cellAt (EX [a,b]) 0 2)) (qap (cellAt (EX [a,b]) 0 3)) (r:Int) (ET acc)=some (ET (acc++par r a)):=
    fun r acc h2=>hP 0 (by simp) r acc h2
   have hA1:∀(r:Nat) (acc:List Tok),acc.length+7*b.nodes+4<=1000000->qb8 (intOf (cellAt (EX [a,b]) 1 0)) (intOf (cellAt (EX [a,b]) 1 1)) (strOf (cellAt (EX [a,b]) 1 2)) (qap (cellAt (EX [a,b]) 1 3)) (r:Int) (ET acc)=some (ET (acc++par r b)):=
    fun r acc h2=>hP 1 (by simp) r acc h2
   have hQ0:∀(r:Nat),7*a.nodes+4<=1000000->(qb4 (k+1)).2 (intOf (cellAt (EX [a,b]) 0 0)) (intOf (cellAt (EX [a,b]) 0 1)) (strOf (cellAt (EX [a,b]) 0 2)) (qap (cellAt (EX [a,b]) 0 3)) (r:Int)=some (ET (par r a)):=
    fun r h2=>hQ 0 (by simp) r h2
   have ne:∀k:Int,o≠k->(o==k)=false:=fun k h=>by simpa using h
   by_cases h7:o=17
   ·subst h7;refine(brF rfl).trans ((brF rfl).trans ((brF rfl).trans ((brF rfl).trans ((brF rfl).trans ((brF rfl).trans ((brT rfl).trans ((brT rfl).trans ?_)))))));refine(biS (v:=ET (wrB (.mk 17 n s [a,b]))) ?_).trans rfl;rw[quE];unfold qqk;refine(brF rfl).trans ((brF rfl).trans ((biS (qel _)).trans ((biS (qaI _ (by simp))).trans ((brT ok0).trans ((biS (hA0 0 _ (by simp only[jA2,jA0,jA4];omega))).trans ((biS (qaI _ (by simp only[jA2,jA0,jA4];omega))).trans ((brT ok1).trans ((biS (hA1 0 _ (by simp only[jA2,jA0,jA4];omega))).trans ((biS (qaI _ (by simp only[jA2,jA0,jA4];omega))).trans ((brF rfl).trans ?_))))))))));rw[qg4 (e:=.mk 17 n s [a,b]) rfl (.inl rfl)];simp[qdf,Ex.op]
   by_cases h8:o=18
   ·subst h8;refine(brF rfl).trans ((brF rfl).trans ((brF rfl).trans ((brF rfl).trans ((brF rfl).trans ((brF rfl).trans ((brF rfl).trans ((brT rfl).trans ((brT rfl).trans ?_))))))));refine(biS (v:=ET (wrB (.mk 18 n s [a,b]))) ?_).trans rfl;rw[quE];unfold qqk;refine(brT rfl).trans ((biS (qel _)).trans ((biS (qaI _ (by simp))).trans ((brT ok0).trans ((biS (hA0 0 _ (by simp only[jA2,jA0,jA4];omega))).trans ((biS (qaI _ (by simp only[jA2,jA0,jA4];omega))).trans ((brT ok1).trans ((biS (hA1 0 _ (by simp only[jA2,jA0,jA4];omega))).trans ((biS (qaI _ (by simp only[jA2,jA0,jA4];omega))).trans ((brF rfl).trans ?_)))))))));rw[qg4 (e:=.mk 18 n s [a,b]) rfl (.inr rfl)];simp[qdf,Ex.op]
   have hr8:=qBv o;refine(brF (ne 1 (by omega))).trans ((brF (ne 2 (by omega))).trans ((brF (ne 3 (by omega))).trans ((brF (ne 4 (by omega))).trans ((brF (ne 9 g3)).trans ((brF (ne 16 g4)).trans ((brF (ne 17 h7)).trans ((brF (ne 18 h8)).trans ((brF (ne 19 (by omega))).trans ?_))))))));refine(biS (qbt o)).trans ((biS (qbt 10)).trans ?_);have hw:∀m:Nat,m<=8->IntKind.i64.wrap ((m:Int)+1)=((m+1:Nat):Int):=fun m hm=>by rw[wrap64 (by omega) (by omega)];omega
   have tl:∀acc':List Tok,acc'.length<=5*a.nodes+2->acc'=par (qdE o) a->(DT.bi (qck o) (fun y3=>DT.bi (qbj y3 (ET acc')) (fun y4=>DT.br (qaD [CS.int IntKind.i64,CS.int IntKind.i64,CS.str,CS.slice 4] (EX [a,b]) 1)
     (.bi (qa2 o) (fun y5=>.bi (qb8 (intOf (cellAt (EX [a,b]) 1 0)) (intOf (cellAt (EX [a,b]) 1 1)) (strOf (cellAt (EX [a,b]) 1 2)) (qap (cellAt (EX [a,b]) 1 3)) (IntKind.i64.wrap (y5+1)) y4) (fun y6=>.at (y6)) (.no)) (.no)) (.no)) .no) .no:DT qJC).ev=some (ET (wrB (.mk o n s [a,b]))):=by
    intro acc' hl he;refine(biS (qur g1 (by omega) g3)).trans ((biS (qaI _ (by omega))).trans ((brT ok1).trans ((biS (qbt o)).trans ?_)));rw[hw _ hr8];refine(biS (hA1 (qaO o+1) _ (by simp only[jA2,jA0,jA4];omega))).trans ?_;rw[qov (e:=.mk o n s [a,b]) rfl h7 h8,he];simp[Ex.op]
   by_cases h4:qaO o=4
   ·have hc:(((qaO o:Nat):Int)==((qaO 10:Nat):Int))=true:=by rw[h4];rfl
    refine(brT hc).trans ((brT ok0).trans ?_);rw[hw _ hr8];have hl:qdE o=qaO o+1:=by unfold qdE;rw[jAr h4,h4]
    refine(biS (hQ0 (qaO o+1) (by omega))).trans ?_;rw[<-hl];exact tl _ pl rfl
   ·have hc:(((qaO o:Nat):Int)==((qaO 10:Nat):Int))=false:=by
     have:qaO 10=4:=rfl;rw[this];simp;omega
    refine(brF hc).trans ((brT ok0).trans ?_);have hl:qdE o=qaO o:=by unfold qdE;rw[jAm h4]
    refine(biS (hQ0 (qaO o) (by omega))).trans ?_;rw[<-hl];exact tl _ pl rfl
  |a::b::c::d,hop,hP,hQ,hacc=>
   have h19:o=19/\d= []:=by
    simp only[jA0,qaJ]at hop
    (repeat' split at hop)<;>first|omega|(refine⟨by assumption,jAy.1 (by omega)⟩)
   obtain⟨rfl,rfl⟩:=h19;simp only[Ex.nodesL]at hacc;have pa:=qbz 0 a;have na:=ql8 a;have nb:=ql8 b;have pb:=qbz 0 b;have ok0:qaD ksX (EX [a,b,c]) 0=true:=okX (l:=[a,b,c]) (n:=0) (by simp);have ok1:qaD ksX (EX [a,b,c]) 1=true:=okX (l:=[a,b,c]) (n:=1) (by simp);have ok2:qaD ksX (EX [a,b,c]) 2=true:=okX (l:=[a,b,c]) (n:=2) (by simp);have hA0:∀(r:Nat) (acc:List Tok),acc.length+7*a.nodes+4<=1000000->qb8 (intOf (cellAt (EX [a,b,c]) 0 0)) (intOf (cellAt (EX [a,b,c]) 0 1)) (strOf (cellAt (EX [a,b,c]) 0 2)) (qap (cellAt (EX [a,b,c]) 0 3)) (r:Int) (ET acc)=some (ET (acc++par r a)):=
    fun r acc h2=>hP 0 (by simp) r acc h2
   have hA1:∀(r:Nat) (acc:List Tok),acc.length+7*b.nodes+4<=1000000->qb8 (intOf (cellAt (EX [a,b,c]) 1 0)) (intOf (cellAt (EX [a,b,c]) 1 1)) (strOf (cellAt (EX [a,b,c]) 1 2)) (qap (cellAt (EX [a,b,c]) 1 3)) (r:Int) (ET acc)=some (ET (acc++par r b)):=
    fun r acc h2=>hP 1 (by simp) r acc h2
   have hA2:∀(r:Nat) (acc:List Tok),acc.length+7*c.nodes+4<=1000000->qb8 (intOf (cellAt (EX [a,b,c]) 2 0)) (intOf (cellAt (EX [a,b,c]) 2 1)) (strOf (cellAt (EX [a,b,c]) 2 2)) (qap (cellAt (EX [a,b,c]) 2 3)) (r:Int) (ET acc)=some (ET (acc++par r c)):=
    fun r acc h2=>hP 2 (by simp) r acc h2
   refine(brF rfl).trans ((brF rfl).trans ((brF rfl).trans ((brF rfl).trans ((brF rfl).trans ((brF rfl).trans ((brF rfl).trans ((brF rfl).trans ((brT rfl).trans ?_))))))));refine(biS (v:=ET (wrB (.mk 19 n s [a,b,c]))) ?_).trans rfl;rw[quE];unfold qqk;refine(brF rfl).trans ((brT rfl).trans ((biS (qel _)).trans ((brT ok0).trans ((biS (hA0 0 _ (by simp only[jA2,jA0,jA4];omega))).trans ((biS (qaI _ (by simp only[jA2,jA0,jA4];omega))).trans ((brT ok1).trans ((biS (hA1 0 _ (by simp only[jA2,jA0,jA4];omega))).trans ((biS (qaI _ (by simp only[jA2,jA0,jA4];omega))).trans ((brT rfl).trans ((brT ok2).trans ((biS (hA2 0 _ (by simp only[jA2,jA0,jA4];omega))).trans ?_)))))))))));rw[qFE (e:=.mk 19 n s [a,b,c]) rfl];simp[qdf]
theorem qJu{e:Ex}(h:qaL e=0):e.nodes<=64/\e.allX qaM=true/\e.allX qbx=true:=by
 unfold qaL at h;cases h1:(decide (e.nodes>64)||decide (e.dep>8))
 ·rw[h1]at h;rw[jB6]at h1;cases h2:e.allX qaM
  ·rw[h2]at h;cases h
  ·cases h3:e.allX qbx
   ·rw[h2,h3]at h;cases h
   ·exact⟨by have:=of_decide_eq_false h1.1;omega,rfl,rfl⟩
 ·rw[h1]at h;cases h
theorem qHv{e:Ex}(h:e.nodes<=big):qt5 e.op e.num e.txt (EX e.args)=some (bif qaL e != 0 then([],qaL e)else(ET (wrB e),0)):=by
 rw[qOA,qr9];refine(biS (qef h)).trans ?_;cases hv:(qaL e != 0)
 ·have hv':qaL e=0:=by simpa using hv
  obtain⟨h1,h2,_⟩:=qJu hv';refine(brF rfl).trans ((biS (v:=ET (wrB e)) (qdo (n:=2*e.dep) fun m hm=>q6K e h2 m hm (by omega))).trans rfl)
 ·exact(brT rfl).trans rfl
end Go.Proofs.H16
namespace Go.Tk
open Go Go.Eng
set_option linter.unusedSimpArgs false
set_option linter.unusedVariables false
def wtM:Md->Nat
 | .lp _ e=>e.nodes
 |_=>0
def GoodR(l:List Tok)(w:Nat):Rs->Prop
 | .bad r=>r <:+ l
 | .ok e r=>r <:+ l/\e.nodes+r.length<=w+l.length
theorem qdT{l l1:List Tok}{w w1:Nat}{o:Option Rs}{f:Ex->List Tok->Option Rs}{x:Rs}(h:qdh o f=some x)(ho:∀y,o=some y->GoodR l1 w1 y)(hl:l1 <:+ l)
  (hf:∀e r,r <:+ l1->r <:+ l->e.nodes+r.length<=w1+l1.length->f e r=some x->GoodR l w x):GoodR l w x:=by
 unfold qdh at h;cases o with
 |none=>cases h
 |some y=>
  have:=ho y rfl;cases y with
  |bad r=>cases h;exact List.IsSuffix.trans this hl
  |ok e r=>exact hf e r this.1 (this.1.trans hl) this.2 h
theorem qh7{l r:List Tok}{s:Bs}{w:Nat}{f:List Tok->Option Rs}{x:Rs}(h:qb0 s r f=some x)(hr:r <:+ l)
  (hf:∀r',r' <:+ l->r'.length+1=r.length->f r'=some x->GoodR l w x):GoodR l w x:=by
 unfold qb0 at h;cases hi:isW s r
 ·rw[hi]at h;cases h;exact hr
 ·rw[hi]at h;obtain⟨t,r',rfl⟩:=qbw hi;exact hf r' ((jCr t r').trans hr) rfl h
theorem GoodR.up{l l':List Tok}{w w':Nat}{x:Rs}(h:GoodR l w x)(hl:l <:+ l')(hw:w+l.length<=w'+l'.length):GoodR l' w' x:=by
 cases x with
 |bad r=>exact List.IsSuffix.trans h hl
 |ok e r=>exact⟨List.IsSuffix.trans h.1 hl,jAz h.2 hw⟩
theorem zm0(t:Tok)(l:List Tok):l <:+ t::l:=jCr t l
theorem qWL{l:List Tok}:GoodR l 0 (qg8 l):=by
 unfold qg8;cases l with
 |nil=>exact jCa _
 |cons t r=>
  simp only;have hok:∀(o n:Int) (s:Bs),GoodR (t::r) 0 (.ok (.mk o n s []) r):=fun o n s=>⟨zm0 t r,by simp[Ex.nodes,Ex.nodesL];try omega⟩
  cases t.kind==1
  ·cases t.kind==3
   ·cases numAt (t::r)with
    |none=>exact jCa _
    |some n=>exact hok _ _ _
   ·cases(qbm t.text).2==0
    ·exact jCa _
    ·exact hok _ _ _
  ·exact hok _ _ _
theorem qqh{s:Bs}{l:List Tok}(h:isW s l=true):l.tail <:+ l/\l.tail.length+1=l.length:=by
 obtain⟨t,r,rfl⟩:=qbw h;exact⟨jCr t r,rfl⟩
theorem ztf{k:Nat}{l:List Tok}(h:(opAt k l==0)=false):l.tail <:+ l/\l.tail.length+1=l.length:=by
 obtain⟨t,r,rfl⟩:=qvA (k:=k) (l:=l) (by simpa using h);exact⟨jCr t r,rfl⟩
theorem qky{l r:List Tok}{w:Nat}{e:Ex}(h:r <:+ l)(h2:e.nodes+r.length<=w+l.length):GoodR l w (.ok e r):=⟨h,h2⟩
theorem n1(o:Int)(a:Ex):(exN o [a]).nodes=1+a.nodes:=by simp[exN,Ex.nodes,Ex.nodesL];try omega
theorem n2(o:Int)(a b:Ex):(exN o [a,b]).nodes=1+a.nodes+b.nodes:=by simp[exN,Ex.nodes,Ex.nodesL];try omega
theorem n3(o:Int)(a b c:Ex):(exN o [a,b,c]).nodes=1+a.nodes+b.nodes+c.nodes:=by simp[exN,Ex.nodes,Ex.nodesL];try omega
theorem qMY:∀(n:Nat) (m:Md) (l:List Tok) (x:Rs),prs n m l=some x->GoodR l (wtM m) x:=by
 intro n
 induction n with
 |zero=>intro m l x h;cases h
 |succ n ih=>
  intro m l x h;have pairG:∀(op:Int) (r:List Tok),r <:+ l->r.length+1=l.length->qeO op (prs n .ex) r=some x->GoodR l 0 x:=by
   intro op r hr hrl h;unfold qeO at h;refine qh7 h hr fun r1 s1 e1 h=>?_
   refine qdT h (ih _ _) s1 fun a r2 _ s2 q2 h=>?_
   refine qh7 h s2 fun r3 s3 e3 h=>?_
   refine qdT h (ih _ _) s3 fun b r4 _ s4 q4 h=>?_
   refine qh7 h s4 fun r5 s5 e5 h=>?_
   cases h;refine qky s5 ?_;rw[n2];simp only[wtM]at q2 q4;omega
  cases m with
  |ex=>
   rw[qzk]at h;cases hi:isW [105,102] l
   ·rw[hi]at h;exact ih (.bin 0) l x h
   ·rw[hi]at h;obtain⟨s0,e0⟩:=qqh hi;refine qdT h (ih _ _) s0 fun a r1 _ s1 q1 h=>?_
    refine qh7 h s1 fun r2 s2 e2 h=>?_
    refine qdT h (ih _ _) s2 fun b r3 _ s3 q3 h=>?_
    refine qh7 h s3 fun r4 s4 e4 h=>?_
    refine qdT h (ih _ _) s4 fun c r5 _ s5 q5 h=>?_
    cases h;refine qky s5 ?_;rw[n3];simp only[wtM]at q1 q3 q5 ⊢;omega
  |bin k=>
   rw[qpo]at h;cases h5:(k==5)
   ·rw[h5]at h;cases h2:(k==2)
    ·rw[h2]at h;refine qdT h (ih _ _) (jCa _) fun e r _ s1 q1 h=>?_
     refine(ih _ _ _ h).up s1 ?_;simp only[wtM]at q1 ⊢;omega
    ·rw[h2]at h;simp only[jAa,jA9]at h;cases hi:isW [110,111,116] l
     ·rw[hi]at h;exact ih .cmp l x h
     ·rw[hi]at h;obtain⟨s0,e0⟩:=qqh hi;refine qdT h (ih _ _) s0 fun a r1 _ s1 q1 h=>?_
      cases h;refine qky s1 ?_;rw[n1];simp only[wtM]at q1 ⊢;omega
   ·rw[h5]at h;exact ih .neg l x h
  |cmp=>
   rw[qv2]at h;refine qdT h (ih _ _) (jCa _) fun e r _ s1 q1 h=>?_
   refine(ih _ _ _ h).up s1 ?_;simp only[wtM]at q1 ⊢;omega
  |lp k e=>
   rw[qzl]at h;cases h0:(opAt k l==0)
   ·rw[h0]at h;obtain⟨s0,e0⟩:=ztf h0;refine qdT h (ih _ _) s0 fun b r1 _ s1 q1 h=>?_
    cases h2:(k==2)
    ·rw[h2]at h;refine(ih _ _ _ h).up s1 ?_;simp only[wtM]at q1 ⊢;rw[n2];omega
    ·rw[h2]at h;cases h;refine qky s1 ?_;rw[n2];simp only[wtM]at q1 ⊢;omega
   ·rw[h0]at h;cases h;exact qky (jCa _) (jAj _)
  |neg=>
   rw[qpp]at h;cases hi:isW [45] l
   ·rw[hi]at h;exact ih .prim l x h
   ·rw[hi]at h;obtain⟨s0,e0⟩:=qqh hi;refine qdT h (ih _ _) s0 fun a r1 _ s1 q1 h=>?_
    cases h;refine qky s1 ?_;rw[n1];simp only[wtM]at q1 ⊢;omega
  |prim=>
   rw[qlr]at h;cases h1:isW [36] l
   ·rw[h1]at h;simp only[jA9]at h;cases h2:isW [109,105,110] l
    ·rw[h2]at h;simp only[jA9]at h;cases h3:isW [109,97,120] l
     ·rw[h3]at h;simp only[jA9]at h;cases h4:isW [40] l
      ·rw[h4]at h;cases h;exact qWL
      ·rw[h4]at h;obtain⟨s0,e0⟩:=qqh h4;refine qdT h (ih _ _) s0 fun a r1 _ s1 q1 h=>?_
       refine qh7 h s1 fun r2 s2 e2 h=>?_
       cases h;refine qky s2 ?_;simp only[wtM]at q1 ⊢;omega
     ·rw[h3]at h;obtain⟨s0,e0⟩:=qqh h3;exact pairG 18 _ s0 e0 h
    ·rw[h2]at h;obtain⟨s0,e0⟩:=qqh h2;exact pairG 17 _ s0 e0 h
   ·rw[h1]at h;obtain⟨s0,e0⟩:=qqh h1;simp only[jAa]at h;cases hn:numAt l.tail with
    |none=>
     rw[hn]at h;cases h;exact s0
    |some v=>
     rw[hn]at h;cases h;have hne:∃t r,l.tail=t::r:=by
      cases hl:l.tail with
      |nil=>rw[hl]at hn;cases hn
      |cons t r=>exact⟨t,r,rfl⟩
     obtain⟨t,r,hl⟩:=hne;rw[hl]at s0 e0 ⊢;refine qky ((jCr t r).trans s0) ?_;simp only[jA0,jB3,Ex.nodes,Ex.nodesL,wtM]at e0 ⊢;omega
theorem Ev.good{m:Md}{l:List Tok}{x:Rs}(h:Ev m l x):GoodR l (wtM m) x:=h.elim fun n hn=>qMY n _ _ _ hn
end Go.Tk
namespace Go.Proofs.H16
open Go Go.Eng Go.Tk
set_option maxRecDepth 20000
abbrev pos(T l:List Tok):Int:=((T.length-l.length:Nat):Int)
section
variable {T:List Tok}
theorem qzh{t:Tok}{l:List Tok}(h:t::l <:+ T):T.length-(t::l).length<T.length:=by
 have:=h.length_le;simp only[jA0]at this ⊢;omega
theorem q92{t:Tok}{l:List Tok}(h:t::l <:+ T):T[T.length-(t::l).length]'(qzh h)=t:=by
 obtain⟨p,rfl⟩:=h;have e:(p++t::l).length-(t::l).length=p.length:=by simp
 simp only[e];simp
theorem kindP{t:Tok}{l:List Tok}(h:t::l <:+ T):intOf (cellAt (ET T) (pos T (t::l)) 0)=t.kind:=by
 have:=qt0 (qzh h);rw[q92 h]at this;exact this
theorem qbq(s:Bs)(t:Tok)(l:List Tok):isW s (t::l)=(t.text==s&&t.kind==qcr s):=rfl
theorem qln(t:Tok)(l:List Tok):numAt (t::l)=bif t.kind==2 then qkw t.text else none:=rfl
def rsP(T:List Tok):Rs->(Int×Int×Bs×List AV×List AV×Int)⊕(Int×List AV×Int)
 | .ok e r=>.inl (e.op,e.num,e.txt,EX e.args,ET T,pos T r)
 | .bad r=>.inr (pos T r,ET T,pos T r)
theorem zpw{o:Option ((Int×Int×Bs×List AV×List AV×Int)⊕(Int×List AV×Int))}{x:Rs}(h:o=some (rsP T x)):(DT.bi (pl o) (fun y1=>DT.at ((.inl (y1.fst,y1.snd.fst,y1.snd.snd.fst,y1.snd.snd.snd.fst,y1.snd.snd.snd.snd.fst,y1.snd.snd.snd.snd.snd)):(Int×Int×Bs×List AV×List AV×Int)⊕(Int×List AV×Int))) (DT.bi (pr o) (fun y1=>DT.at (.inr (y1.fst,y1.snd.fst,y1.snd.snd))) DT.no)).ev=some (rsP T x):=by
 subst h;cases x<;>rfl
end
def zdI(k f:Int):PaR:=(0,0,[],[],k,f)
noncomputable def exS(l:List Tok):Rs:=(qJ0 (m:=.ex) rfl l).choose
def qq9(T:List Tok)(k:Int):Rs->PaR
 | .ok e r=>bif qaL e==0 then(e.op,e.num,e.txt,EX e.args,pos T r,0)else zdI k (qaL e)
 | .bad r=>zdI (pos T r) 2
noncomputable def qMS(T:List Tok)(k:Int):PaR:=if k<0\/(T.length:Int)<k then zdI k 2 else qq9 T k (exS (T.drop k.toNat))
end Go.Proofs.H16
namespace Go.Tk
open Go Go.Eng
def qpl(y:Int):Bool:=y%4==0&&(!(y%100==0)||y%400==0)
def mlS(y:Int)(m:Nat):Int:=if m=2 then(bif qpl y then 29 else 28)else if m=4\/m=6\/m=9\/m=11 then 30 else 31
def ylS(y:Int):Int:=bif qpl y then 366 else 365
def qbA:Nat->Int
 |0=>0
 |k+1=>qbA k+ylS (2000+k)
def qbB(y:Int):Nat->Int
 |0=>0
 |m+1=>qbB y m+mlS y (m+1)
theorem qqC(y:Int)(m:Nat):28<=mlS y m/\mlS y m<=31:=by
 unfold mlS;cases qpl y<;>simp only[jAa,jA9]<;>(repeat' split)<;>omega
theorem qFG(y:Int):365<=ylS y/\ylS y<=366:=by
 unfold ylS;cases qpl y<;>simp
theorem zf3(y:Int):qbB y 12=ylS y:=by
 simp only[qbB,mlS,ylS];cases qpl y<;>rfl
theorem qhf{a b:Nat}(h:a<=b):qbA a<=qbA b:=by
 induction b with
 |zero=>simp[Nat.le_zero.1 h]
 |succ b ih=>
  rcases jCb b a with h1|h1
  ·rw[show a=b+1 by omega];omega
  ·have:=qFG (2000+b);have:=ih h1;simp only[qbA];omega
theorem qiX(y:Int){a b:Nat}(h:a<=b):qbB y a<=qbB y b:=by
 induction b with
 |zero=>simp[Nat.le_zero.1 h]
 |succ b ih=>
  rcases jCb b a with h1|h1
  ·rw[show a=b+1 by omega];omega
  ·have:=qqC y (b+1);have:=ih h1;simp only[qbB];omega
theorem qGQ:qbA 200=73049:=by decide +kernel
def IsCiv(n:Int)(c:Int×Int×Int):Prop:=∃k m:Nat,k<200/\m<12/\c.1=2000+k/\c.2.1=m+1/\1<=c.2.2/\c.2.2<=mlS c.1 (m+1)/\n=qbA k+qbB c.1 m+c.2.2-1
theorem IsCiv.year{n:Int}{k m:Nat}{y d:Int}(hm:m<12)(hy:y=2000+k)(h1:1<=d)(h2:d<=mlS y (m+1))(hn:n=qbA k+qbB y m+d-1):qbA k<=n/\n<qbA (k+1)/\qbB y m<=n-qbA k/\n-qbA k<qbB y (m+1):=by
 have c0:0<=qbB y m:=qiX y (jBa m);have c1:qbB y (m+1)<=qbB y 12:=qiX y hm;rw[zf3]at c1;have c2:qbB y (m+1)=qbB y m+mlS y (m+1):=rfl;have c3:qbA (k+1)=qbA k+ylS y:=by rw[hy];rfl
 omega
theorem qpz{f:Nat->Int}{n:Int}(h0:f 0<=n):∀{k:Nat},n<f k-> ∃a,a<k/\f a<=n/\n<f (a+1)
 |0,h=>by omega
 |k+1,h=>by
  rcases Int.lt_or_le n (f k)with h1|h1
  ·obtain⟨a,ha,h2⟩:=qpz h0 h1;exact⟨a,by omega,h2⟩
  ·exact⟨k,by omega,h1,h⟩
theorem qxQ{n:Int}(h0:0<=n)(h1:n<=73048):∃c,IsCiv n c:=by
 obtain⟨k,hk,b1,b2⟩:=qpz (f:=qbA) (n:=n) h0 (k:=200) (by rw[qGQ];omega);have e:qbA (k+1)=qbA k+ylS (2000+k):=rfl;obtain⟨m,hm,c1,c2⟩:=qpz (f:=qbB (2000+k)) (n:=n-qbA k) (by show(0:Int)<=_;omega) (k:=12) (by rw[zf3];omega);have e2:qbB (2000+k) (m+1)=qbB (2000+k) m+mlS (2000+k) (m+1):=rfl;exact⟨(2000+k,m+1,n-qbA k-qbB (2000+k) m+1),k,m,hk,hm,rfl,rfl,by simp only;omega,by simp only;omega,by simp only;omega⟩
noncomputable def qc4(n:Int):Int×Int×Int:=if h:0<=n/\n<=73048 then(qxQ h.1 h.2).choose else(0,0,0)
theorem qtG{n:Int}(h0:0<=n)(h1:n<=73048):IsCiv n (qc4 n):=by
 unfold qc4;rw[dif_pos ⟨h0,h1⟩];exact(qxQ h0 h1).choose_spec
def qiY(y m d:Int):Option Int:=if 2000<=y/\y<=2199/\1<=m/\m<=12/\1<=d/\d<=mlS y m.toNat then some (qbA (y-2000).toNat+qbB y (m-1).toNat+d-1)else none
theorem zaJ{y m d n:Int}(h:IsCiv n (y,m,d)):qiY y m d=some n:=by
 obtain⟨k,j,hk,hj,hy,hm,h1,h2,hn⟩:=h;simp only at hy hm h1 h2 hn;have e1:(y-2000).toNat=k:=by omega
 have e2:(m-1).toNat=j:=by omega
 have e3:m.toNat=j+1:=by omega
 unfold qiY;rw[e1,e2,e3,jAr ⟨by omega,by omega,by omega,by omega,h1,h2⟩,hn]
theorem zfX{n:Int}(h0:0<=n)(h1:n<=73048):qiY (qc4 n).1 (qc4 n).2.1 (qc4 n).2.2=some n:=zaJ (qtG h0 h1)
theorem zfY{n:Int}(h0:0<=n)(h1:n<=73048):(0<=(qc4 n).1/\(qc4 n).1<=9223372036854775807)/\(0<=(qc4 n).2.1/\(qc4 n).2.1<=9223372036854775807)/\0<=(qc4 n).2.2/\(qc4 n).2.2<=9223372036854775807:=by
 obtain⟨k,m,hk,hm,hy,hmo,g1,g2,hn⟩:=qtG h0 h1;have:=qqC (qc4 n).1 (m+1);omega
end Go.Tk
namespace Go.Proofs.H16
open Go Go.Eng Go.Tk
set_option maxRecDepth 20000
theorem qWM{y:Int}(h:0<=y):(br (y.tmod 4==0) (br (y.tmod 100 != 0) (some true) (some (y.tmod 400==0))) (some false))=some (qpl y):=by
 rw[Int.tmod_eq_emod_of_nonneg h,Int.tmod_eq_emod_of_nonneg h,Int.tmod_eq_emod_of_nonneg h];unfold qpl;cases(y%4==0)<;>cases h2:(y%100==0)<;>simp only[br_true,br_false,bne,h2,Bool.not_true,Bool.not_false,jBm,Bool.false_and,Bool.true_or,Bool.false_or]
theorem q3c(n:Int):(br (decide (n>=0)) (some (decide (n<=73048))) (some false))=some (decide (n>=0)&&decide (n<=73048)):=by cases decide (n>=0)<;>rfl
theorem m12{m:Nat}(h1:1<=m)(h2:m<=12):m=1\/m=2\/m=3\/m=4\/m=5\/m=6\/m=7\/m=8\/m=9\/m=10\/m=11\/m=12:=by omega
theorem qow{x:Int}(h1:-1000000000<=x)(h2:x<=1000000000):IntKind.i64.wrap x=x:=wrap64 (by omega) (by omega)
theorem qHT{y:Int}(h:0<=y):qoW y=some (qpl y):=by
 rw[qPc,qsL];exact(biS (qWM h)).trans rfl
theorem qgB{y:Int}(h:0<=y){m:Nat}(h1:1<=m)(h2:m<=12):qi5 y (m:Int)=some (mlS y m):=by
 rw[qOz,qr8];by_cases hm:m=2
 ·subst hm;rw[qHT h];refine(biS (v:=qpl y) rfl).trans ?_;cases hl:qpl y
  ·refine(brF rfl).trans ?_;show some (28:Int)=some (mlS y 2);unfold mlS;rw[hl];rfl
  ·refine(brT rfl).trans ?_;show some (29:Int)=some (mlS y 2);unfold mlS;rw[hl];rfl
 ·have hb:((m:Int)==2)=false:=by rw[jBj];omega
  refine(biS (v:=false) (by rw[hb];rfl)).trans ((brF rfl).trans ?_);rcases m12 h1 h2 with rfl|rfl|rfl|rfl|rfl|rfl|rfl|rfl|rfl|rfl|rfl|rfl
  ·rfl
  ·exact absurd rfl hm
  all_goals rfl
def zu4(x0:Int):Int:=bif decide (x0>2100)then IntKind.i64.wrap (IntKind.i64.wrap (365*IntKind.i64.wrap (x0-2000))+IntKind.i64.wrap (IntKind.i64.wrap ((IntKind.i64.wrap (IntKind.i64.wrap (x0-2000)+3)).tdiv 4)-1))
 else IntKind.i64.wrap (IntKind.i64.wrap (365*IntKind.i64.wrap (x0-2000))+IntKind.i64.wrap ((IntKind.i64.wrap (IntKind.i64.wrap (x0-2000)+3)).tdiv 4))
theorem zdJ:((List.range 201).all fun k=>zu4 (2000+(k:Nat))==qbA k)=true:=by decide +kernel
theorem qi9{k:Nat}(h:k<=200):qmy (2000+(k:Int))=some (qbA k):=by
 have:=jAb.1 zdJ k (jBq.2 (by omega));rw[jB7]at this;rw[qOS,qsr,<-this];unfold zu4;cases decide ((2000+(k:Int))>2100)<;>rfl
theorem ql2{k:Nat}(h:k<=200):0<=qbA k/\qbA k<=73049:=by
 have h1:=qhf (jBa k);have h2:=qhf h;rw[qGQ]at h2;exact⟨h1,h2⟩
theorem qjI(y:Int){m:Nat}(h:m<=12):0<=qbB y m/\qbB y m<=366:=by
 have h1:=qiX y (jBa m);have h2:=qiX y h;rw[zf3]at h2;have:=qFG y;exact⟨h1,by omega⟩
theorem que(n:Int):qkd n=some (decide (n>=0)&&decide (n<=73048)):=by
 rw[qx7,qoo];exact(biS (q3c n)).trans rfl
theorem zl9{n:Int}{k:Nat}(hk:k<200)(h1:qbA k<=n)(h2:n<qbA (k+1)):∀(j a:Nat),a+j=k->qae (fun v=>(qrf v).ev) (n,2000+(a:Int))=some (0,n,2000+(k:Int)):=by
 have hn:0<=n/\n<=73048:=by
  have q1:=ql2 (k:=k) (by omega);have q2:=ql2 (k:=k+1) (by omega);omega
 intro j
 induction j with
 |zero=>
  intro a ha;have e:a=k:=by omega
  subst e;refine qaf ?_;show(qir n (2000+(a:Int))).ev=_;rw[qir,qow (x:=2000+(a:Int)+1) (by omega) (by omega),show 2000+(a:Int)+1=2000+((a+1:Nat):Int) by omega];exact(biS (qi9 (k:=a+1) (by omega))).trans ((brF (jAe (show ¬qbA (a+1)<=n by omega))).trans rfl)
 |succ j ih=>
  intro a ha;have hb:=qhf (show a+1<=k by omega);rw[qal (v':=(n,2000+((a+1:Nat):Int))) ?_]
  ·exact ih (a+1) (by omega)
  ·show(qir n (2000+(a:Int))).ev=_;rw[qir,qow (x:=2000+(a:Int)+1) (by omega) (by omega),show 2000+(a:Int)+1=2000+((a+1:Nat):Int) by omega];exact(biS (qi9 (k:=a+1) (by omega))).trans ((brT (jA8 (show qbA (a+1)<=n by omega))).trans rfl)
theorem zma{y r:Int}(hy:0<=y){M:Nat}(hM:M<12)(h1:qbB y M<=r)(h2:r<qbB y (M+1)):∀(k j:Nat),j+k=M->qae (fun v=>(qrg v).ev) (r-qbB y j,y,((j+1:Nat):Int))=some (0,r-qbB y M,y,((M+1:Nat):Int)):=by
 have hr:0<=r/\r<=366:=by
  have q1:=qjI y (m:=M) (by omega);have q2:=qjI y (m:=M+1) (by omega);omega
 intro k
 induction k with
 |zero=>
  intro j hj;have e:j=M:=by omega
  subst e;have e1:qbB y (j+1)=qbB y j+mlS y (j+1):=rfl;refine qaf ?_;show(qis (r-qbB y j) y ((j+1:Nat):Int)).ev=_;rw[qis];exact(biS (qgB hy (by omega) (by omega))).trans ((brF (jAe (by omega))).trans rfl)
 |succ k ih=>
  intro j hj;have hc:=qiX y (show j+1<=M by omega);have hc0:=qjI y (m:=j) (by omega);have hm:=qqC y (j+1);have e1:qbB y (j+1)=qbB y j+mlS y (j+1):=rfl;rw[qal (v':=(r-qbB y (j+1),y,((j+1+1:Nat):Int))) ?_]
  ·exact ih (j+1) (by omega)
  ·show(qis (r-qbB y j) y ((j+1:Nat):Int)).ev=_;rw[qis];refine(biS (qgB hy (by omega) (by omega))).trans ((brT (jA8 (by omega))).trans ((biS (qgB hy (by omega) (by omega))).trans ?_));show some (Rd.next (IntKind.i64.wrap (r-qbB y j-mlS y (j+1)),y,IntKind.i64.wrap (((j+1:Nat):Int)+1)))=_;rw[qow (by omega) (by omega),qow (by omega) (by omega),show r-qbB y j-mlS y (j+1)=r-qbB y (j+1) by omega];rfl
theorem qUh:∀a:Nat,qbA a<=366*a
 |0=>by decide
 |a+1=>by
  have:=qUh a;have:=qFG (2000+a);simp only[qbA];omega
theorem qHC(n:Int):qud n=some (qc4 n):=by
 rw[qOR,qsq];refine(biS (que n)).trans ?_;by_cases hn:0<=n/\n<=73048
 ·have hv:(decide (n>=0)&&decide (n<=73048))=true:=by rw[jA8 hn.1,jA8 hn.2];rfl
  refine(brF (by rw[hv];rfl)).trans ?_;obtain⟨k,M,hk,hM,hy,hmo,h1,h2,he⟩:=qtG hn.1 hn.2;obtain⟨a1,a2,a3,a4⟩:=IsCiv.year hM hy h1 h2 he;have hciv:qc4 n=(2000+(k:Int),((M+1:Nat):Int),n-qbA k-qbB (2000+(k:Int)) M+1):=by
   rw[hy]at he;refine Prod.ext hy (Prod.ext (by rw[hmo];simp) ?_);show(qc4 n).2.2=n-qbA k-qbB (2000+(k:Int)) M+1;omega
  rw[hciv];rw[hy]at a3 a4;have hg:n.tdiv 366=((n.toNat / 366:Nat):Int):=by
   rw[Int.tdiv_eq_ediv_of_nonneg hn.1];omega
  have hgk:n.toNat / 366<=k:=by
   have q:=qUh (n.toNat / 366);rcases jCb k (n.toNat / 366)with hlt|hge
   ·have:=qhf (show k+1<=n.toNat / 366 from hlt);omega
   ·exact hge
  have e1:IntKind.i64.wrap (2000+IntKind.i64.wrap (n.tdiv 366))=2000+((n.toNat / 366:Nat):Int):=by
   rw[hg,qow (x:=((n.toNat / 366:Nat):Int)) (by omega) (by omega),qow (by omega) (by omega)]
  have hl0:=zl9 hk a1 a2 (k-n.toNat / 366) (n.toNat / 366) (by omega);refine(biS (v:=(n,2000+(k:Int))) ?_).trans ?_
  ·rw[e1,qyz,hl0];rfl
  ·refine(biS (qi9 (k:=k) (by omega))).trans ?_;have hl1:=zma (y:=2000+(k:Int)) (r:=n-qbA k) (by omega) hM a3 a4 M 0 (by omega);have hb:=ql2 (k:=k) (by omega);have hc:=qjI (2000+(k:Int)) (m:=M) (by omega);refine(biS (v:=(n-qbA k-qbB (2000+(k:Int)) M,2000+(k:Int),((M+1:Nat):Int))) ?_).trans ?_
   ·rw[qyA];show pj 0 (qae _ (IntKind.i64.wrap (n-qbA k),2000+(k:Int),((0+1:Nat):Int)))=_;rw[qow (by omega) (by omega)];have e0:n-qbA k-qbB (2000+(k:Int)) 0=n-qbA k:=by show n-qbA k-0=_;omega
    rw[e0]at hl1;rw[hl1];rfl
   ·show some (2000+(k:Int),((M+1:Nat):Int),IntKind.i64.wrap (n-qbA k-qbB (2000+(k:Int)) M+1))=_;rw[qow (by omega) (by omega)]
 ·have hv:(decide (n>=0)&&decide (n<=73048))=false:=by
   by_cases h0:n>=0
   ·rw[jAe (p:=n<=73048) (by omega),Bool.and_false]
   ·rw[jAe h0];rfl
  refine(brT (by rw[hv];rfl)).trans ?_;unfold qc4;rw[dif_neg hn];rfl
theorem qus{y:Int}(h:0<=y):qbe y=some (qpl y):=by
 rw[qPf,qsO];exact(biS (qWM h)).trans rfl
theorem qiZ{y:Int}(h:0<=y):qmk y=some (ylS y):=by
 rw[qNR,qrm];refine(biS (qus h)).trans ?_;unfold ylS;cases qpl y<;>rfl
theorem qgD{y:Int}(h:0<=y){m:Nat}(h1:1<=m)(h2:m<=12):qhL y (m:Int)=some (mlS y m):=by
 rw[qxZ,qol];have hl:=qus h;rcases m12 h1 h2 with rfl|rfl|rfl|rfl|rfl|rfl|rfl|rfl|rfl|rfl|rfl|rfl
 ·rfl
 ·rw[hl];unfold mlS;cases qpl y<;>rfl
 all_goals rfl
theorem qui(n:Int):qmA n=some (decide (n>=0)&&decide (n<=73048)):=by
 rw[qOX,qsw];exact(biS (q3c n)).trans rfl
theorem zgy{n m:Int}{k:Nat}(hk:k<200)(h1:qbA k<=n)(h2:n<qbA (k+1)):∀(j a:Nat),a+j=k->qae (fun v=>(qrh v).ev) (n-qbA a,2000+(a:Int),m)=some (0,n-qbA k,2000+(k:Int),m):=by
 have hn:0<=n/\n<=73048:=by
  have q1:=ql2 (k:=k) (by omega);have q2:=ql2 (k:=k+1) (by omega);omega
 intro j
 induction j with
 |zero=>
  intro a ha;have e:a=k:=by omega
  subst e;have e1:qbA (a+1)=qbA a+ylS (2000+a):=rfl;refine qaf ?_;show(qit (n-qbA a) (2000+(a:Int)) m).ev=_;rw[qit];exact(biS (qiZ (by omega))).trans ((brF (jAe (by omega))).trans rfl)
 |succ j ih=>
  intro a ha;have hb:=qhf (show a+1<=k by omega);have hb0:=ql2 (k:=a) (by omega);have hm:=qFG (2000+a);have e1:qbA (a+1)=qbA a+ylS (2000+a):=rfl;rw[qal (v':=(n-qbA (a+1),2000+((a+1:Nat):Int),m)) ?_]
  ·exact ih (a+1) (by omega)
  ·show(qit (n-qbA a) (2000+(a:Int)) m).ev=_;rw[qit];refine(biS (qiZ (by omega))).trans ((brT (jA8 (by omega))).trans ((biS (qiZ (by omega))).trans ?_));show some (Rd.next (IntKind.i64.wrap (n-qbA a-ylS (2000+a)),IntKind.i64.wrap (2000+(a:Int)+1),m))=_;rw[qow (by omega) (by omega),qow (by omega) (by omega),show n-qbA a-ylS (2000+a)=n-qbA (a+1) by omega,show 2000+(a:Int)+1=2000+((a+1:Nat):Int) by omega]
theorem zgz{y r:Int}(hy:0<=y){M:Nat}(hM:M<12)(h1:qbB y M<=r)(h2:r<qbB y (M+1)):∀(k j:Nat),j+k=M->qae (fun v=>(qri v).ev) (r-qbB y j,y,((j+1:Nat):Int))=some (0,r-qbB y M,y,((M+1:Nat):Int)):=by
 have hr:0<=r/\r<=366:=by
  have q1:=qjI y (m:=M) (by omega);have q2:=qjI y (m:=M+1) (by omega);omega
 intro k
 induction k with
 |zero=>
  intro j hj;have e:j=M:=by omega
  subst e;have e1:qbB y (j+1)=qbB y j+mlS y (j+1):=rfl;refine qaf ?_;show(qiu (r-qbB y j) y ((j+1:Nat):Int)).ev=_;rw[qiu];exact(biS (qgD hy (by omega) (by omega))).trans ((brF (jAe (by omega))).trans rfl)
 |succ k ih=>
  intro j hj;have hc:=qiX y (show j+1<=M by omega);have hc0:=qjI y (m:=j) (by omega);have hm:=qqC y (j+1);have e1:qbB y (j+1)=qbB y j+mlS y (j+1):=rfl;rw[qal (v':=(r-qbB y (j+1),y,((j+1+1:Nat):Int))) ?_]
  ·exact ih (j+1) (by omega)
  ·show(qiu (r-qbB y j) y ((j+1:Nat):Int)).ev=_;rw[qiu];refine(biS (qgD hy (by omega) (by omega))).trans ((brT (jA8 (by omega))).trans ((biS (qgD hy (by omega) (by omega))).trans ?_));show some (Rd.next (IntKind.i64.wrap (r-qbB y j-mlS y (j+1)),y,IntKind.i64.wrap (((j+1:Nat):Int)+1)))=_;rw[qow (by omega) (by omega),qow (by omega) (by omega),show r-qbB y j-mlS y (j+1)=r-qbB y (j+1) by omega];rfl
theorem qHI(n:Int):quh n=some (qc4 n):=by
 rw[qOW,qsv];refine(biS (qui n)).trans ?_;by_cases hn:0<=n/\n<=73048
 ·have hv:(decide (n>=0)&&decide (n<=73048))=true:=by rw[jA8 hn.1,jA8 hn.2];rfl
  refine(brF (by rw[hv];rfl)).trans ?_;obtain⟨k,M,hk,hM,hy,hmo,h1,h2,he⟩:=qtG hn.1 hn.2;obtain⟨a1,a2,a3,a4⟩:=IsCiv.year hM hy h1 h2 he;have hciv:qc4 n=(2000+(k:Int),((M+1:Nat):Int),n-qbA k-qbB (2000+(k:Int)) M+1):=by
   rw[hy]at he;refine Prod.ext hy (Prod.ext (by rw[hmo];simp) ?_);show(qc4 n).2.2=n-qbA k-qbB (2000+(k:Int)) M+1;omega
  rw[hciv];rw[hy]at a3 a4;have hl0:=zgy (m:=1) hk a1 a2 k 0 (by omega);have hb:=ql2 (k:=k) (by omega);have hc:=qjI (2000+(k:Int)) (m:=M) (by omega);have hl1:=zgz (y:=2000+(k:Int)) (r:=n-qbA k) (by omega) hM a3 a4 M 0 (by omega);refine(biS (v:=(n-qbA k,2000+(k:Int),1)) ?_).trans ((biS (v:=(n-qbA k-qbB (2000+(k:Int)) M,2000+(k:Int),((M+1:Nat):Int))) ?_).trans ?_)
  ·rw[qyF];have e0:n-qbA 0=n:=by show n-0=n;omega
   rw[e0]at hl0;show pj 0 (qae _ (n,2000+((0:Nat):Int),1))=_;rw[hl0];rfl
  ·rw[qyG];have e0:n-qbA k-qbB (2000+(k:Int)) 0=n-qbA k:=by show n-qbA k-0=_;omega
   rw[e0]at hl1;show pj 0 (qae _ (n-qbA k,2000+(k:Int),((0+1:Nat):Int)))=_;rw[hl1];rfl
  ·show some (2000+(k:Int),((M+1:Nat):Int),IntKind.i64.wrap (n-qbA k-qbB (2000+(k:Int)) M+1))=_;rw[qow (by omega) (by omega)]
 ·have hv:(decide (n>=0)&&decide (n<=73048))=false:=by
   by_cases h0:n>=0
   ·rw[jAe (p:=n<=73048) (by omega),Bool.and_false]
   ·rw[jAe h0];rfl
  refine(brT (by rw[hv];rfl)).trans ?_;unfold qc4;rw[dif_neg hn];rfl
end Go.Proofs.H16
namespace Go.Tk
open Go Go.Eng
set_option maxRecDepth 20000
structure Tr where
 (from_ ppm:Int)
def Tr.av(x:Tr):AV:=.agg [.int .i64 x.from_,.int .i64 x.ppm]
abbrev ETr(l:List Tr):List AV:=l.map Tr.av
abbrev zvg:List CS:=[CS.int IntKind.i64,CS.int IntKind.i64]
theorem zvE(h:Tr):qqQ zvg (qah h.av)=true:=rfl
theorem zgU{l:List Tr}{n:Nat}(h:n<l.length):qaD zvg (ETr l) (n:Int)=true:=qgS zvE h
theorem zjR{l:List Tr}{n:Nat}(h:n<l.length):intOf (cellAt (ETr l) (n:Int) 0)=l[n].from_:=by rw[qaE h];rfl
theorem zjS{l:List Tr}{n:Nat}(h:n<l.length):intOf (cellAt (ETr l) (n:Int) 1)=l[n].ppm:=by rw[qaE h];rfl
structure Cu where
 (code:Bs) (digits:Int)
def Cu.av(x:Cu):AV:=.agg [.str x.code,.int .i64 x.digits]
abbrev EC(l:List Cu):List AV:=l.map Cu.av
theorem hkC(h:Cu):qqQ ksV (qah h.av)=true:=rfl
theorem okC{l:List Cu}{n:Nat}(h:n<l.length):qaD ksV (EC l) (n:Int)=true:=qgS hkC h
structure Cal where
 (name:Bs) (wk hol:List AV)
def Cal.av(x:Cal):AV:=.agg [.str x.name,.view 1 x.wk,.view 1 x.hol]
abbrev EK(l:List Cal):List AV:=l.map Cal.av
structure Fe where
 (name:Bs) (event:Int) (when_ amount:Ex)
def Fe.av(x:Fe):AV:=.agg [.str x.name,.int .i64 x.event,.int .i64 x.when_.op,.int .i64 x.when_.num,.str x.when_.txt,.view 4 (EX x.when_.args),.int .i64 x.amount.op,.int .i64 x.amount.num,.str x.amount.txt,.view 4 (EX x.amount.args)]
abbrev EF(l:List Fe):List AV:=l.map Fe.av
abbrev ksF:List CS:=[CS.str,CS.int .i64,CS.int .i64,CS.int .i64,CS.str,CS.slice 4,CS.int .i64,CS.int .i64,CS.str,CS.slice 4]
theorem hkF(h:Fe):qqQ ksF (qah h.av)=true:=rfl
theorem okF{l:List Fe}{n:Nat}(h:n<l.length):qaD ksF (EF l) (n:Int)=true:=qgS hkF h
theorem qf0{l:List Fe}{n:Nat}(h:n<l.length):strOf (cellAt (EF l) (n:Int) 0)=l[n].name:=by rw[qaE h];rfl
theorem qf1{l:List Fe}{n:Nat}(h:n<l.length):intOf (cellAt (EF l) (n:Int) 1)=l[n].event:=by rw[qaE h];rfl
theorem qf2{l:List Fe}{n:Nat}(h:n<l.length):intOf (cellAt (EF l) (n:Int) 2)=l[n].when_.op:=by rw[qaE h];rfl
theorem qf3{l:List Fe}{n:Nat}(h:n<l.length):intOf (cellAt (EF l) (n:Int) 3)=l[n].when_.num:=by rw[qaE h];rfl
theorem qf4{l:List Fe}{n:Nat}(h:n<l.length):strOf (cellAt (EF l) (n:Int) 4)=l[n].when_.txt:=by rw[qaE h];rfl
theorem qf5{l:List Fe}{n:Nat}(h:n<l.length):qap (cellAt (EF l) (n:Int) 5)=EX l[n].when_.args:=by rw[qaE h];rfl
theorem qf6{l:List Fe}{n:Nat}(h:n<l.length):intOf (cellAt (EF l) (n:Int) 6)=l[n].amount.op:=by rw[qaE h];rfl
theorem qf7{l:List Fe}{n:Nat}(h:n<l.length):intOf (cellAt (EF l) (n:Int) 7)=l[n].amount.num:=by rw[qaE h];rfl
theorem qf8{l:List Fe}{n:Nat}(h:n<l.length):strOf (cellAt (EF l) (n:Int) 8)=l[n].amount.txt:=by rw[qaE h];rfl
theorem qf9{l:List Fe}{n:Nat}(h:n<l.length):qap (cellAt (EF l) (n:Int) 9)=EX l[n].amount.args:=by rw[qaE h];rfl
structure Ru where
 (name:Bs) (window:Int) (amount:Ex)
def Ru.av(x:Ru):AV:=.agg [.str x.name,.int .i64 x.window,.int .i64 x.amount.op,.int .i64 x.amount.num,.str x.amount.txt,.view 4 (EX x.amount.args)]
abbrev ER(l:List Ru):List AV:=l.map Ru.av
abbrev ksR:List CS:=[CS.str,CS.int .i64,CS.int .i64,CS.int .i64,CS.str,CS.slice 4]
theorem hkR(h:Ru):qqQ ksR (qah h.av)=true:=rfl
theorem okR{l:List Ru}{n:Nat}(h:n<l.length):qaD ksR (ER l) (n:Int)=true:=qgS hkR h
theorem qr0{l:List Ru}{n:Nat}(h:n<l.length):strOf (cellAt (ER l) (n:Int) 0)=l[n].name:=by rw[qaE h];rfl
theorem qr1{l:List Ru}{n:Nat}(h:n<l.length):intOf (cellAt (ER l) (n:Int) 1)=l[n].window:=by rw[qaE h];rfl
theorem qr2{l:List Ru}{n:Nat}(h:n<l.length):intOf (cellAt (ER l) (n:Int) 2)=l[n].amount.op:=by rw[qaE h];rfl
theorem qr3{l:List Ru}{n:Nat}(h:n<l.length):intOf (cellAt (ER l) (n:Int) 3)=l[n].amount.num:=by rw[qaE h];rfl
theorem qr4{l:List Ru}{n:Nat}(h:n<l.length):strOf (cellAt (ER l) (n:Int) 4)=l[n].amount.txt:=by rw[qaE h];rfl
theorem qr5{l:List Ru}{n:Nat}(h:n<l.length):qap (cellAt (ER l) (n:Int) 5)=EX l[n].amount.args:=by rw[qaE h];rfl
structure In where
 (tiers:List Tr) (marg:Bool) (basis mode:Int) (keep:Bool)
structure Pr where
 (name cur cal:Bs) (from_ every over tax:Int) (cr de:In) (fees:List Fe) (rules:List Ru)
theorem qeY(a b:Bool):br a (some true) (some b)=some (a||b):=by cases a<;>rfl
theorem q95(a b:Bool):br a (some b) (some false)=some (a&&b):=by cases a<;>rfl
def qlX{α:Type}(eq:α->α->Bool)(a b:List α)(i:Nat):Bool:=match a[i]?,b[i]? with
 |some x,some y=>!eq x y
 |_,_=>false
mutual
def qe7:Ex->Ex->Bool
 | .mk o n s l,.mk o' n' s' l'=>(o==o')&&((n==n')&&((s==s')&&qzt l l'))
def qzt:List Ex->List Ex->Bool
 | [],[]=>true
 |x::l,y::m=>qe7 x y&&qzt l m
 |_,_=>false
end
def qdF{α:Type}(eq:α->α->Bool)(a b:List α):Bool:=bif a.length==b.length then !(List.range a.length).any (qlX eq a b)else false
end Go.Tk
namespace Go.Tk
open Go Go.Eng
inductive Pz (α:Type) where
 |bad (r:List Tok) (e:Int)
 |ok (a:α) (r:List Tok)
def Pz.bnd{α β:Type}(x:Pz α)(f:α->List Tok->Pz β):Pz β:=match x with
 | .bad r e=>.bad r e
 | .ok a r=>f a r
def qd3:List Bs:=[[97,99,116,51,54,48],[97,99,116,51,54,53],[97,99,116,117,97,108],[116,104,105,114,116,121]]
def qd7:List Bs:=[[100,111,119,110],[117,112],[102,108,111,111,114],[99,101,105,108],[104,97,108,102,95,117,112],[104,97,108,102,95,101,118,101,110]]
def eventsL:List Bs:=[[109,111,110,116,104],[100,101,98,105,116],[114,101,116,117,114,110],[99,108,111,115,101]]
def windowsL:List Bs:=[[115,105,110,103,108,101],[100,97,105,108,121],[109,111,110,116,104,108,121]]
def qxP(s:Bs):Option Bs:=if s.length=3/\s.all (at8 fun c=>decide (c>=97)&&decide (c<=122))=true then some (s.map fun c=>c-32)else none
def lnT(n:Int)(l:List (Int×Bs)):List Tok:=l.map fun x=>⟨x.1,n,x.2⟩
def qhm(s:Bs):Bs:=s.map fun c=>c+32
def qxp(l:List Bs)(n:Int):Bs:=(l[(n-1).toNat]?).getD []
def qm4(n:Int)(t:Tr):List Tok:=lnT n [(4,[36]),(2,Lib.itoa t.from_),(4,[58]),(3,qiJ t.ppm.toNat),(4,[59])]
def qcp:Int->List Tr->List Tok
 |_,[]=>[]
 |n,t::l=>qm4 n t++qcp (n+1) l
def inT(w:Bs)(n:Int)(x:In):List Tok:=
 lnT n [(5,w),(5,bif x.marg then[109,97,114,103,105,110,97,108]else[119,104,111,108,101]),(5,qxp qd3 x.basis),(5,qxp qd7 x.mode),(5,bif x.keep then[107,101,101,112]else[100,114,111,112]),(4,[123])]++(qcp (n+1) x.tiers++lnT (n+1+x.tiers.length) [(4,[125])])
def exT(n:Int)(e:Ex):List Tok:=(wrB e).map fun t=>⟨t.kind,n,t.text⟩
def feT(n:Int)(x:Fe):List Tok:=lnT n [(5,[102,101,101]),(1,x.name),(5,qxp eventsL x.event),(5,[119,104,101,110])]++(exT n x.when_++(lnT n [(5,[97,109,111,117,110,116,95,111,102])]++(exT n x.amount++lnT n [(4,[59])])))
def ruT(n:Int)(x:Ru):List Tok:=lnT n [(5,[108,105,109,105,116]),(1,x.name),(5,qxp windowsL x.window)]++(exT n x.amount++lnT n [(4,[59])])
def qbY{α:Type}(f:Int->α->List Tok):Int->List α->List Tok
 |_,[]=>[]
 |n,x::l=>f n x++qbY f (n+1) l
def qd0(civ:Int->Int×Int×Int)(p:Pr):List Tok:=
 lnT 1 [(5,[112,114,111,100,117,99,116]),(1,p.name),(4,[123])]++(lnT 2 [(5,[99,117,114,114,101,110,99,121]),(1,qhm p.cur),(4,[59])]++(lnT 3 [(5,[99,97,108,101,110,100,97,114]),(1,p.cal),(4,[59])] ++
 (lnT 4 [(5,[102,114,111,109]),(2,Lib.itoa (civ p.from_).1),(4,[47]),(2,Lib.itoa (civ p.from_).2.1),(4,[47]),(2,Lib.itoa (civ p.from_).2.2),(4,[59])] ++
 (lnT 5 [(5,[101,118,101,114,121]),(2,Lib.itoa p.every),(4,[59])]++(lnT 6 [(5,[111,118,101,114,100,114,97,102,116]),(4,[36]),(2,Lib.itoa p.over),(4,[59])]++(lnT 7 [(5,[116,97,120]),(3,qiJ p.tax.toNat),(4,[59])] ++
 (inT [99,114,101,100,105,116] 8 p.cr++(inT [100,101,98,105,116] (10+p.cr.tiers.length) p.de ++
 (qbY feT (12+p.cr.tiers.length+p.de.tiers.length) p.fees++(qbY ruT (12+p.cr.tiers.length+p.de.tiers.length+p.fees.length) p.rules ++
 lnT (12+p.cr.tiers.length+p.de.tiers.length+p.fees.length+p.rules.length) [(4,[125])]))))))))))
end Go.Tk
namespace Go.Tk
open Go Go.Eng
def kt(t:Tok):Int×Bs:=(t.kind,t.text)
end Go.Tk
namespace Go.Tk
open Go Go.Eng
def qjP(t:Tr):Prop:=0<=t.from_/\t.from_<=9223372036854775807/\0<=t.ppm/\t.ppm<=1000000
theorem qqf:∀(ts:List Tr) (n:Int),(qcp n ts).length=5*ts.length
 | [],_=>rfl
 |t::ts,n=>by
  rw[qcp,jA2,qqf ts];simp only[qm4,lnT,jA5,jA0,jA4];omega
def q55(x:In):Prop:=(∀t∈x.tiers,qjP t)/\1<=x.basis/\x.basis<=4/\1<=x.mode/\x.mode<=6
section
variable {exS:List Tok->Rs} (hE:∀(n:Int) (e:Ex) (rest:List Tok),qaL e=0->stopL 0 rest->exS (exT n e++rest)= .ok e rest)
include hE
def zau(x:Fe):Prop:=1<=x.event/\x.event<=4/\qaL x.when_=0/\qaL x.amount=0
def zcG(x:Ru):Prop:=1<=x.window/\x.window<=3/\qaL x.amount=0
omit hE
theorem qkt{α:Type}{g:Int->α->List Tok}(hg:∀n x,1<=(g n x).length):∀(xs:List α) (n:Int),xs.length<=(qbY g n xs).length
 | [],_=>jBa _
 |x::xs,n=>by
  have h1:=hg n x;have h2:=qkt hg xs (n+1);rw[qbY,jA2,jA0];omega
end
structure PrOk (civ:Int->Int×Int×Int) (day:Int->Int->Int->Option Int) (p:Pr):Prop where
 cur:qxP (qhm p.cur)=some p.cur
 y0:0<=(civ p.from_).1/\(civ p.from_).1<=9223372036854775807
 m0:0<=(civ p.from_).2.1/\(civ p.from_).2.1<=9223372036854775807
 d0:0<=(civ p.from_).2.2/\(civ p.from_).2.2<=9223372036854775807
 day:day (civ p.from_).1 (civ p.from_).2.1 (civ p.from_).2.2=some p.from_
 every:0<=p.every/\p.every<=9223372036854775807
 over:0<=p.over/\p.over<=9223372036854775807
 tax:0<=p.tax/\p.tax<=1000000
 cr:q55 p.cr
 de:q55 p.de
 fees:∀x∈p.fees,zau x
 rules:∀x∈p.rules,zcG x
end Go.Tk
namespace Go.Tk
open Go Go.Eng
theorem qJP{V:Tok->Bool}:∀{l:List Tok} {n:Int},qmh V n l=true-> ∀t∈l,V t=true
 | [],_,_,t,ht=>by cases ht
 |x::l,n,h,t,ht=>by
  simp only[qmh,jA1,jA6]at h;rcases jAc.1 ht with rfl|ht
  ·exact h.1
  ·exact qJP h.2.2 t ht
end Go.Tk
namespace Go.Tk
open Go Go.Eng
theorem qzB{s:Bs}(n:Int)(h:qcE s=true):qaS ⟨1,n,s⟩=true:=by
 unfold qcE at h;unfold qaS;simp only[jA1,jB7]at h ⊢;refine⟨h.1,h.2.1,?_⟩;have h3:=h.2.2;cases hl:(qbp s).1 with
 |nil=>rw[hl]at h3;cases h3
 |cons t l=>
  rw[hl]at h3;simpa using h3
theorem qzK:∀w∈wordsS,qaw w=(5,w,0)/\w.length<=2048:=by decide +kernel
theorem qXp:∀w∈marksS,w.length<=2048:=by decide
theorem qma{s:Bs}(n:Int)(h:qbO s=true):qaS ⟨5,n,s⟩=true:=by
 unfold qbO has at h;rw[List.any_eq_true]at h;obtain⟨w,hw,he⟩:=h;rw[jB7]at he;subst he;exact qoj (qzK _ hw).1 (qzK _ hw).2
theorem zcJ{s:Bs}(n:Int)(h:s∈marksS):qaS ⟨4,n,s⟩=true:=qoj (qy8 s h) (qXp s h)
theorem qG5{c:UInt8}(h:at8 qbh c=true):at8 qcR c=true:=by
 unfold at8 at h ⊢;unfold qcR qcs;rw[h];simp
theorem zf8{c:UInt8}(h:at8 qbh c=true):at8 qes c=false:=by
 unfold at8 qbh at h;unfold at8 qes;simp only[jA1,jA6]at h;rw[jAe (by omega)];rfl
theorem qMG{s:Bs}(hd:∃c r,s=c::r/\at8 qbh c=true)(ha:s.all (at8 qcR)=true):qaw s=qBe s:=by
 obtain⟨c,r,rfl,hc⟩:=hd;have e:(c::r).takeWhile (at8 qcR)=c::r:=qmb.2 ha;unfold qaw;simp only[zf8 hc,hc,e,jA9,jAa]
theorem q57{v:Int}(h0:0<=v)(h1:v<=9223372036854775807):(Lib.itoa v).length<=19:=by
 have hn:=qih h0 h1;unfold qkw at hn;cases hg:qhk (Lib.itoa v)
 ·unfold qhk at hg;simp only[jB6,jBl]at hg;omega
 ·rw[hg]at hn;simp at hn
theorem qkZ{v:Int}(n:Int)(h0:0<=v)(h1:v<=9223372036854775807):qaS ⟨2,n,Lib.itoa v⟩=true:=by
 have hl:=q57 h0 h1;have hn:=qih h0 h1;unfold qkw at hn;cases hi:qg5 (Lib.itoa v)
 ·rw[hi]at hn;cases hn
 cases hg:qhk (Lib.itoa v)
 ·obtain⟨a1,a2,a3⟩:=qba.1 hi;refine qoj ?_ (by show(Lib.itoa v).length<=2048;omega);show qaw (Lib.itoa v)=_;rw[qMG ?_ (jAb.2 fun c hc=>qG5 (jAb.1 a1 c hc))]
  ·unfold qBe;rw[hi,qAE hi,hg];rfl
  ·cases hs:Lib.itoa v with
   |nil=>exact absurd hs a2
   |cons c r=>
    rw[hs]at a1;simp only[jAw,jA1]at a1;exact⟨c,r,rfl,a1.1⟩
 ·rw[hi,hg]at hn;cases hn
theorem q6F(n:Nat):(qiJ n).all (at8 qcR)=true/\(∃c r,qiJ n=c::r/\at8 qbh c=true)/\qg5 (qiJ n)=false:=by
 obtain⟨i1,_,_⟩:=qh2 (n / 10000) (n / 10000) (jAj _);obtain⟨a1,a2,_⟩:=qba.1 i1;refine⟨?_,?_,?_⟩
 ·unfold qiJ;rw[jCk,jCk,jA1,jA1];refine⟨jAb.2 fun c hc=>qG5 (jAb.1 a1 c hc),?_,by decide⟩;unfold qdl;cases hp:(Lib.trimRightB (four (n%10000)) 48 != [])
  ·rfl
  ·rw[jAa,jAw,jA1];refine⟨by decide,?_⟩;refine jAb.2 fun c hc=>qG5 ?_
   exact jAb.1 (qk4 (m:=n%10000) (Nat.mod_lt _ (by decide))).1 c hc
 ·unfold qiJ;cases hs:Lib.decDigits (n / 10000)with
  |nil=>exact absurd hs a2
  |cons c r=>
   rw[hs]at a1;simp only[jAw,jA1]at a1;exact⟨c,_,rfl,a1.1⟩
 ·cases hi:qg5 (qiJ n)
  ·rfl
  ·have:=(qba.1 hi).1;have h37:(37:UInt8)∈qiJ n:=by unfold qiJ;simp
   have:=jAb.1 this 37 h37;revert this;decide
theorem q6G{n:Nat}(h:n<=1000000):(qiJ n).length<=100:=by
 have t2:=(qk4 (m:=n%10000) (Nat.mod_lt _ (by decide))).2.1;have hlen:(Lib.decDigits (n / 10000)).length<=3:=by
  rw[Lib.decDigits_length];have h1:n / 10000<=100:=by omega
  rcases jCb (n / 10000) 10 with h2|h2
  ·rw[Lib.nDigits_small h2];omega
  ·rw[Lib.nDigits_big (by omega)];rcases jCb (n / 10000 / 10) 10 with h3|h3
   ·rw[Lib.nDigits_small h3];omega
   ·rw[Lib.nDigits_big (by omega),Lib.nDigits_small (by omega)];omega
 unfold qiJ qdl;simp only[jA2];cases(Lib.trimRightB (four (n%10000)) 48 != [])<;>simp only[jAa,jA9,jA0,jA4]<;>omega
theorem qBW{v:Int}(n:Int)(h0:0<=v)(h1:v<=1000000):qaS ⟨3,n,qiJ v.toNat⟩=true:=by
 obtain⟨p1,p2,p3⟩:=q6F v.toNat;refine qoj ?_ (by have:=q6G (n:=v.toNat) (by omega);show(qiJ v.toNat).length<=2048;omega);show qaw (qiJ v.toNat)=_;rw[qMG p2 p1];unfold qBe;rw[p3,qBw (by omega)];rfl
theorem qqS{s:Bs}(n:Int)(h:qbO s=true\/(qbO s=false/\s∈marksS)):qaS ⟨qcr s,n,s⟩=true:=by
 unfold qcr;rcases h with h|⟨h,h2⟩
 ·rw[h];exact qma n h
 ·rw[h];exact zcJ n h2
theorem qa6{α:Type}{P:α->Prop}{a b:List α}(ha:∀x∈a,P x)(hb:∀x∈b,P x):∀x∈a++b,P x:=by
 intro x hx;rcases jAo.1 hx with h|h
 ·exact ha x h
 ·exact hb x h
theorem all_cons{α:Type}{P:α->Prop}{a:α}{b:List α}(ha:P a)(hb:∀x∈b,P x):∀x∈a::b,P x:=by
 intro x hx;rcases jAc.1 hx with rfl|h
 ·exact ha
 ·exact hb x h
theorem qoB{α:Type}{P:α->Prop}{a:α}(ha:P a):∀x∈ [a],P x:=all_cons ha fun _ h=>nomatch h
abbrev qqV(t:Tok):Prop:=qaS t=true
theorem qIY{r:Nat}{e:Ex}(h:∀t∈wrB e,qqV t):∀t∈par r e,qqV t:=by
 unfold Tk.par qQe;split
 ·exact all_cons (qqS 1 (.inr ⟨by decide,by decide⟩)) (qa6 h (qoB (qqS 1 (.inr ⟨by decide,by decide⟩))))
 ·exact h
theorem q66(op:Int):qqV (wT (qdY op)):=by
 refine qqS 1 ?_;unfold qdY
 repeat' split
 all_goals decide
theorem zgN(o:Int):qe6 o<=9223372036854775807:=by
 unfold qe6
 repeat' split
 all_goals omega
theorem znO:∀e:Ex,e.allX qaM=true->e.allX qbx=true-> ∀t∈wrB e,qqV t:=by
 intro e
 induction e using Ex.ind with
 |h o n s l ih=>
  intro hf hn;rw[Ex.allX_eq,jA1,jAb]at hf hn;obtain⟨hop,hn0,hn1,htx⟩:=qen hf.1;have iha:∀x∈l,∀t∈wrB x,qqV t:=fun x hx=>ih x hx (hf.2 x hx) (hn.2 x hx)
  simp only[Ex.op,Ex.args,Ex.num,Ex.txt]at hop hn0 hn1 htx
  match l,hop,iha with
  | [],hop,iha=>
   rw[qcQ rfl];simp only[Ex.op,Ex.num,Ex.txt];have hm:=zgN o;unfold qxw;split
   ·exact qoB (qkZ 1 hn0 (by omega))
   ·split
    ·exact all_cons (qqS 1 (.inr ⟨by decide,by decide⟩)) (qoB (qkZ 1 hn0 (by omega)))
    ·split
     ·rename_i h1 h2 h3;refine qoB (qBW 1 hn0 ?_);have:qe6 o=1000000:=by rw[h3];rfl
      omega
     ·rename_i h1 h2 h3;have h4:o=4:=by
       unfold qaJ at hop;split at hop
       ·omega
       ·split at hop
        ·cases hop
        ·split at hop
         ·cases hop
         ·split at hop<;>cases hop
      have hv:qcE s=true:=by
       have:=hn.1;simp only[qbx,Ex.op,Ex.txt,h4]at this;simpa using this
      exact qoB (qzB 1 hv)
  | [a],hop,iha=>
   rw[qjQ rfl];refine all_cons ?_ (qIY (iha a (by simp)));refine qqS 1 ?_;split<;>decide
  | [a,b],hop,iha=>
   by_cases h:o=17\/o=18
   ·rw[qg4 (e:=.mk o n s [a,b]) rfl h];simp only[Ex.op];refine all_cons ?_ (all_cons (qqS 1 (.inr ⟨by decide,by decide⟩)) (qa6 (iha a (by simp)) (all_cons (qqS 1 (.inr ⟨by decide,by decide⟩)) (qa6 (iha b (by simp)) (qoB (qqS 1 (.inr ⟨by decide,by decide⟩)))))));refine qqS 1 ?_;rcases h with rfl|rfl<;>exact .inl rfl
   ·rw[qov (e:=.mk o n s [a,b]) rfl (fun h'=>h (.inl h')) (fun h'=>h (.inr h'))];exact qa6 (qIY (iha a (by simp))) (all_cons (q66 _) (qIY (iha b (by simp))))
  |a::b::c::m,hop,iha=>
   rw[qFE rfl];exact all_cons (qqS 1 (.inl (by decide))) (qa6 (iha a (by simp)) (all_cons (qqS 1 (.inl (by decide))) (qa6 (iha b (by simp)) (all_cons (qqS 1 (.inl (by decide))) (iha c (by simp))))))
theorem qHd(n:Int){e:Ex}(h:qaL e=0):∀t∈exT n e,qqV t:=by
 obtain⟨_,_,h1,h2⟩:=qiF h;intro t ht;obtain⟨u,hu,rfl⟩:=jCd.1 ht;exact znO e h1 h2 u hu
def Ln(n:Int)(l:List Tok)(m:Int):Prop:=∀b,qmh qaS m b=true->qmh qaS n (l++b)=true
theorem qAh{n n':Int}{b:List Tok}(h:n'<=n)(hb:qmh qaS n b=true):qmh qaS n' b=true:=by
 cases b with
 |nil=>rfl
 |cons t b=>
  simp only[qmh,jA1,jA6]at hb ⊢;exact⟨hb.1,by omega,hb.2.2⟩
theorem Ln.seg{k m:Int}:∀{a:List Tok} {n:Int},(∀t∈a,qqV t)->(∀t∈a,t.line=k)->n<=k->k<=m->Ln n a m
 | [],n,_,_,h1,h2=>fun b hb=>qAh (by omega) hb
 |t::a,n,hv,hl,h1,h2=>fun b hb=>by
  have ih:=Ln.seg (a:=a) (n:=k) (fun x hx=>hv x (by simp[hx])) (fun x hx=>hl x (by simp[hx])) (Int.le_refl k) h2 b hb;have h3:=hl t (by simp);rw[jAk,qmh,hv t (by simp),h3,jA8 h1];simpa using ih
theorem Ln.app{n m k:Int}{a b:List Tok}(h1:Ln n a m)(h2:Ln m b k):Ln n (a++b) k:=fun c hc=>by
 rw[jAf];exact h1 _ (h2 _ hc)
theorem Ln.to{n m k:Int}{a:List Tok}(h:Ln n a m)(e:m=k):Ln n a k:=e▸h
theorem qbP(m:Int)(l:List (Int×Bs)):∀t∈lnT m l,t.line=m:=by
 intro t ht;obtain⟨x,_,rfl⟩:=jCd.1 ht;rfl
theorem qk8(m:Int)(e:Ex):∀t∈exT m e,t.line=m:=by
 intro t ht;obtain⟨x,_,rfl⟩:=jCd.1 ht;rfl
theorem qc3{n:Int}:∀t∈lnT n [],qqV t:=fun _ h=>nomatch h
theorem qaF{n k:Int}{s:Bs}{l:List (Int×Bs)}(h:qqV ⟨k,n,s⟩)(hl:∀t∈lnT n l,qqV t):∀t∈lnT n ((k,s)::l),qqV t:=all_cons h hl
theorem mkd{n:Int}{s:Bs}(h:decide (s∈marksS)=true):qqV ⟨4,n,s⟩:=zcJ n (jBd h)
theorem zio{t:Tr}(h:qjP t)(n:Int):Ln n (qm4 n t) (n+1):=
 Ln.seg (qaF (mkd (by decide)) (qaF (qkZ n h.1 h.2.1) (qaF (mkd (by decide)) (qaF (qBW n h.2.2.1 h.2.2.2) (qaF (mkd (by decide)) qc3))))) (qbP n _) (Int.le_refl n) (by omega)
theorem qNe:∀(ts:List Tr) (n:Int),(∀t∈ts,qjP t)->Ln n (qcp n ts) (n+ts.length)
 | [],n,_=>fun b hb=>qAh (by simp) hb
 |t::ts,n,h=>((zio (h t (by simp)) n).app (qNe ts (n+1) fun x hx=>h x (by simp[hx]))).to (by simp only[jA0];omega)
theorem qMI{ws:List Bs}(hw:∀w∈ws,qbO w=true){b:Int}(h1:1<=b)(h2:b<=ws.length)(n:Int):qqV ⟨5,n,qxp ws b⟩:=by
 have hlt:(b-1).toNat<ws.length:=by omega
 refine qma n ?_;unfold qxp;rw[jAh hlt];exact hw _ (jAi hlt)
theorem zl6{x:In}(h:q55 x){w:Bs}(hw:qbO w=true)(n:Int):Ln n (inT w n x) (n+2+x.tiers.length):=by
 obtain⟨h1,h2,h3,h4,h5⟩:=h;refine Ln.app (m:=n+1) (Ln.seg (k:=n) ?_ (qbP n _) (Int.le_refl n) (by omega)) (Ln.app (qNe x.tiers (n+1) h1) (Ln.seg (k:=n+1+x.tiers.length) (qaF (mkd (by decide)) qc3) (qbP _ _) (Int.le_refl _) (by omega)));refine qaF (qma n hw) (qaF ?_ (qaF (qMI (ws:=qd3) (by decide) h2 h3 n) (qaF (qMI (ws:=qd7) (by decide) h4 h5 n) (qaF ?_ (qaF (mkd (by decide)) qc3)))))
 ·cases x.marg<;>exact qma n (by decide)
 ·cases x.keep<;>exact qma n (by decide)
theorem qIP{α:Type}{g:Int->α->List Tok}{ok:α->Prop}(hg:∀n x,ok x->Ln n (g n x) (n+1)):∀(xs:List α) (n:Int),(∀x∈xs,ok x)->Ln n (qbY g n xs) (n+xs.length)
 | [],n,_=>fun b hb=>qAh (by simp) hb
 |x::xs,n,h=>((hg n x (h x (by simp))).app (qIP hg xs (n+1) fun y hy=>h y (by simp[hy]))).to (by simp only[jA0];omega)
theorem zlP{x:Fe}(h:zau x)(hn:qcE x.name=true)(n:Int):Ln n (feT n x) (n+1):=by
 obtain⟨h1,h2,h3,h4⟩:=h;refine Ln.seg (k:=n) ?_ ?_ (Int.le_refl n) (by omega)
 ·exact qa6 (qaF (qma n (by decide)) (qaF (qzB n hn) (qaF (qMI (ws:=eventsL) (by decide) h1 h2 n) (qaF (qma n (by decide)) qc3)))) (qa6 (qHd n h3) (qa6 (qaF (qma n (by decide)) qc3) (qa6 (qHd n h4) (qaF (mkd (by decide)) qc3))))
 ·exact qa6 (qbP n _) (qa6 (qk8 n _) (qa6 (qbP n _) (qa6 (qk8 n _) (qbP n _))))
theorem zhj{x:Ru}(h:zcG x)(hn:qcE x.name=true)(n:Int):Ln n (ruT n x) (n+1):=by
 obtain⟨h1,h2,h3⟩:=h;refine Ln.seg (k:=n) ?_ ?_ (Int.le_refl n) (by omega)
 ·exact qa6 (qaF (qma n (by decide)) (qaF (qzB n hn) (qaF (qMI (ws:=windowsL) (by decide) h1 h2 n) qc3))) (qa6 (qHd n h3) (qaF (mkd (by decide)) qc3))
 ·exact qa6 (qbP n _) (qa6 (qk8 n _) (qbP n _))
structure NmOk (p:Pr):Prop where
 name:qcE p.name=true
 cur:qcE (qhm p.cur)=true
 cal:qcE p.cal=true
 fees:∀x∈p.fees,qcE x.name=true
 rules:∀x∈p.rules,qcE x.name=true
theorem qMW{civ:Int->Int×Int×Int}{day:Int->Int->Int->Option Int}{p:Pr}(h:PrOk civ day p)(hn:NmOk p):qmh qaS 1 (qd0 civ p)=true:=by
 have wd:∀{n:Int} {s:Bs},decide (qbO s=true)=true->qqV ⟨5,n,s⟩:=fun hw=>qma _ (jBd hw)
 have sg:∀{k:Int} {xs:List (Int×Bs)},(∀t∈lnT k xs,qqV t)->Ln k (lnT k xs) (k+1):=fun hx=>Ln.seg hx (qbP _ _) (Int.le_refl _) (by omega)
 have key:Ln 1 (qd0 civ p) (12+p.cr.tiers.length+p.de.tiers.length+p.fees.length+p.rules.length+1):=by
  unfold qd0;refine Ln.app (sg (qaF (wd (by decide)) (qaF (qzB _ hn.name) (qaF (mkd (by decide)) qc3)))) ?_;refine Ln.app (sg (k:=2) (qaF (wd (by decide)) (qaF (qzB _ hn.cur) (qaF (mkd (by decide)) qc3)))) ?_;refine Ln.app (sg (k:=3) (qaF (wd (by decide)) (qaF (qzB _ hn.cal) (qaF (mkd (by decide)) qc3)))) ?_;refine Ln.app (sg (k:=4) (qaF (wd (by decide)) (qaF (qkZ _ h.y0.1 h.y0.2) (qaF (mkd (by decide)) (qaF (qkZ _ h.m0.1 h.m0.2) (qaF (mkd (by decide)) (qaF (qkZ _ h.d0.1 h.d0.2) (qaF (mkd (by decide)) qc3)))))))) ?_;refine Ln.app (sg (k:=5) (qaF (wd (by decide)) (qaF (qkZ _ h.every.1 h.every.2) (qaF (mkd (by decide)) qc3)))) ?_;refine Ln.app (sg (k:=6) (qaF (wd (by decide)) (qaF (mkd (by decide)) (qaF (qkZ _ h.over.1 h.over.2) (qaF (mkd (by decide)) qc3))))) ?_;refine Ln.app (sg (k:=7) (qaF (wd (by decide)) (qaF (qBW _ h.tax.1 h.tax.2) (qaF (mkd (by decide)) qc3)))) ?_;refine Ln.app (Ln.to (k:=10+p.cr.tiers.length) (zl6 h.cr (by decide) 8) (by omega)) ?_;refine Ln.app (Ln.to (k:=12+p.cr.tiers.length+p.de.tiers.length) (zl6 h.de (by decide) _) (by omega)) ?_;refine Ln.app (qIP (ok:=fun x=>zau x/\qcE x.name=true) (fun n x hx=>zlP hx.1 hx.2 n) p.fees _ fun x hx=>⟨h.fees x hx,hn.fees x hx⟩) ?_;refine Ln.app (qIP (ok:=fun x=>zcG x/\qcE x.name=true) (fun n x hx=>zhj hx.1 hx.2 n) p.rules _ fun x hx=>⟨h.rules x hx,hn.rules x hx⟩) ?_;exact sg (qaF (mkd (by decide)) qc3)
 have:=key [] rfl;rwa[jC6]at this
end Go.Tk
namespace Go.Tk
open Go Go.Eng
theorem qmQ(w:Bs)(n:Int)(x:In):(inT w n x).length=7+5*x.tiers.length:=by
 unfold inT lnT;simp only[jA2,jA5,jA0,jA4,qqf];omega
section
variable {exS:List Tok->Rs} (hS:∀l e r,exS l= .ok e r->r <:+ l/\(wrB e).length+r.length<=l.length)
include hS
end
theorem qFw:∀(ts:List Tr) (n:Int),∀t∈qcp n ts,n<=t.line/\t.line<n+ts.length
 | [],n,t,h=>by cases h
 |x::ts,n,t,h=>by
  rcases jAo.1 h with h|h
  ·have:=qbP n _ t h;simp only[jA0];omega
  ·have:=qFw ts (n+1) t h;simp only[jA0];omega
theorem zaC{w:Bs}{n:Int}{x:In}:∀t∈inT w n x,n<=t.line/\t.line<n+2+x.tiers.length:=by
 intro t h;rcases jAo.1 h with h|h
 ·have:=qbP n _ t h;omega
 ·rcases jAo.1 h with h|h
  ·have:=qFw _ _ t h;omega
  ·have:=qbP _ _ t h;omega
theorem qA3{α:Type}{g:Int->α->List Tok}(hg:∀n x,∀t∈g n x,t.line=n):∀(xs:List α) (n:Int),∀t∈qbY g n xs,n<=t.line/\t.line<n+xs.length
 | [],n,t,h=>by cases h
 |x::xs,n,t,h=>by
  rcases jAo.1 h with h|h
  ·have:=hg n x t h;simp only[jA0];omega
  ·have:=qA3 hg xs (n+1) t h;simp only[jA0];omega
theorem zlO(n:Int)(x:Fe):∀t∈feT n x,t.line=n:=qa6 (qbP n _) (qa6 (qk8 n _) (qa6 (qbP n _) (qa6 (qk8 n _) (qbP n _))))
theorem zmX(n:Int)(x:Ru):∀t∈ruT n x,t.line=n:=qa6 (qbP n _) (qa6 (qk8 n _) (qbP n _))
theorem q6L(civ:Int->Int×Int×Int)(p:Pr):∀t∈qd0 civ p,1<=t.line/\t.line<=12+p.cr.tiers.length+p.de.tiers.length+p.fees.length+p.rules.length:=by
 have sg:∀{k:Int} {xs:List (Int×Bs)},1<=k->k<=12+p.cr.tiers.length+p.de.tiers.length+p.fees.length+p.rules.length-> ∀t∈lnT k xs,1<=t.line/\t.line<=12+p.cr.tiers.length+p.de.tiers.length+p.fees.length+p.rules.length:=fun h1 h2 t ht=>by
  have:=qbP _ _ t ht;omega
 unfold qd0;refine qa6 (sg (by omega) (by omega)) (qa6 (sg (by omega) (by omega)) (qa6 (sg (by omega) (by omega)) (qa6 (sg (by omega) (by omega)) (qa6 (sg (by omega) (by omega)) (qa6 (sg (by omega) (by omega)) (qa6 (sg (by omega) (by omega)) (qa6 ?_ (qa6 ?_ (qa6 ?_ (qa6 ?_ (sg (by omega) (by omega))))))))))))
 ·intro t ht;have:=zaC t ht;omega
 ·intro t ht;have:=zaC t ht;omega
 ·intro t ht;have:=qA3 zlO _ _ t ht;omega
 ·intro t ht;have:=qA3 zmX _ _ t ht;omega
end Go.Tk
namespace Go.Tk
open Go Go.Eng
def qFN(c:Bs):Bool:=c.all (at8 fun x=>decide (x>=65)&&decide (x<=90))&&(c.length==3&& !qbO (qhm c))
def qjU(t:Tr):Bool:=decide (t.from_>=0)&&(decide (t.ppm>=0)&&decide (t.ppm<=1000000))
def qjT(n:Int)(k:Int):Bool:=decide (n>=1)&&decide (n<=k)
def qnq(x:In):Bool:=x.tiers.all qjU&&(qjT x.basis 4&&qjT x.mode 6)
def feB(x:Fe):Bool:=qcE x.name&&(qjT x.event 4&&(qaL x.when_==0&&qaL x.amount==0))
def ruB(x:Ru):Bool:=qcE x.name&&(qjT x.window 3&&qaL x.amount==0)
def qzM(p:Pr):Bool:=qFN p.cur&&(qcE p.name&&(qcE p.cal&&((decide (p.from_>=0)&&decide (p.from_<=73048))&&(decide (p.every>=0)&&(decide (p.over>=0)&&((decide (p.tax>=0)&&decide (p.tax<=1000000))&&(qnq p.cr&&(qnq p.de&&(p.fees.all feB&&p.rules.all ruB)))))))))
structure FitP (p:Pr):Prop where
 every:p.every<=9223372036854775807
 over:p.over<=9223372036854775807
 cr:∀t∈p.cr.tiers,t.from_<=9223372036854775807
 de:∀t∈p.de.tiers,t.from_<=9223372036854775807
theorem zcL{c:UInt8}(h:at8 (fun x=>decide (x>=65)&&decide (x<=90)) c=true):at8 (fun x=>decide (x>=97)&&decide (x<=122)) (c+32)=true/\c+32-32=c:=by
 unfold at8 at h ⊢;simp only[jA1,jA6]at h ⊢;have e:(c+32).toNat=c.toNat+32:=by
  rw[UInt8.toNat_add];have:(32:UInt8).toNat=32:=rfl;omega
 refine⟨by omega,by simp⟩
theorem qUz{c:Bs}(h:qFN c=true):qxP (qhm c)=some c/\qcE (qhm c)=true:=by
 unfold qFN at h;simp only[jA1,jB7,jB9]at h;obtain⟨h1,h2,h3⟩:=h;rw[jAb]at h1;have hl:(qhm c).length=3:=by unfold qhm;rw[jA5];exact h2
 have ha:(qhm c).all (at8 fun x=>decide (x>=97)&&decide (x<=122))=true:=by
  unfold qhm;rw[List.all_map,jAb];exact fun x hx=>(zcL (h1 x hx)).1
 constructor
 ·unfold qxP;rw[jAr ⟨hl,ha⟩];unfold qhm;rw[List.map_map]
  congr 1
  refine(jBr fun x hx=>?_).trans (List.map_id c);exact(zcL (h1 x hx)).2
 ·rw[qqm,h3];have ha':∀x∈qhm c,at8 qes x=true:=jAb.1 ha;cases hs:qhm c with
  |nil=>rw[hs]at hl;cases hl
  |cons x r=>
   rw[hs]at ha' hl;unfold qBa;simp only[Bool.not_false,jBt,jA1,jA6];refine⟨by omega,ha' x (by simp),jAb.2 fun y hy=>?_⟩;have:=ha' y hy;unfold at8 at this ⊢;unfold qcs;rw[this];rfl
theorem q7d{t:Tr}(h:qjU t=true)(hf:t.from_<=9223372036854775807):qjP t:=by
 unfold qjU at h;simp only[jA1,jA6]at h;exact⟨h.1,hf,h.2.1,h.2.2⟩
theorem zaD{x:In}(h:qnq x=true)(hf:∀t∈x.tiers,t.from_<=9223372036854775807):q55 x:=by
 unfold qnq qjT at h;simp only[jA1,jA6,jAb]at h;exact⟨fun t ht=>q7d (h.1 t ht) (hf t ht),h.2.1.1,h.2.1.2,h.2.2.1,h.2.2.2⟩
theorem qxl{p:Pr}(h:qzM p=true)(hf:FitP p):PrOk qc4 qiY p/\NmOk p:=by
 unfold qzM at h;simp only[jA1,jA6,jAb]at h;obtain⟨h1,h2,h3,h4,h5,h6,h7,h8,h9,h10,h11⟩:=h;obtain⟨r1,r2,r3⟩:=zfY h4.1 h4.2;constructor
 ·refine { cur:=(qUz h1).1,y0:=r1,m0:=r2,d0:=r3,day:=zfX h4.1 h4.2,every:=⟨h5,hf.every⟩,over:=⟨h6,hf.over⟩,tax:=h7,cr:=zaD h8 hf.cr,de:=zaD h9 hf.de,fees:=fun x hx=>?_,rules:=fun x hx=>?_ }
  ·have:=h10 x hx;unfold feB qjT at this;simp only[jA1,jA6,jB7]at this;exact⟨this.2.1.1,this.2.1.2,this.2.2.1,this.2.2.2⟩
  ·have:=h11 x hx;unfold ruB qjT at this;simp only[jA1,jA6,jB7]at this;exact⟨this.2.1.1,this.2.1.2,this.2.2⟩
 ·refine { name:=h2,cur:=(qUz h1).2,cal:=h3,fees:=fun x hx=>?_,rules:=fun x hx=>?_ }
  ·have:=h10 x hx;unfold feB at this;simp only[jA1]at this;exact this.1
  ·have:=h11 x hx;unfold ruB at this;simp only[jA1]at this;exact this.1
noncomputable def qjl(p:Pr):Bs×Int:=bif qzM p then qnr qaS (qd0 qc4 p)else([],1)
section
variable {exS:List Tok->Rs} (hE:∀(n:Int) (e:Ex) (rest:List Tok),qaL e=0->stopL 0 rest->exS (exT n e++rest)= .ok e rest)
include hE
end
theorem qUj(civ:Int->Int×Int×Int)(p:Pr):p.cr.tiers.length+p.de.tiers.length+p.fees.length+p.rules.length<=(qd0 civ p).length:=by
 have hfee:∀(n:Int) (x:Fe),1<=(feT n x).length:=fun n x=>by simp only[feT,lnT,jA2,jA5,jA0];omega
 have hrul:∀(n:Int) (x:Ru),1<=(ruT n x).length:=fun n x=>by simp only[ruT,lnT,jA2,jA5,jA0];omega
 have h1:=qkt hfee p.fees (12+p.cr.tiers.length+p.de.tiers.length);have h2:=qkt hrul p.rules (12+p.cr.tiers.length+p.de.tiers.length+p.fees.length);simp only[qd0,jA2,qmQ];omega
theorem zcE{p:Pr}(h:PrOk qc4 qiY p)(hn:NmOk p)(hl:(qd0 qc4 p).length<=1000000):q5b (qd0 qc4 p)=true:=by
 have hc:=qJP (qMW h hn);have hb:=qUj qc4 p;unfold q5b;simp only[jA1,jA6,jAb];refine⟨hl,fun t ht=>?_⟩;have h1:=(qey (hc t ht)).1;have h2:=q6L qc4 p t ht;omega
theorem qA2{α:Type}{g:Int->α->List Tok}{B:Nat}:∀(xs:List α) (n:Int),(∀x∈xs,∀n,(g n x).length<=B)->(qbY g n xs).length<=xs.length*B
 | [],_,_=>by simp[qbY]
 |x::xs,n,h=>by
  have h1:=h x (by simp) n;have h2:=qA2 xs (n+1) fun y hy=>h y (by simp[hy])
  rw[qbY,jA2,jA0,jBe];omega
theorem qU2(n:Int){e:Ex}(h:qaL e=0):(exT n e).length<=320:=by
 have:=qiG e;have:=(qiF h).1;unfold exT;rw[jA5];omega
theorem qMX{p:Pr}(h:PrOk qc4 qiY p)(h1:p.cr.tiers.length<=20)(h2:p.de.tiers.length<=20)(h3:p.fees.length<=10)(h4:p.rules.length<=10):(qd0 qc4 p).length<=1000000:=by
 have f1:=qA2 (g:=feT) (B:=1000) p.fees (12+p.cr.tiers.length+p.de.tiers.length) fun x hx n=>by
  obtain⟨_,_,a,b⟩:=h.fees x hx;have:=qU2 n a;have:=qU2 n b;simp only[feT,lnT,jA2,jA5,jA0,jA4];omega
 have f2:=qA2 (g:=ruT) (B:=1000) p.rules (12+p.cr.tiers.length+p.de.tiers.length+p.fees.length) fun x hx n=>by
  obtain⟨_,_,a⟩:=h.rules x hx;have:=qU2 n a;simp only[ruT,lnT,jA2,jA5,jA0,jA4];omega
 simp only[qd0,jA2,qmQ];simp only[lnT,jA5,jA0,jA4];omega
end Go.Tk
namespace Go.Tk
open Go Go.Eng
inductive PS where
 |good (l:List Tok)
 |bad (q:List Tok) (e k:Int)
def PS.Ok(T:List Tok):PS->Prop
 | .good l=>l <:+ T
 | .bad q e _=>e≠0/\q <:+ T
def Does{α β:Type}(T:List Tok)(z:List Tok->Pz α)(V:α->β->Prop)(s:PS)(v:β)(s':PS):Prop:=s'.Ok T/\match s with
 | .good l=>(match z l with
  | .ok a r=>V a v/\s'= .good r
  | .bad q e=>∃k,s'= .bad q e k)
 | .bad q e _=>∃k,s'= .bad q e k
def Stuck(s s':PS):Prop:=∀q e k,s= .bad q e k-> ∃k',s'= .bad q e k'
theorem Stuck.refl(s:PS):Stuck s s:=fun q e k h=>⟨k,h⟩
theorem Stuck.trans{s t u:PS}(h:Stuck s t)(g:Stuck t u):Stuck s u:=fun q e k hs=>by
 obtain⟨k',h'⟩:=h q e k hs;exact g q e k' h'
section
variable {α β γ δ:Type} {T:List Tok} {z:List Tok->Pz α} {V:α->β->Prop} {s s1 s2:PS} {v:β} {g:α->List Tok->Pz γ} {W:γ->δ->Prop} {w:δ}
theorem Does.ok(h:Does T z V s v s1):s1.Ok T:=h.1
theorem Does.bnd(h:Does T z V s v s1)(hk:Stuck s1 s2)(ho:s2.Ok T)(hg:∀a,V a v->Does T (g a) W s1 w s2):Does T (fun l=>(z l).bnd g) W s w s2:=by
 refine⟨ho,?_⟩;obtain⟨h1,h2⟩:=h;cases s with
 |bad q e k=>
  obtain⟨k1,rfl⟩:=h2;exact hk q e k1 rfl
 |good l=>
  simp only at h2 ⊢;cases hz:z l with
  |bad q e=>
   rw[hz]at h2;obtain⟨k1,rfl⟩:=h2;exact hk q e k1 rfl
  |ok a r=>
   rw[hz]at h2;obtain⟨hv,rfl⟩:=h2;exact(hg a hv).2
theorem Does.pure{b:γ}(h:s.Ok T)(hw:W b w):Does T (fun l=>.ok b l) W s w s:=by
 refine⟨h,?_⟩;cases s with
 |good l=>exact⟨hw,rfl⟩
 |bad q e k=>exact⟨k,rfl⟩
theorem Does.map(h:Does T z V s v s1){f:α->γ}(hw:∀a,V a v->W (f a) w):Does T (fun l=>(z l).bnd fun a r=>.ok (f a) r) W s w s1:=h.bnd (Stuck.refl _) h.1 fun a ha=>Does.pure h.1 (hw a ha)
theorem Does.congr{z':List Tok->Pz α}(h:Does T z V s v s1)(hz:∀l,s= .good l->z l=z' l):Does T z' V s v s1:=by
 refine⟨h.1,?_⟩;have h2:=h.2;cases s with
 |bad q e k=>exact h2
 |good l=>
  simp only at h2 ⊢;rw[<-hz l rfl];exact h2
theorem Does.good{l:List Tok}(ho:s1.Ok T)(h:match z l with
  | .ok a r=>V a v/\s1= .good r
  | .bad q e=>∃k,s1= .bad q e k):Does T z V (.good l) v s1:=⟨ho,h⟩
theorem Does.bad{q:List Tok}{e k:Int}(h:s.Ok T)(hs:s= .bad q e k):Does T z V s v s:=by
 subst hs;exact⟨h,k,rfl⟩
end
end Go.Tk
namespace Go.Tk
open Go Go.Eng
theorem qUb{p:UInt8->Bool}(h:((List.range 256).all fun n=>p (UInt8.ofNat n))=true)(c:UInt8):p c=true:=by
 have:=jAb.1 h c.toNat (jBq.2 c.toNat_lt);simpa using this
theorem zmf(c:UInt8):(!at8 (fun x=>decide (x>=65)&&decide (x<=90)) c||(decide (c.toNat<128)&&(Lib.lowerB c==c+32)))=true:=qUb (p:=fun c=>!at8 (fun x=>decide (x>=65)&&decide (x<=90)) c||(decide (c.toNat<128)&&(Lib.lowerB c==c+32))) (by decide +kernel) c
theorem any_cons(b:UInt8)(l L:Bs):Lib.containsAny (b::l) L=(L.contains b||Lib.containsAny l L):=by
 have hge:=Lib.indexAny_ge L l;have e:Lib.indexAny (b::l) L=if L.contains b then 0 else if Lib.indexAny l L== -1 then -1 else Lib.indexAny l L+1:=rfl
 unfold Lib.containsAny;rw[jC7,jAv,jA6,jA6,e];by_cases hb:L.contains b=true
 ·rw[jAr hb];exact⟨fun _=>.inl hb,fun _=>by omega⟩
 ·rw[jAm hb];by_cases hi:(Lib.indexAny l L== -1)=true
  ·rw[jAr hi];have:Lib.indexAny l L= -1:=by simpa using hi
   exact⟨fun h=>by omega,fun h=>h.elim (fun h=>absurd h hb) fun h=>by omega⟩
  ·rw[jAm hi];have:Lib.indexAny l L≠ -1:=by simpa using hi
   exact⟨fun _=>.inr (by omega),fun h=>h.elim (fun h=>absurd h hb) fun h=>by omega⟩
theorem qXi:∀{s:Bs},s.all (at8 fun x=>decide (x>=65)&&decide (x<=90))=true->Lib.toLowerA s=qhm s/\qDg s=true
 | [],_=>⟨rfl,rfl⟩
 |c::s,h=>by
  simp only[jAw,jA1]at h;have h1:=zmf c;rw[h.1]at h1;simp only[Bool.not_true,Bool.false_or,jA1,jA6,jB7]at h1;obtain⟨h2,h3⟩:=qXi h.2;constructor
  ·unfold Lib.toLowerA qhm at h2 ⊢;rw[jAs,jAs,h2,h1.2]
  ·unfold qDg at h3 ⊢;rw[jAw,h3,jA8 h1.1];rfl
end Go.Tk
namespace Go.Proofs.H16
open Go Go.Eng Go.Tk
set_option maxRecDepth 20000
section
variable {T:List Tok}
theorem qec:qhG=some (ES qd3):=by rw[qNX,qrs];rfl
theorem qed:qhH=some (ES qd7):=by rw[qNY,qrt];rfl
theorem qhi:qqx=some (ES eventsL):=by rw[qVZ,qCY];rfl
theorem qcW:ql5=some (ES windowsL):=by rw[qVX,qCV];rfl
end
end Go.Proofs.H16

/- Bounds of what is read, and of what is joined. -/
import Derived.Test.YtjhhnkemeegahaaGreatDoorX16Tok
import Derived.Test.YtjhhnkemeegahaaGreatDoorTkA
import Derived.Test.YtjhhnkemeegahaaGreatDoorPsD
import Derived.Test.YtjhhnkemeegahaaGreatDoorPsA
import Derived.Lib.Case
import Derived.Lib.IndexAny
import Derived.Test.YtjhhnkemeegahaaGreatDoorE4
import Derived.Test.YtjhhnkemeegahaaGreatDoorE3
set_option linter.all false
namespace Go.Tk
open Go Go.Eng
def InR(a b x:Int):Prop:=a<=x/\x<=b
theorem zjC:∀(k:Nat) (s:Bs) (line:Int),s.length<=k->(rdT s line).1.length<=s.length/\(∀t∈(rdT s line).1,InR line (line+s.length) t.line)/\((rdT s line).2.2≠0->InR line (line+s.length) (rdT s line).2.1):=by
 intro k
 induction k with
 |zero=>
  intro s line h;have:s= []:=jAy.1 (by omega);subst this;exact⟨jAj _,(fun t ht=>nomatch ht),fun h=>absurd rfl h⟩
 |succ k ih=>
  intro s line h;rw[qeW];have hc:((s.take (blk false s)).count 10)<=(s.take (blk false s)).length:=List.count_le_length;have hsum:=congrArg List.length (jCc (blk false s) s);rw[jA2]at hsum;have h0:0<=(((s.take (blk false s)).count 10:Nat):Int):=Int.natCast_nonneg _;generalize ((s.take (blk false s)).count 10)=c10 at hc h0 ⊢;cases hx:s.drop (blk false s)with
  |nil=>exact⟨jBa _,(fun t ht=>nomatch ht),fun h=>absurd rfl h⟩
  |cons c r=>
   rw[hx]at hsum;simp only[jA0]at hsum;simp only[stepT];cases he:((qay (c::r)).2.2 != 0)
   ·have he0:(qay (c::r)).2.2=0:=by simpa using he
    have hp:=jCp.2 (qcx he0).1;have hdl:((c::r).drop (qay (c::r)).2.1.length).length+1<=r.length+1:=by simp only[jB0,jA0];omega
    obtain⟨i1,i2,i3⟩:=ih ((c::r).drop (qay (c::r)).2.1.length) (line+(c10:Int)) (by omega);simp only[jA9,qqa];generalize rdT ((c::r).drop (qay (c::r)).2.1.length) (line+(c10:Int))=q at i1 i2 i3;cases hz:(q.2.2 != 0)
    ·refine⟨by simp only[jA9,jA0];omega,fun t ht=>?_,fun hq=>?_⟩
     ·simp only[jA9,jAc]at ht;rcases ht with rfl|ht
      ·exact⟨by show line<=line+(c10:Int);omega,by show line+(c10:Int)<=_;omega⟩
      ·have:=i2 t ht;exact⟨by have:=this.1;omega,by have:=this.2;omega⟩
     ·rw[jA9]at hq;rw[bne_eq_false_iff_eq]at hz;exact absurd hz hq
    ·refine⟨by simp only[jAa];omega,fun t ht=>?_,fun hq=>?_⟩
     ·have:=i2 t ht;exact⟨by have:=this.1;omega,by have:=this.2;omega⟩
     ·have:=i3 hq;exact⟨by have:=this.1;simp only[jAa];omega,by have:=this.2;simp only[jAa];omega⟩
   ·exact⟨jBa _,(fun t ht=>nomatch ht),fun _=>⟨by show line<=line+(c10:Int);omega,by show line+(c10:Int)<=_;omega⟩⟩
theorem qWX:∀{l:List Tok} {i:Nat} {n:Int} {k:Nat},okJ i n k l=true->k<=2048->k+(qwF i n l).length<=2048
 | [],_,_,_,_,hk=>by simpa[qwF]using hk
 |t::l,i,n,k,h,hk=>by
  simp only[okJ,jA1,jA6]at h;have:=qWX h.2.2 h.2.1;simp only[qwF,jA2];omega
theorem qyA{s:Bs}(h:¬s.length<=2048):qbp s=([],0,5):=by
 unfold qbp;rw[jA8 (by omega)];rfl
theorem qIY{V:Tok->Bool}:∀{l:List Tok} {n:Int},qlV V n l=true-> ∀t∈l,V t=true
 | [],_,_,t,ht=>by cases ht
 |x::l,n,h,t,ht=>by
  simp only[qlV,jA1,jA6]at h;rcases jAc.1 ht with rfl|ht
  ·exact h.1
  ·exact qIY h.2.2 t ht
end Go.Tk
namespace Go.Tk
open Go Go.Eng
theorem qyx{s:Bs}(n:Int)(h:qc4 s=true):qaT ⟨1,n,s⟩=true:=by
 unfold qc4 at h;unfold qaT;simp only[jA1,jB7]at h ⊢;refine⟨h.1,h.2.1,?_⟩;have h3:=h.2.2;cases hl:(qbp s).1 with
 |nil=>rw[hl]at h3;cases h3
 |cons t l=>
  rw[hl]at h3;simpa using h3
theorem qyF:∀w∈wordsS,qay w=(5,w,0)/\w.length<=2048:=by decide +kernel
theorem qWA:∀w∈marksS,w.length<=2048:=by decide
theorem qlM{s:Bs}(n:Int)(h:qbT s=true):qaT ⟨5,n,s⟩=true:=by
 unfold qbT has at h;rw[List.any_eq_true]at h;obtain⟨w,hw,he⟩:=h;rw[jB7]at he;subst he;exact qnL (qyF _ hw).1 (qyF _ hw).2
theorem zbN{s:Bs}(n:Int)(h:s∈marksS):qaT ⟨4,n,s⟩=true:=qnL (qx4 s h) (qWA s h)
theorem qGd{c:UInt8}(h:at8 qbh c=true):at8 qcM c=true:=by
 unfold at8 at h ⊢;unfold qcM qco;rw[h];simp
theorem zeK{c:UInt8}(h:at8 qbh c=true):at8 qei c=false:=by
 unfold at8 qbh at h;unfold at8 qei;simp only[jA1,jA6]at h;rw[jAe (by omega)];rfl
theorem qLO{s:Bs}(hd:∃c r,s=c::r/\at8 qbh c=true)(ha:s.all (at8 qcM)=true):qay s=qAc s:=by
 obtain⟨c,r,rfl,hc⟩:=hd;have e:(c::r).takeWhile (at8 qcM)=c::r:=qlN.2 ha;unfold qay;simp only[zeK hc,hc,e,jA9,jAa]
theorem q5g{v:Int}(h0:0<=v)(h1:v<=9223372036854775807):(Lib.itoa v).length<=19:=by
 have hn:=qh6 h0 h1;unfold qj9 at hn;cases hg:qg5 (Lib.itoa v)
 ·unfold qg5 at hg;simp only[jB6,jBl]at hg;omega
 ·rw[hg]at hn;simp at hn
theorem qkC{v:Int}(n:Int)(h0:0<=v)(h1:v<=9223372036854775807):qaT ⟨2,n,Lib.itoa v⟩=true:=by
 have hl:=q5g h0 h1;have hn:=qh6 h0 h1;unfold qj9 at hn;cases hi:qgR (Lib.itoa v)
 ·rw[hi]at hn;cases hn
 cases hg:qg5 (Lib.itoa v)
 ·obtain⟨a1,a2,a3⟩:=qbb.1 hi;refine qnL ?_ (by show(Lib.itoa v).length<=2048;omega);show qay (Lib.itoa v)=_;rw[qLO ?_ (jAb.2 fun c hc=>qGd (jAb.1 a1 c hc))]
  ·unfold qAc;rw[hi,qzz hi,hg];rfl
  ·cases hs:Lib.itoa v with
   |nil=>exact absurd hs a2
   |cons c r=>
    rw[hs]at a1;simp only[jAw,jA1]at a1;exact⟨c,r,rfl,a1.1⟩
 ·rw[hi,hg]at hn;cases hn
theorem q5N(n:Nat):(qiu n).all (at8 qcM)=true/\(∃c r,qiu n=c::r/\at8 qbh c=true)/\qgR (qiu n)=false:=by
 obtain⟨i1,_,_⟩:=qhS (n / 10000) (n / 10000) (jAj _);obtain⟨a1,a2,_⟩:=qbb.1 i1;refine⟨?_,?_,?_⟩
 ·unfold qiu;rw[jCk,jCk,jA1,jA1];refine⟨jAb.2 fun c hc=>qGd (jAb.1 a1 c hc),?_,by decide⟩;unfold qdl;cases hp:(Lib.trimRightB (four (n%10000)) 48 != [])
  ·rfl
  ·rw[jAa,jAw,jA1];refine⟨by decide,?_⟩;refine jAb.2 fun c hc=>qGd ?_
   exact jAb.1 (qkE (m:=n%10000) (Nat.mod_lt _ (by decide))).1 c hc
 ·unfold qiu;cases hs:Lib.decDigits (n / 10000)with
  |nil=>exact absurd hs a2
  |cons c r=>
   rw[hs]at a1;simp only[jAw,jA1]at a1;exact⟨c,_,rfl,a1.1⟩
 ·cases hi:qgR (qiu n)
  ·rfl
  ·have:=(qbb.1 hi).1;have h37:(37:UInt8)∈qiu n:=by unfold qiu;simp
   have:=jAb.1 this 37 h37;revert this;decide
theorem q5O{n:Nat}(h:n<=1000000):(qiu n).length<=100:=by
 have t2:=(qkE (m:=n%10000) (Nat.mod_lt _ (by decide))).2.1;have hlen:(Lib.decDigits (n / 10000)).length<=3:=by
  rw[Lib.decDigits_length];have h1:n / 10000<=100:=by omega
  rcases jCb (n / 10000) 10 with h2|h2
  ·rw[Lib.nDigits_small h2];omega
  ·rw[Lib.nDigits_big (by omega)];rcases jCb (n / 10000 / 10) 10 with h3|h3
   ·rw[Lib.nDigits_small h3];omega
   ·rw[Lib.nDigits_big (by omega),Lib.nDigits_small (by omega)];omega
 unfold qiu qdl;simp only[jA2];cases(Lib.trimRightB (four (n%10000)) 48 != [])<;>simp only[jAa,jA9,jA0,jA4]<;>omega
theorem qAV{v:Int}(n:Int)(h0:0<=v)(h1:v<=1000000):qaT ⟨3,n,qiu v.toNat⟩=true:=by
 obtain⟨p1,p2,p3⟩:=q5N v.toNat;refine qnL ?_ (by have:=q5O (n:=v.toNat) (by omega);show(qiu v.toNat).length<=2048;omega);show qay (qiu v.toNat)=_;rw[qLO p2 p1];unfold qAc;rw[p3,qAs (by omega)];rfl
theorem qqf{s:Bs}(n:Int)(h:qbT s=true\/(qbT s=false/\s∈marksS)):qaT ⟨qcC s,n,s⟩=true:=by
 unfold qcC;rcases h with h|⟨h,h2⟩
 ·rw[h];exact qlM n h
 ·rw[h];exact zbN n h2
theorem qa8{α:Type}{P:α->Prop}{a b:List α}(ha:∀x∈a,P x)(hb:∀x∈b,P x):∀x∈a++b,P x:=by
 intro x hx;rcases jAo.1 hx with h|h
 ·exact ha x h
 ·exact hb x h
theorem all_cons{α:Type}{P:α->Prop}{a:α}{b:List α}(ha:P a)(hb:∀x∈b,P x):∀x∈a::b,P x:=by
 intro x hx;rcases jAc.1 hx with rfl|h
 ·exact ha
 ·exact hb x h
theorem qn2{α:Type}{P:α->Prop}{a:α}(ha:P a):∀x∈ [a],P x:=all_cons ha fun _ h=>nomatch h
abbrev qqj(t:Tok):Prop:=qaT t=true
theorem qH6{r:Nat}{e:Ex}(h:∀t∈wrB e,qqj t):∀t∈par r e,qqj t:=by
 unfold Tk.par qPQ;split
 ·exact all_cons (qqf 1 (.inr ⟨by decide,by decide⟩)) (qa8 h (qn2 (qqf 1 (.inr ⟨by decide,by decide⟩))))
 ·exact h
theorem q6g(op:Int):qqj (wT (qeT op)):=by
 refine qqf 1 ?_;unfold qeT
 repeat' split
 all_goals decide
theorem zfs(o:Int):qhE o<=9223372036854775807:=by
 unfold qhE
 repeat' split
 all_goals omega
theorem zm1:∀e:Ex,e.allX qaN=true->e.allX qbw=true-> ∀t∈wrB e,qqj t:=by
 intro e
 induction e using Ex.ind with
 |h o n s l ih=>
  intro hf hn;rw[Ex.allX_eq,jA1,jAb]at hf hn;obtain⟨hop,hn0,hn1,htx⟩:=qgx hf.1;have iha:∀x∈l,∀t∈wrB x,qqj t:=fun x hx=>ih x hx (hf.2 x hx) (hn.2 x hx)
  simp only[Ex.op,Ex.args,Ex.num,Ex.txt]at hop hn0 hn1 htx
  match l,hop,iha with
  | [],hop,iha=>
   rw[qc3 rfl];simp only[Ex.op,Ex.num,Ex.txt];have hm:=zfs o;unfold qDz;split
   ·exact qn2 (qkC 1 hn0 (by omega))
   ·split
    ·exact all_cons (qqf 1 (.inr ⟨by decide,by decide⟩)) (qn2 (qkC 1 hn0 (by omega)))
    ·split
     ·rename_i h1 h2 h3;refine qn2 (qAV 1 hn0 ?_);have:qhE o=1000000:=by rw[h3];rfl
      omega
     ·rename_i h1 h2 h3;have h4:o=4:=by
       unfold qaR at hop;split at hop
       ·omega
       ·split at hop
        ·cases hop
        ·split at hop
         ·cases hop
         ·split at hop<;>cases hop
      have hv:qc4 s=true:=by
       have:=hn.1;simp only[qbw,Ex.op,Ex.txt,h4]at this;simpa using this
      exact qn2 (qyx 1 hv)
  | [a],hop,iha=>
   rw[qlO rfl];refine all_cons ?_ (qH6 (iha a (by simp)));refine qqf 1 ?_;split<;>decide
  | [a,b],hop,iha=>
   by_cases h:o=17\/o=18
   ·rw[qjo (e:=.mk o n s [a,b]) rfl h];simp only[Ex.op];refine all_cons ?_ (all_cons (qqf 1 (.inr ⟨by decide,by decide⟩)) (qa8 (iha a (by simp)) (all_cons (qqf 1 (.inr ⟨by decide,by decide⟩)) (qa8 (iha b (by simp)) (qn2 (qqf 1 (.inr ⟨by decide,by decide⟩)))))));refine qqf 1 ?_;rcases h with rfl|rfl<;>exact .inl rfl
   ·rw[qnX (e:=.mk o n s [a,b]) rfl (fun h'=>h (.inl h')) (fun h'=>h (.inr h'))];exact qa8 (qH6 (iha a (by simp))) (all_cons (q6g _) (qH6 (iha b (by simp))))
  |a::b::c::m,hop,iha=>
   rw[qII rfl];exact all_cons (qqf 1 (.inl (by decide))) (qa8 (iha a (by simp)) (all_cons (qqf 1 (.inl (by decide))) (qa8 (iha b (by simp)) (all_cons (qqf 1 (.inl (by decide))) (iha c (by simp))))))
theorem qGl(n:Int){e:Ex}(h:qaO e=0):∀t∈exT n e,qqj t:=by
 obtain⟨_,_,h1,h2⟩:=qkF h;intro t ht;obtain⟨u,hu,rfl⟩:=jCd.1 ht;exact zm1 e h1 h2 u hu
def Ln(n:Int)(l:List Tok)(m:Int):Prop:=∀b,qlV qaT m b=true->qlV qaT n (l++b)=true
theorem qy9{n n':Int}{b:List Tok}(h:n'<=n)(hb:qlV qaT n b=true):qlV qaT n' b=true:=by
 cases b with
 |nil=>rfl
 |cons t b=>
  simp only[qlV,jA1,jA6]at hb ⊢;exact⟨hb.1,by omega,hb.2.2⟩
theorem Ln.seg{k m:Int}:∀{a:List Tok} {n:Int},(∀t∈a,qqj t)->(∀t∈a,t.line=k)->n<=k->k<=m->Ln n a m
 | [],n,_,_,h1,h2=>fun b hb=>qy9 (by omega) hb
 |t::a,n,hv,hl,h1,h2=>fun b hb=>by
  have ih:=Ln.seg (a:=a) (n:=k) (fun x hx=>hv x (by simp[hx])) (fun x hx=>hl x (by simp[hx])) (Int.le_refl k) h2 b hb;have h3:=hl t (by simp);rw[jAk,qlV,hv t (by simp),h3,jA8 h1];simpa using ih
theorem Ln.app{n m k:Int}{a b:List Tok}(h1:Ln n a m)(h2:Ln m b k):Ln n (a++b) k:=fun c hc=>by
 rw[jAf];exact h1 _ (h2 _ hc)
theorem Ln.to{n m k:Int}{a:List Tok}(h:Ln n a m)(e:m=k):Ln n a k:=e▸h
theorem qbN(m:Int)(l:List (Int×Bs)):∀t∈lnT m l,t.line=m:=by
 intro t ht;obtain⟨x,_,rfl⟩:=jCd.1 ht;rfl
theorem qkJ(m:Int)(e:Ex):∀t∈exT m e,t.line=m:=by
 intro t ht;obtain⟨x,_,rfl⟩:=jCd.1 ht;rfl
theorem qcX{n:Int}:∀t∈lnT n [],qqj t:=fun _ h=>nomatch h
theorem qaG{n k:Int}{s:Bs}{l:List (Int×Bs)}(h:qqj ⟨k,n,s⟩)(hl:∀t∈lnT n l,qqj t):∀t∈lnT n ((k,s)::l),qqj t:=all_cons h hl
theorem mkd{n:Int}{s:Bs}(h:decide (s∈marksS)=true):qqj ⟨4,n,s⟩:=zbN n (jBd h)
theorem zg4{t:Tr}(h:qkB t)(n:Int):Ln n (qpC n t) (n+1):=
 Ln.seg (qaG (mkd (by decide)) (qaG (qkC n h.1 h.2.1) (qaG (mkd (by decide)) (qaG (qAV n h.2.2.1 h.2.2.2) (qaG (mkd (by decide)) qcX))))) (qbN n _) (Int.le_refl n) (by omega)
theorem qMm:∀(ts:List Tr) (n:Int),(∀t∈ts,qkB t)->Ln n (qcU n ts) (n+ts.length)
 | [],n,_=>fun b hb=>qy9 (by simp) hb
 |t::ts,n,h=>((zg4 (h t (by simp)) n).app (qMm ts (n+1) fun x hx=>h x (by simp[hx]))).to (by simp only[jA0];omega)
theorem qLR{ws:List Bs}(hw:∀w∈ws,qbT w=true){b:Int}(h1:1<=b)(h2:b<=ws.length)(n:Int):qqj ⟨5,n,qwu ws b⟩:=by
 have hlt:(b-1).toNat<ws.length:=by omega
 refine qlM n ?_;unfold qwu;rw[jAh hlt];exact hw _ (jAi hlt)
theorem zlh{x:In}(h:q9G x){w:Bs}(hw:qbT w=true)(n:Int):Ln n (inT w n x) (n+2+x.tiers.length):=by
 obtain⟨h1,h2,h3,h4,h5⟩:=h;refine Ln.app (m:=n+1) (Ln.seg (k:=n) ?_ (qbN n _) (Int.le_refl n) (by omega)) (Ln.app (qMm x.tiers (n+1) h1) (Ln.seg (k:=n+1+x.tiers.length) (qaG (mkd (by decide)) qcX) (qbN _ _) (Int.le_refl _) (by omega)));refine qaG (qlM n hw) (qaG ?_ (qaG (qLR (ws:=qgj) (by decide) h2 h3 n) (qaG (qLR (ws:=qgE) (by decide) h4 h5 n) (qaG ?_ (qaG (mkd (by decide)) qcX)))))
 ·cases x.marg<;>exact qlM n (by decide)
 ·cases x.keep<;>exact qlM n (by decide)
theorem qHW{α:Type}{g:Int->α->List Tok}{ok:α->Prop}(hg:∀n x,ok x->Ln n (g n x) (n+1)):∀(xs:List α) (n:Int),(∀x∈xs,ok x)->Ln n (qcB g n xs) (n+xs.length)
 | [],n,_=>fun b hb=>qy9 (by simp) hb
 |x::xs,n,h=>((hg n x (h x (by simp))).app (qHW hg xs (n+1) fun y hy=>h y (by simp[hy]))).to (by simp only[jA0];omega)
theorem zk0{x:Fe}(h:zeW x)(hn:qc4 x.name=true)(n:Int):Ln n (feT n x) (n+1):=by
 obtain⟨h1,h2,h3,h4⟩:=h;refine Ln.seg (k:=n) ?_ ?_ (Int.le_refl n) (by omega)
 ·exact qa8 (qaG (qlM n (by decide)) (qaG (qyx n hn) (qaG (qLR (ws:=qdh) (by decide) h1 h2 n) (qaG (qlM n (by decide)) qcX)))) (qa8 (qGl n h3) (qa8 (qaG (qlM n (by decide)) qcX) (qa8 (qGl n h4) (qaG (mkd (by decide)) qcX))))
 ·exact qa8 (qbN n _) (qa8 (qkJ n _) (qa8 (qbN n _) (qa8 (qkJ n _) (qbN n _))))
theorem zfZ{x:Ru}(h:zfY x)(hn:qc4 x.name=true)(n:Int):Ln n (ruT n x) (n+1):=by
 obtain⟨h1,h2,h3⟩:=h;refine Ln.seg (k:=n) ?_ ?_ (Int.le_refl n) (by omega)
 ·exact qa8 (qaG (qlM n (by decide)) (qaG (qyx n hn) (qaG (qLR (ws:=qck) (by decide) h1 h2 n) qcX))) (qa8 (qGl n h3) (qaG (mkd (by decide)) qcX))
 ·exact qa8 (qbN n _) (qa8 (qkJ n _) (qbN n _))
structure NmOk (p:Pr):Prop where
 name:qc4 p.name=true
 cur:qc4 (qpX p.cur)=true
 cal:qc4 p.cal=true
 fees:∀x∈p.fees,qc4 x.name=true
 rules:∀x∈p.rules,qc4 x.name=true
theorem qL5{civ:Int->Int×Int×Int}{day:Int->Int->Int->Option Int}{p:Pr}(h:PrOk civ day p)(hn:NmOk p):qlV qaT 1 (qdS civ p)=true:=by
 have wd:∀{n:Int} {s:Bs},decide (qbT s=true)=true->qqj ⟨5,n,s⟩:=fun hw=>qlM _ (jBd hw)
 have sg:∀{k:Int} {xs:List (Int×Bs)},(∀t∈lnT k xs,qqj t)->Ln k (lnT k xs) (k+1):=fun hx=>Ln.seg hx (qbN _ _) (Int.le_refl _) (by omega)
 have key:Ln 1 (qdS civ p) (12+p.cr.tiers.length+p.de.tiers.length+p.fees.length+p.rules.length+1):=by
  unfold qdS;refine Ln.app (sg (qaG (wd (by decide)) (qaG (qyx _ hn.name) (qaG (mkd (by decide)) qcX)))) ?_;refine Ln.app (sg (k:=2) (qaG (wd (by decide)) (qaG (qyx _ hn.cur) (qaG (mkd (by decide)) qcX)))) ?_;refine Ln.app (sg (k:=3) (qaG (wd (by decide)) (qaG (qyx _ hn.cal) (qaG (mkd (by decide)) qcX)))) ?_;refine Ln.app (sg (k:=4) (qaG (wd (by decide)) (qaG (qkC _ h.y0.1 h.y0.2) (qaG (mkd (by decide)) (qaG (qkC _ h.m0.1 h.m0.2) (qaG (mkd (by decide)) (qaG (qkC _ h.d0.1 h.d0.2) (qaG (mkd (by decide)) qcX)))))))) ?_;refine Ln.app (sg (k:=5) (qaG (wd (by decide)) (qaG (qkC _ h.every.1 h.every.2) (qaG (mkd (by decide)) qcX)))) ?_;refine Ln.app (sg (k:=6) (qaG (wd (by decide)) (qaG (mkd (by decide)) (qaG (qkC _ h.over.1 h.over.2) (qaG (mkd (by decide)) qcX))))) ?_;refine Ln.app (sg (k:=7) (qaG (wd (by decide)) (qaG (qAV _ h.tax.1 h.tax.2) (qaG (mkd (by decide)) qcX)))) ?_;refine Ln.app (Ln.to (k:=10+p.cr.tiers.length) (zlh h.cr (by decide) 8) (by omega)) ?_;refine Ln.app (Ln.to (k:=12+p.cr.tiers.length+p.de.tiers.length) (zlh h.de (by decide) _) (by omega)) ?_;refine Ln.app (qHW (ok:=fun x=>zeW x/\qc4 x.name=true) (fun n x hx=>zk0 hx.1 hx.2 n) p.fees _ fun x hx=>⟨h.fees x hx,hn.fees x hx⟩) ?_;refine Ln.app (qHW (ok:=fun x=>zfY x/\qc4 x.name=true) (fun n x hx=>zfZ hx.1 hx.2 n) p.rules _ fun x hx=>⟨h.rules x hx,hn.rules x hx⟩) ?_;exact sg (qaG (mkd (by decide)) qcX)
 have:=key [] rfl;rwa[jC6]at this
end Go.Tk
namespace Go.Tk
open Go Go.Eng
structure RdOk (l r:List Tok) (k:Nat):Prop where
 sfx:r <:+ l
 len:k+r.length<=l.length
theorem RdOk.refl(l:List Tok):RdOk l l 0:=⟨jCa l,by omega⟩
theorem RdOk.app{l r s:List Tok}{a b c:Nat}(h:RdOk l r a)(g:RdOk r s b)(e:c<=a+b):RdOk l s c:=⟨g.sfx.trans h.sfx,by have:=h.len;have:=g.len;omega⟩
theorem RdOk.oks{l r:List Tok}{a:Nat}(h:RdOk l r a)(hl:∀t∈l,qqj t):∀t∈r,qqj t:=fun t ht=>hl t (h.sfx.subset ht)
theorem qIb(t:Tok)(l:List Tok):RdOk (t::l) l 1:=⟨jCr t l,by simp only[jA0];omega⟩
theorem q52{s:Bs}{l:List Tok}(h:isW s l=true):RdOk l l.tail 1:=⟨(qpE h).1,by have:=(qpE h).2;omega⟩
theorem qdq{s:Bs}{l r:List Tok}{u:Unit}(h:qc2 s l= .ok u r):RdOk l r 1:=by
 unfold qc2 at h;cases hw:isW s l
 ·rw[hw]at h;cases h
 ·rw[hw]at h;cases h;exact q52 hw
theorem qjn:∀{ss:List Bs} {l r:List Tok} {u:Unit},qcA ss l= .ok u r->RdOk l r ss.length
 | [],l,r,u,h=>by cases h;exact .refl l
 |s::ss,l,r,u,h=>by
  obtain⟨_,r1,h1,h⟩:=qat h;exact(qdq h1).app (qjn h) (by simp only[jA0];omega)
theorem zft{n:Int}{s:Bs}(h:qaT ⟨1,n,s⟩=true):qc4 s=true:=by
 unfold qaT at h;unfold qc4;simp only[jA1,jB7]at h ⊢;refine⟨h.1,h.2.1,?_⟩;have h3:=h.2.2;cases hl:(qbp s).1 with
 |nil=>rw[hl]at h3;cases h3
 |cons t l=>
  rw[hl]at h3;simpa using h3
theorem qwe{k:Int}{l r:List Tok}{s:Bs}(h:qcZ k l= .ok s r):RdOk l r 1:=by
 cases l with
 |nil=>cases h
 |cons t l=>
  simp only[qcZ]at h;cases hk:(t.kind==k)
  ·rw[hk]at h;cases h
  ·rw[hk]at h;cases h;exact qIb _ _
theorem qwd{l r:List Tok}{s:Bs}(h:qcZ 1 l= .ok s r)(hl:∀t∈l,qqj t):qc4 s=true:=by
 cases l with
 |nil=>cases h
 |cons t l=>
  simp only[qcZ]at h;cases hk:(t.kind==1)
  ·rw[hk]at h;cases h
  ·rw[hk]at h;cases h;have h1:=hl t (by simp);have h2:t.kind=1:=by simpa using hk
   refine zft (n:=t.line) ?_;rw[<-h2];exact h1
theorem qx7{l r:List Tok}{v:Int}(h:quz l= .ok v r):RdOk l r 1:=by
 cases l with
 |nil=>cases h
 |cons t l=>
  unfold quz at h;cases hn:numAt (t::l)with
  |none=>rw[hn]at h;cases h
  |some n=>rw[hn]at h;cases h;exact qIb _ _
theorem q1q{l r:List Tok}{v:Int}(h:qng l= .ok v r):RdOk l r 1:=by
 cases l with
 |nil=>cases h
 |cons t l=>
  simp only[qng]at h;cases hk:(t.kind==3&&(qbm t.text).2==0)
  ·rw[hk]at h;cases h
  ·rw[hk]at h;cases h;exact qIb _ _
theorem quC:∀{ws:List Bs} {i:Nat} {l r:List Tok} {k:Int},qgS i ws l= .ok k r->RdOk l r 1
 | [],i,l,r,k,h=>by cases h
 |w::ws,i,l,r,k,h=>by
  simp only[qgS]at h;cases hw:isW w l
  ·rw[hw]at h;exact quC h
  ·rw[hw]at h;cases h;exact q52 hw
theorem qAT{l r:List Tok}{t:Tr}(h:qlD l= .ok t r):RdOk l r 4:=by
 unfold qlD at h;obtain⟨a,r1,h1,h⟩:=qat h;obtain⟨_,r2,h2,h⟩:=qat h;obtain⟨p,r3,h3,h⟩:=qat h;obtain⟨_,r4,h4,h⟩:=qat h;cases h;exact((qx7 h1).app (qdq h2) (jAj _)).app ((q1q h3).app (qdq h4) (jAj _)) (jAj _)
theorem qMo:∀{n:Nat} {acc ts:List Tr} {l r:List Tok},qcV n acc l= .ok ts r->r <:+ l/\5*ts.length+r.length<=l.length+5*acc.length
 |0,_,_,_,_,h=>by cases h
 |n+1,acc,ts,l,r,h=>by
  simp only[qcV]at h;cases hw:isW [36] l
  ·rw[hw]at h;cases h;exact⟨jCa _,by omega⟩
  ·rw[hw]at h;obtain⟨t,r',h1,h⟩:=qat h;have q:=(q52 hw).app (qAT h1) (jAj _);obtain⟨i1,i2⟩:=qMo h;refine⟨i1.trans q.sfx,?_⟩;have:=q.len;simp only[jA2,jA0,jA4]at i2;omega
theorem qHY{α:Type}{w:Bs}{f:List Tok->Pz α}{g:Int->α->List Tok}{ok:α->Prop}(hf:∀l x r,f l= .ok x r->(∀n,RdOk l r ((g n x).length-1))/\((∀t∈l,qqj t)->ok x)):∀{n:Nat} {acc xs:List α} {l r:List Tok},qdU w f n acc l= .ok xs r->(∃ys,xs=acc++ys/\ ∀k,RdOk l r (qcB g k ys).length)/\((∀t∈l,qqj t)->(∀x∈acc,ok x)-> ∀x∈xs,ok x)
 |0,_,_,_,_,h=>by cases h
 |n+1,acc,xs,l,r,h=>by
  simp only[qdU]at h;cases hw:isW w l
  ·rw[hw]at h;cases h;exact⟨⟨[],by simp,fun k=>RdOk.refl _⟩,fun _ h=>h⟩
  ·rw[hw]at h;obtain⟨t,r',h1,h⟩:=qat h;obtain⟨f1,f2⟩:=hf _ _ _ h1;have q0:=q52 hw;obtain⟨⟨ys,rfl,i1⟩,i2⟩:=qHY hf h;refine⟨⟨t::ys,by simp,fun k=>?_⟩,fun hl ha=>?_⟩
   ·refine(q0.app (f1 k) (jAj _)).app (i1 (k+1)) ?_;rw[qcB,jA2];omega
   ·refine i2 ((f1 0).oks (q0.oks hl)) fun x hx=>?_
    rcases jAo.1 hx with hx|hx
    ·exact ha x hx
    ·simp only[jAt]at hx;subst hx;exact f2 (q0.oks hl)
theorem zeE{l r:List Tok}{c:Bs}(h:qgl l= .ok c r):RdOk l r 1/\((∀t∈l,qqj t)->qc4 (qpX c)=true):=by
 unfold qgl at h;obtain⟨s,r1,h1,h⟩:=qat h;split at h
 ·rename_i c' hc;cases h;refine⟨qwe h1,fun hl=>?_⟩;rw[qTG hc];exact qwd h1 hl
 ·cases h
theorem zkN{day:Int->Int->Int->Option Int}{l r:List Tok}{n:Int}(h:qI1 day l= .ok n r):RdOk l r 5:=by
 unfold qI1 at h;obtain⟨y,r1,hy,h⟩:=qat h;obtain⟨_,r2,h2,h⟩:=qat h;obtain⟨m,r3,hm,h⟩:=qat h;obtain⟨_,r4,h4,h⟩:=qat h;obtain⟨d,r5,hd,h⟩:=qat h;split at h
 ·cases h;exact(((qx7 hy).app (qdq h2) (jAj _)).app ((qx7 hm).app (qdq h4) (jAj _)) (jAj _)).app (qx7 hd) (jAj _)
 ·cases h
theorem qt3(w:Bs)(n:Int)(x:In):(inT w n x).length=7+5*x.tiers.length:=by
 unfold inT lnT;simp only[jA2,jA5,jA0,jA4,qpD];omega
theorem q9L{w:Bs}{l r:List Tok}{x:In}(h:qKr w l= .ok x r):RdOk l r (7+5*x.tiers.length):=by
 unfold qKr at h;obtain⟨_,r1,h1,h⟩:=qat h;obtain⟨k,r2,h2,h⟩:=qat h;obtain⟨b,r3,h3,h⟩:=qat h;obtain⟨m,r4,h4,h⟩:=qat h;obtain⟨q,r5,h5,h⟩:=qat h;obtain⟨_,r6,h6,h⟩:=qat h;obtain⟨ts,r7,h7,h⟩:=qat h;obtain⟨_,r8,h8,h⟩:=qat h;cases h;obtain⟨t1,t2⟩:=qMo h7;have q1:=((((qdq h1).app (quC h2) (jAj _)).app (quC h3) (jAj _)).app (quC h4) (jAj _)).app ((quC h5).app (qdq h6) (jAj _)) (jAj _);have q2:RdOk r6 r7 (5*ts.length):=⟨t1,by simp only[jA4]at t2;omega⟩;exact q1.app (q2.app (qdq h8) (jAj _)) (by simp only[];omega)
section
variable {exS:List Tok->Rs} (hS:∀l e r,exS l= .ok e r->r <:+ l/\(wrB e).length+r.length<=l.length)
include hS
theorem qUh{l r:List Tok}{e:Ex}(h:qGm exS l= .ok e r):RdOk l r (wrB e).length:=by
 unfold qGm at h;cases hx:exS l with
 |bad r=>rw[hx]at h;cases h
 |ok f r'=>
  rw[hx]at h;have:=hS _ _ _ hx;cases hv:(qaO f==0)
  ·simp only[hv]at h;cases h
  ·simp only[hv]at h;cases h;exact⟨this.1,this.2⟩
theorem q9A(l:List Tok)(x:Fe)(r:List Tok)(h:qHb exS l= .ok x r):(∀n,RdOk l r ((feT n x).length-1))/\((∀t∈l,qqj t)->qc4 x.name=true):=by
 unfold qHb at h;obtain⟨n,r1,h1,h⟩:=qat h;obtain⟨e,r2,h2,h⟩:=qat h;obtain⟨_,r3,h3,h⟩:=qat h;obtain⟨w,r4,h4,h⟩:=qat h;obtain⟨_,r5,h5,h⟩:=qat h;obtain⟨a,r6,h6,h⟩:=qat h;obtain⟨_,r7,h7,h⟩:=qat h;cases h;refine⟨fun k=>?_,qwd h1⟩;have q1:=((qwe h1).app (quC h2) (jAj _)).app ((qdq h3).app (qUh hS h4) (jAj _)) (jAj _);refine q1.app ((qdq h5).app ((qUh hS h6).app (qdq h7) (jAj _)) (jAj _)) ?_;simp only[feT,lnT,exT,jA2,jA5,jA0,jA4];omega
theorem q1B(l:List Tok)(x:Ru)(r:List Tok)(h:qi9 exS l= .ok x r):(∀n,RdOk l r ((ruT n x).length-1))/\((∀t∈l,qqj t)->qc4 x.name=true):=by
 unfold qi9 at h;obtain⟨n,r1,h1,h⟩:=qat h;obtain⟨e,r2,h2,h⟩:=qat h;obtain⟨a,r3,h3,h⟩:=qat h;obtain⟨_,r4,h4,h⟩:=qat h;cases h;refine⟨fun k=>?_,qwd h1⟩;refine((qwe h1).app (quC h2) (jAj _)).app ((qUh hS h3).app (qdq h4) (jAj _)) ?_;simp only[ruT,lnT,exT,jA2,jA5,jA0,jA4];omega
theorem zfO{day:Int->Int->Int->Option Int}(civ:Int->Int×Int×Int){l r:List Tok}{p:Pr}(h:qhG exS day l= .ok p r):(qdS civ p).length<=l.length/\((∀t∈l,qqj t)->NmOk p):=by
 unfold qhG at h;obtain⟨_,r0,ha0,h⟩:=qat h;obtain⟨nm,r1,hnm,h⟩:=qat h;obtain⟨_,r2,ha1,h⟩:=qat h;obtain⟨cu,r3,hcu,h⟩:=qat h;obtain⟨_,r4,ha2,h⟩:=qat h;obtain⟨ca,r5,hca,h⟩:=qat h;obtain⟨_,r6,ha3,h⟩:=qat h;obtain⟨fr,r7,hfr,h⟩:=qat h;obtain⟨_,r8,ha4,h⟩:=qat h;obtain⟨ev,r9,hev,h⟩:=qat h;obtain⟨_,r10,ha5,h⟩:=qat h;obtain⟨ov,r11,hov,h⟩:=qat h;obtain⟨_,r12,ha6,h⟩:=qat h;obtain⟨tx,r13,htx,h⟩:=qat h;obtain⟨_,r14,ha7,h⟩:=qat h;obtain⟨cr,r15,hcr,h⟩:=qat h;obtain⟨de,r16,hde,h⟩:=qat h;obtain⟨fs,r17,hfs,h⟩:=qat h;obtain⟨rs,r18,hrs,h⟩:=qat h;obtain⟨_,r19,ha8,h⟩:=qat h;split at h
 ·cases h;obtain⟨c1,c2⟩:=zeE hcu;obtain⟨⟨ys,e1,f1⟩,f2⟩:=qHY (g:=feT) (ok:=fun x=>qc4 x.name=true) (q9A hS) hfs;obtain⟨⟨zs,e2,g1⟩,g2⟩:=qHY (g:=ruT) (ok:=fun x=>qc4 x.name=true) (q1B hS) hrs;rw[jAx]at e1 e2;subst e1 e2;have q0:=qdq ha0;have q1:=q0.app (qwe hnm) (jAj _);have q2:=q1.app (qjn ha1) (jAj _);have q3:=q2.app c1 (jAj _);have q4:=q3.app (qjn ha2) (jAj _);have q5:=q4.app (qwe hca) (jAj _);have q6:=q5.app (qjn ha3) (jAj _);have q7:=q6.app (zkN hfr) (jAj _);have q8:=q7.app (qjn ha4) (jAj _);have q9:=q8.app (qx7 hev) (jAj _);have q10:=q9.app (qjn ha5) (jAj _);have q11:=q10.app (qx7 hov) (jAj _);have q12:=q11.app (qjn ha6) (jAj _);have q13:=q12.app (q1q htx) (jAj _);have q14:=q13.app (qdq ha7) (jAj _);have q15:=q14.app (q9L hcr) (jAj _);have q16:=q15.app (q9L hde) (jAj _);have q17:=q16.app (f1 (12+cr.tiers.length+de.tiers.length)) (jAj _);have q18:=q17.app (g1 (12+cr.tiers.length+de.tiers.length+fs.length)) (jAj _);have q19:=q18.app (qdq ha8) (jAj _);refine⟨?_,fun hl=>?_⟩
  ·have:=q19.len;simp only[qdS,jA2,qt3];simp only[lnT,jA5,jA0,jA4]at this ⊢;omega
  ·exact { name:=qwd hnm (q0.oks hl),cur:=c2 (q2.oks hl),cal:=qwd hca (q4.oks hl),fees:=f2 (q16.oks hl) (fun _ h=>nomatch h),rules:=g2 (q17.oks hl) (fun _ h=>nomatch h) }
 ·cases h
end
theorem qEI:∀(ts:List Tr) (n:Int),∀t∈qcU n ts,n<=t.line/\t.line<n+ts.length
 | [],n,t,h=>by cases h
 |x::ts,n,t,h=>by
  rcases jAo.1 h with h|h
  ·have:=qbN n _ t h;simp only[jA0];omega
  ·have:=qEI ts (n+1) t h;simp only[jA0];omega
theorem q9H{w:Bs}{n:Int}{x:In}:∀t∈inT w n x,n<=t.line/\t.line<n+2+x.tiers.length:=by
 intro t h;rcases jAo.1 h with h|h
 ·have:=qbN n _ t h;omega
 ·rcases jAo.1 h with h|h
  ·have:=qEI _ _ t h;omega
  ·have:=qbN _ _ t h;omega
theorem qz2{α:Type}{g:Int->α->List Tok}(hg:∀n x,∀t∈g n x,t.line=n):∀(xs:List α) (n:Int),∀t∈qcB g n xs,n<=t.line/\t.line<n+xs.length
 | [],n,t,h=>by cases h
 |x::xs,n,t,h=>by
  rcases jAo.1 h with h|h
  ·have:=hg n x t h;simp only[jA0];omega
  ·have:=qz2 hg xs (n+1) t h;simp only[jA0];omega
theorem zkZ(n:Int)(x:Fe):∀t∈feT n x,t.line=n:=qa8 (qbN n _) (qa8 (qkJ n _) (qa8 (qbN n _) (qa8 (qkJ n _) (qbN n _))))
theorem zl9(n:Int)(x:Ru):∀t∈ruT n x,t.line=n:=qa8 (qbN n _) (qa8 (qkJ n _) (qbN n _))
theorem q5U(civ:Int->Int×Int×Int)(p:Pr):∀t∈qdS civ p,1<=t.line/\t.line<=12+p.cr.tiers.length+p.de.tiers.length+p.fees.length+p.rules.length:=by
 have sg:∀{k:Int} {xs:List (Int×Bs)},1<=k->k<=12+p.cr.tiers.length+p.de.tiers.length+p.fees.length+p.rules.length-> ∀t∈lnT k xs,1<=t.line/\t.line<=12+p.cr.tiers.length+p.de.tiers.length+p.fees.length+p.rules.length:=fun h1 h2 t ht=>by
  have:=qbN _ _ t ht;omega
 unfold qdS;refine qa8 (sg (by omega) (by omega)) (qa8 (sg (by omega) (by omega)) (qa8 (sg (by omega) (by omega)) (qa8 (sg (by omega) (by omega)) (qa8 (sg (by omega) (by omega)) (qa8 (sg (by omega) (by omega)) (qa8 (sg (by omega) (by omega)) (qa8 ?_ (qa8 ?_ (qa8 ?_ (qa8 ?_ (sg (by omega) (by omega))))))))))))
 ·intro t ht;have:=q9H t ht;omega
 ·intro t ht;have:=q9H t ht;omega
 ·intro t ht;have:=qz2 zkZ _ _ t ht;omega
 ·intro t ht;have:=qz2 zl9 _ _ t ht;omega
end Go.Tk
namespace Go.Tk
open Go Go.Eng
def qTJ(c:Bs):Bool:=c.all (at8 fun x=>decide (x>=65)&&decide (x<=90))&&(c.length==3&& !qbT (qpX c))
def qwE(t:Tr):Bool:=decide (t.from_>=0)&&(decide (t.ppm>=0)&&decide (t.ppm<=1000000))
def qoU(n:Int)(k:Int):Bool:=decide (n>=1)&&decide (n<=k)
def inB(x:In):Bool:=x.tiers.all qwE&&(qoU x.basis 4&&qoU x.mode 6)
def feB(x:Fe):Bool:=qc4 x.name&&(qoU x.event 4&&(qaO x.when_==0&&qaO x.amount==0))
def ruB(x:Ru):Bool:=qc4 x.name&&(qoU x.window 3&&qaO x.amount==0)
def qCj(p:Pr):Bool:=qTJ p.cur&&(qc4 p.name&&(qc4 p.cal&&((decide (p.from_>=0)&&decide (p.from_<=73048))&&(decide (p.every>=0)&&(decide (p.over>=0)&&((decide (p.tax>=0)&&decide (p.tax<=1000000))&&(inB p.cr&&(inB p.de&&(p.fees.all feB&&p.rules.all ruB)))))))))
structure FitP (p:Pr):Prop where
 every:p.every<=9223372036854775807
 over:p.over<=9223372036854775807
 cr:∀t∈p.cr.tiers,t.from_<=9223372036854775807
 de:∀t∈p.de.tiers,t.from_<=9223372036854775807
theorem zbP{c:UInt8}(h:at8 (fun x=>decide (x>=65)&&decide (x<=90)) c=true):at8 (fun x=>decide (x>=97)&&decide (x<=122)) (c+32)=true/\c+32-32=c:=by
 unfold at8 at h ⊢;simp only[jA1,jA6]at h ⊢;have e:(c+32).toNat=c.toNat+32:=by
  rw[UInt8.toNat_add];have:(32:UInt8).toNat=32:=rfl;omega
 refine⟨by omega,by simp⟩
theorem zls{c:UInt8}(h:at8 (fun x=>decide (x>=97)&&decide (x<=122)) c=true):at8 (fun x=>decide (x>=65)&&decide (x<=90)) (c-32)=true:=by
 unfold at8 at h ⊢;simp only[jA1,jA6]at h ⊢;have e:(c-32).toNat=c.toNat-32:=by
  rw[UInt8.toNat_sub];have:(32:UInt8).toNat=32:=rfl;omega
 omega
theorem qTK{c:Bs}(h:qTJ c=true):qsK (qpX c)=some c/\qc4 (qpX c)=true:=by
 unfold qTJ at h;simp only[jA1,jB7,jB9]at h;obtain⟨h1,h2,h3⟩:=h;rw[jAb]at h1;have hl:(qpX c).length=3:=by unfold qpX;rw[jA5];exact h2
 have ha:(qpX c).all (at8 fun x=>decide (x>=97)&&decide (x<=122))=true:=by
  unfold qpX;rw[List.all_map,jAb];exact fun x hx=>(zbP (h1 x hx)).1
 constructor
 ·unfold qsK;rw[jAr ⟨hl,ha⟩];unfold qpX;rw[List.map_map]
  congr 1
  refine(jBr fun x hx=>?_).trans (List.map_id c);exact(zbP (h1 x hx)).2
 ·rw[qpJ,h3];have ha':∀x∈qpX c,at8 qei x=true:=jAb.1 ha;cases hs:qpX c with
  |nil=>rw[hs]at hl;cases hl
  |cons x r=>
   rw[hs]at ha' hl;unfold qz8;simp only[Bool.not_false,jBt,jA1,jA6];refine⟨by omega,ha' x (by simp),jAb.2 fun y hy=>?_⟩;have:=ha' y hy;unfold at8 at this ⊢;unfold qco;rw[this];rfl
theorem zez{c:Bs}(h:qsK (qpX c)=some c)(hv:qc4 (qpX c)=true):qTJ c=true:=by
 unfold qsK at h;split at h
 ·rename_i hc;obtain⟨h1,h2⟩:=hc;unfold qTJ;rw[qpJ,jA1]at hv;rw[hv.2];have hl:c.length=3:=by unfold qpX at h1;rwa[jA5]at h1
  rw[hl];simp only[beq_self_eq_true,jBt];rw[<-jC2 h,List.all_map,jAb];intro x hx;exact zls (jAb.1 h2 x hx)
 ·cases h
theorem q6n{t:Tr}(h:qwE t=true)(hf:t.from_<=9223372036854775807):qkB t:=by
 unfold qwE at h;simp only[jA1,jA6]at h;exact⟨h.1,hf,h.2.1,h.2.2⟩
theorem q9I{x:In}(h:inB x=true)(hf:∀t∈x.tiers,t.from_<=9223372036854775807):q9G x:=by
 unfold inB qoU at h;simp only[jA1,jA6,jAb]at h;exact⟨fun t ht=>q6n (h.1 t ht) (hf t ht),h.2.1.1,h.2.1.2,h.2.2.1,h.2.2.2⟩
theorem qER{p:Pr}(h:qCj p=true)(hf:FitP p):PrOk qdT qit p/\NmOk p:=by
 unfold qCj at h;simp only[jA1,jA6,jAb]at h;obtain⟨h1,h2,h3,h4,h5,h6,h7,h8,h9,h10,h11⟩:=h;obtain⟨r1,r2,r3⟩:=zeB h4.1 h4.2;constructor
 ·refine { cur:=(qTK h1).1,y0:=r1,m0:=r2,d0:=r3,day:=zeA h4.1 h4.2,every:=⟨h5,hf.every⟩,over:=⟨h6,hf.over⟩,tax:=h7,cr:=q9I h8 hf.cr,de:=q9I h9 hf.de,fees:=fun x hx=>?_,rules:=fun x hx=>?_ }
  ·have:=h10 x hx;unfold feB qoU at this;simp only[jA1,jA6,jB7]at this;exact⟨this.2.1.1,this.2.1.2,this.2.2.1,this.2.2.2⟩
  ·have:=h11 x hx;unfold ruB qoU at this;simp only[jA1,jA6,jB7]at this;exact⟨this.2.1.1,this.2.1.2,this.2.2⟩
 ·refine { name:=h2,cur:=(qTK h1).2,cal:=h3,fees:=fun x hx=>?_,rules:=fun x hx=>?_ }
  ·have:=h10 x hx;unfold feB at this;simp only[jA1]at this;exact this.1
  ·have:=h11 x hx;unfold ruB at this;simp only[jA1]at this;exact this.1
theorem q5B{t:Tr}(h:qkB t):qwE t=true:=by
 obtain⟨a,_,b,c⟩:=h;unfold qwE;simp only[jA1,jA6];exact⟨a,b,c⟩
theorem q9Z{x:In}(h:q9G x):inB x=true:=by
 obtain⟨h1,h2,h3,h4,h5⟩:=h;unfold inB qoU;simp only[jA1,jA6,jAb];exact⟨fun t ht=>q5B (h1 t ht),⟨h2,h3⟩,h4,h5⟩
theorem q90{p:Pr}(h:PrOk qdT qit p)(hn:NmOk p):qCj p=true/\FitP p:=by
 have hv:=qKs (q9m h.day);constructor
 ·unfold qCj;simp only[jA1,jA6,jAb];refine⟨zez h.cur hn.cur,hn.name,hn.cal,hv,h.every.1,h.over.1,h.tax,q9Z h.cr,q9Z h.de,fun x hx=>?_,fun x hx=>?_⟩
  ·obtain⟨a,b,c,d⟩:=h.fees x hx;unfold feB qoU;simp only[jA1,jA6,jB7];exact⟨hn.fees x hx,⟨a,b⟩,c,d⟩
  ·obtain⟨a,b,c⟩:=h.rules x hx;unfold ruB qoU;simp only[jA1,jA6,jB7];exact⟨hn.rules x hx,⟨a,b⟩,c⟩
 ·exact { every:=h.every.2,over:=h.over.2,cr:=fun t ht=>(h.cr.1 t ht).2.1,de:=fun t ht=>(h.de.1 t ht).2.1 }
def qDB(l:List Tok)(k:Nat):Int:=match l[min k (l.length-1)]? with
 |some t=>t.line
 |none=>0
noncomputable def qh8(exS:List Tok->Rs)(s:Bs):Option Pr×Int×Int:=bif (qbp s).2.2 != 0 then(none,(qbp s).2)else match qhG exS qit (qbp s).1 with
 | .ok p _=>(some p,0,0)
 | .bad r e=>(none,qDB (qbp s).1 ((qbp s).1.length-r.length),e)
noncomputable def qhF(p:Pr):Bs×Int:=bif qCj p then qoz qaT (qdS qdT p)else([],1)
section
variable {exS:List Tok->Rs} (hE:∀(n:Int) (e:Ex) (rest:List Tok),qaO e=0->stopL 0 rest->exS (exT n e++rest)= .ok e rest)
include hE
theorem qC8{p:Pr}(h:PrOk qdT qit p)(hn:NmOk p):qoz qaT (qdS qdT p)=([],5)\/ ∃t,qoz qaT (qdS qdT p)=(t,0)/\t.length<=2048/\qh8 exS t=(some p,0,0):=by
 have hc:=qL5 h hn;have hz:=q5V hE h;unfold qoz;rw[hc,jAa,zfb];cases hk:okJ 0 1 ([]:Bs).length (qdS qdT p)
 ·exact .inl rfl
 ·refine .inr ⟨qwF 0 1 (qdS qdT p),rfl,?_,?_⟩
  ·have:=qWX hk (by simp);simpa using this
  ·have hl:(qwF 0 1 (qdS qdT p)).length<=2048:=by
    have:=qWX hk (by simp);simpa using this
   unfold qh8;rw[qpF hl,zjD _ 0 1 hc];simp only[hz];rfl
theorem qu6{p:Pr}(hf:FitP p):(qhF p).2=0/\(qhF p).1.length<=2048/\qh8 exS (qhF p).1=(some p,0,0)\/(qhF p).1= []/\(qhF p).2≠0:=by
 unfold qhF;cases hw:qCj p
 ·exact .inr ⟨rfl,by show(1:Int)≠0;decide⟩
 ·obtain⟨h,hn⟩:=qER hw hf;rw[jAa];rcases qC8 hE h hn with e|⟨t,e,hl,hp⟩
  ·rw[e];exact .inr ⟨rfl,by decide⟩
  ·rw[e];exact .inl ⟨rfl,hl,hp⟩
end
theorem qTf:∀(k:Nat) (s:Bs) (n:Int),s.length<=k->(rdT s n).2.2=0->(rdT s n).2.1=0:=by
 intro k
 induction k with
 |zero=>
  intro s n h _;have:s= []:=jAy.1 (by omega);subst this;rfl
 |succ k ih=>
  intro s n h h0;rw[qeW]at h0 ⊢;cases hx:s.drop (blk false s)with
  |nil=>rfl
  |cons c r=>
   rw[hx]at h0;have hlen:=congrArg List.length hx;rw[jB0,jA0]at hlen;simp only[stepT]at h0 ⊢;cases he:((qay (c::r)).2.2 != 0)
   ·have he0:(qay (c::r)).2.2=0:=by simpa using he
    have hp:=jCp.2 (qcx he0).1;have ih':=ih ((c::r).drop (qay (c::r)).2.1.length) (n+((s.take (blk false s)).count 10:Nat)) (by simp only[jB0,jA0];omega);rw[he]at h0;simp only[jA9,qqa]at h0 ⊢;generalize rdT ((c::r).drop (qay (c::r)).2.1.length) (n+((s.take (blk false s)).count 10:Nat))=q at h0 ih' ⊢;cases hz:(q.2.2 != 0)
    ·rw[hz]at h0;exact ih' h0
    ·rw[hz]at h0;exact ih' h0
   ·rw[he]at h0;simp only[jAa]at h0;rw[h0]at he;cases he
theorem qZc{exS:List Tok->Rs}{s:Bs}{p:Pr}(h:(qh8 exS s).1=some p):∃l r,qbp s=(l,(qbp s).2.1,0)/\qhG exS qit l= .ok p r/\s.length<=2048:=by
 unfold qh8 at h;cases hb:((qbp s).2.2 != 0)
 ·rw[hb,jA9]at h;cases hz:qhG exS qit (qbp s).1 with
  |bad r e=>rw[hz]at h;cases h
  |ok q r=>
   rw[hz]at h;cases h;refine⟨(qbp s).1,r,?_,hz,?_⟩
   ·have:(qbp s).2.2=0:=by simpa using hb
    rw[<-this]
   ·rcases jCb 2048 s.length with hl|hl
    ·rw[qyA (by omega)]at hb;cases hb
    ·exact hl
 ·rw[hb]at h;cases h
theorem qZb{exS:List Tok->Rs}(hS:∀l e r,exS l= .ok e r->r <:+ l/\(wrB e).length+r.length<=l.length){s:Bs}{p:Pr}(h:(qh8 exS s).1=some p):(PrOk qdT qit p/\NmOk p)/\(qdS qdT p).length<=2048:=by
 obtain⟨l,r,ht,hz,hs⟩:=qZc h;rw[qpF hs]at ht;have h0:=qTf s.length s 1 (jAj _) (congrArg (fun q=>q.2.2) ht);rw[h0]at ht;have hv:=qTg s.length s 1 l (jAj _) hs ht;obtain⟨q1,q2⟩:=zfO hS qdT hz;have hr:=(zjC s.length s 1 (jAj _)).1;rw[ht]at hr;simp only at hr;exact⟨⟨zfN (fun y m d n hd=>qTT hd) hz,q2 (qIY hv.1)⟩,by omega⟩
theorem qTs(civ:Int->Int×Int×Int)(p:Pr):p.cr.tiers.length+p.de.tiers.length+p.fees.length+p.rules.length<=(qdS civ p).length:=by
 have hfee:∀(n:Int) (x:Fe),1<=(feT n x).length:=fun n x=>by simp only[feT,lnT,jA2,jA5,jA0];omega
 have hrul:∀(n:Int) (x:Ru),1<=(ruT n x).length:=fun n x=>by simp only[ruT,lnT,jA2,jA5,jA0];omega
 have h1:=qj6 hfee p.fees (12+p.cr.tiers.length+p.de.tiers.length);have h2:=qj6 hrul p.rules (12+p.cr.tiers.length+p.de.tiers.length+p.fees.length);simp only[qdS,jA2,qt3];omega
theorem zl6{p:Pr}(h:PrOk qdT qit p)(hn:NmOk p)(hl:(qdS qdT p).length<=1000000):q57 (qdS qdT p)=true:=by
 have hc:=qIY (qL5 h hn);have hb:=qTs qdT p;unfold q57;simp only[jA1,jA6,jAb];refine⟨hl,fun t ht=>?_⟩;have h1:=(qen (hc t ht)).1;have h2:=q5U qdT p t ht;omega
theorem qz1{α:Type}{g:Int->α->List Tok}{B:Nat}:∀(xs:List α) (n:Int),(∀x∈xs,∀n,(g n x).length<=B)->(qcB g n xs).length<=xs.length*B
 | [],_,_=>by simp[qcB]
 |x::xs,n,h=>by
  have h1:=h x (by simp) n;have h2:=qz1 xs (n+1) fun y hy=>h y (by simp[hy])
  rw[qcB,jA2,jA0,jBe];omega
theorem qUe(n:Int){e:Ex}(h:qaO e=0):(exT n e).length<=320:=by
 have:=qjy e;have:=(qkF h).1;unfold exT;rw[jA5];omega
theorem q5T{p:Pr}(h:PrOk qdT qit p)(h1:p.cr.tiers.length<=20)(h2:p.de.tiers.length<=20)(h3:p.fees.length<=10)(h4:p.rules.length<=10):(qdS qdT p).length<=1000000:=by
 have f1:=qz1 (g:=feT) (B:=1000) p.fees (12+p.cr.tiers.length+p.de.tiers.length) fun x hx n=>by
  obtain⟨_,_,a,b⟩:=h.fees x hx;have:=qUe n a;have:=qUe n b;simp only[feT,lnT,jA2,jA5,jA0,jA4];omega
 have f2:=qz1 (g:=ruT) (B:=1000) p.rules (12+p.cr.tiers.length+p.de.tiers.length+p.fees.length) fun x hx n=>by
  obtain⟨_,_,a⟩:=h.rules x hx;have:=qUe n a;simp only[ruT,lnT,jA2,jA5,jA0,jA4];omega
 simp only[qdS,jA2,qt3];simp only[lnT,jA5,jA0,jA4];omega
end Go.Tk
namespace Go.Tk
open Go Go.Eng
inductive PS where
 |good (l:List Tok)
 |bad (q:List Tok) (e k:Int)
def PS.Ok(T:List Tok):PS->Prop
 | .good l=>l <:+ T
 | .bad q e _=>e≠0/\q <:+ T
def Does{α β:Type}(T:List Tok)(z:List Tok->Pz α)(V:α->β->Prop)(s:PS)(v:β)(s':PS):Prop:=s'.Ok T/\match s with
 | .good l=>(match z l with
  | .ok a r=>V a v/\s'= .good r
  | .bad q e=>∃k,s'= .bad q e k)
 | .bad q e _=>∃k,s'= .bad q e k
def Stuck(s s':PS):Prop:=∀q e k,s= .bad q e k-> ∃k',s'= .bad q e k'
theorem Stuck.refl(s:PS):Stuck s s:=fun q e k h=>⟨k,h⟩
theorem Stuck.trans{s t u:PS}(h:Stuck s t)(g:Stuck t u):Stuck s u:=fun q e k hs=>by
 obtain⟨k',h'⟩:=h q e k hs;exact g q e k' h'
section
variable {α β γ δ:Type} {T:List Tok} {z:List Tok->Pz α} {V:α->β->Prop} {s s1 s2:PS} {v:β} {g:α->List Tok->Pz γ} {W:γ->δ->Prop} {w:δ}
theorem Does.ok(h:Does T z V s v s1):s1.Ok T:=h.1
theorem Does.stuck(h:Does T z V s v s1):Stuck s s1:=by
 rintro q e k rfl;exact h.2
theorem Does.bnd(h:Does T z V s v s1)(hk:Stuck s1 s2)(ho:s2.Ok T)(hg:∀a,V a v->Does T (g a) W s1 w s2):Does T (fun l=>(z l).bnd g) W s w s2:=by
 refine⟨ho,?_⟩;obtain⟨h1,h2⟩:=h;cases s with
 |bad q e k=>
  obtain⟨k1,rfl⟩:=h2;exact hk q e k1 rfl
 |good l=>
  simp only at h2 ⊢;cases hz:z l with
  |bad q e=>
   rw[hz]at h2;obtain⟨k1,rfl⟩:=h2;exact hk q e k1 rfl
  |ok a r=>
   rw[hz]at h2;obtain⟨hv,rfl⟩:=h2;exact(hg a hv).2
theorem Does.pure{b:γ}(h:s.Ok T)(hw:W b w):Does T (fun l=>.ok b l) W s w s:=by
 refine⟨h,?_⟩;cases s with
 |good l=>exact⟨hw,rfl⟩
 |bad q e k=>exact⟨k,rfl⟩
theorem Does.map(h:Does T z V s v s1){f:α->γ}(hw:∀a,V a v->W (f a) w):Does T (fun l=>(z l).bnd fun a r=>.ok (f a) r) W s w s1:=h.bnd (Stuck.refl _) h.1 fun a ha=>Does.pure h.1 (hw a ha)
theorem Does.congr{z':List Tok->Pz α}(h:Does T z V s v s1)(hz:∀l,s= .good l->z l=z' l):Does T z' V s v s1:=by
 refine⟨h.1,?_⟩;have h2:=h.2;cases s with
 |bad q e k=>exact h2
 |good l=>
  simp only at h2 ⊢;rw[<-hz l rfl];exact h2
theorem Does.good{l:List Tok}(ho:s1.Ok T)(h:match z l with
  | .ok a r=>V a v/\s1= .good r
  | .bad q e=>∃k,s1= .bad q e k):Does T z V (.good l) v s1:=⟨ho,h⟩
theorem Does.bad{q:List Tok}{e k:Int}(h:s.Ok T)(hs:s= .bad q e k):Does T z V s v s:=by
 subst hs;exact⟨h,k,rfl⟩
end
end Go.Tk
namespace Go.Tk
open Go Go.Eng
theorem q5w:∀m∈marksS,qbT m=false:=by decide +kernel
theorem qPd{s:Bs}{k:Int}(h:qay s=(k,s,0)):(k=5/\qbT s=true)\/(k=1/\qbT s=false)\/(k=2/\ ∃n,qj9 s=some n)\/(k=3/\(qbm s).2=0)\/(k=4/\s∈marksS):=by
 cases s with
 |nil=>simp[qay]at h
 |cons c r=>
  unfold qay at h;simp only at h;cases h1:at8 qei c
  ·rw[h1,jA9]at h;cases h2:at8 qbh c
   ·rw[h2,jA9]at h;cases hf:marksS.find? (preB · (c::r))with
    |none=>rw[hf]at h;simp at h
    |some m=>
     rw[hf]at h;simp only[jAd]at h;obtain⟨rfl,hm,_⟩:=h;have:=jB4 hf;rw[hm]at this;exact .inr (.inr (.inr (.inr ⟨rfl,this⟩)))
   ·rw[h2,jAa]at h;unfold qAc at h;generalize hx:(c::r).takeWhile (at8 qcM)=x at h;cases hi:qgR x
    ·rw[hi,jA9]at h;cases hr:((qbm x).2==0)
     ·rw[hr,jA9]at h;cases hr1:((qbm x).2==1)<;>rw[hr1]at h<;>simp at h
     ·rw[hr,jAa]at h;simp only[jAd]at h;obtain⟨rfl,rfl,_⟩:=h;exact .inr (.inr (.inr (.inl ⟨rfl,by simpa using hr⟩)))
    ·rw[hi,jAa]at h;cases hn:nOk (Lib.parseIntB 64 x)
     ·rw[hn]at h;simp at h
     ·rw[hn]at h;simp only[jAa,jAd]at h;obtain⟨rfl,rfl,_⟩:=h;refine .inr (.inr (.inl ⟨rfl,qa7 0 (c::r),?_⟩));unfold qj9;rw[qzz hi]at hn;rw[hi,hn];rfl
  ·rw[h1,jAa]at h;generalize hx:(c::r).takeWhile (at8 qco)=x at h;cases hw:qbT x
   ·rw[hw,jA9]at h;cases hl:decide (x.length>16)
    ·rw[hl]at h;simp only[jA9,jAd]at h;obtain⟨rfl,rfl,_⟩:=h;exact .inr (.inl ⟨rfl,hw⟩)
    ·rw[hl]at h;simp at h
   ·rw[hw]at h;simp only[jAa,jAd]at h;obtain⟨rfl,rfl,_⟩:=h;exact .inl ⟨rfl,hw⟩
theorem qAg{t:Tok}(h:qaT t=true):(t.kind=5/\qbT t.text=true)\/(t.kind=1/\qbT t.text=false)\/(t.kind=2/\ ∃n,qj9 t.text=some n)\/(t.kind=3/\(qbm t.text).2=0)\/(t.kind=4/\t.text∈marksS):=qPd (qen h).2.2
theorem zjE{t:Tok}(h:qaT t=true)(s:Bs):((t.kind==5||t.kind==4)&&t.text==s)=(t.text==s&&t.kind==qcC s):=by
 cases hs:(t.text==s)
 ·rw[Bool.and_false,Bool.false_and]
 ·rw[jBt,jBm];have hs':t.text=s:=by simpa using hs
  subst hs';unfold qcC;rcases qAg h with⟨e,hw⟩|⟨e,hw⟩|⟨e,n,hn⟩|⟨e,hw⟩|⟨e,hm⟩
  ·rw[e,hw];rfl
  ·rw[e,hw];rfl
  ·rw[e];cases qbT t.text<;>rfl
  ·rw[e];cases qbT t.text<;>rfl
  ·rw[e,q5w _ hm];rfl
theorem q9W{t:Tok}(h:qaT t=true)(hk:t.kind=2):∃n,qj9 t.text=some n:=by
 rcases qAg h with⟨e,_⟩|⟨e,_⟩|⟨_,hn⟩|⟨e,_⟩|⟨e,_⟩
 ·omega
 ·omega
 ·exact hn
 ·omega
 ·omega
theorem qL9{t:Tok}(h:qaT t=true)(hk:t.kind=3):(qbm t.text).2=0:=by
 rcases qAg h with⟨e,_⟩|⟨e,_⟩|⟨e,_⟩|⟨_,hn⟩|⟨e,_⟩
 ·omega
 ·omega
 ·omega
 ·exact hn
 ·omega
theorem qTk{p:UInt8->Bool}(h:((List.range 256).all fun n=>p (UInt8.ofNat n))=true)(c:UInt8):p c=true:=by
 have:=jAb.1 h c.toNat (jBq.2 c.toNat_lt);simpa using this
def digsU:Bs:=[48,49,50,51,52,53,54,55,56,57,95]
theorem zco(c:UInt8):(!at8 qco c||(decide (c.toNat<128)&&(digsU.contains c== !at8 qei c)))=true:=qTk (p:=fun c=>!at8 qco c||(decide (c.toNat<128)&&(digsU.contains c== !at8 qei c))) (by decide +kernel) c
theorem zsL(c:UInt8):(!at8 qei c||(Lib.upperB c==c-32))=true:=qTk (p:=fun c=>!at8 qei c||(Lib.upperB c==c-32)) (by decide +kernel) c
theorem zlr(c:UInt8):(!at8 (fun x=>decide (x>=65)&&decide (x<=90)) c||(decide (c.toNat<128)&&(Lib.lowerB c==c+32)))=true:=qTk (p:=fun c=>!at8 (fun x=>decide (x>=65)&&decide (x<=90)) c||(decide (c.toNat<128)&&(Lib.lowerB c==c+32))) (by decide +kernel) c
theorem qLL{c:UInt8}(h:at8 qco c=true):c.toNat<128/\digsU.contains c= !at8 qei c:=by
 have:=zco c;rw[h]at this;simpa using this
theorem qLM{s:Bs}(h:qc4 s=true):s.all (at8 qco)=true:=by
 rw[qpJ,jA1]at h;have h1:=h.1;unfold qz8 at h1;cases s with
 |nil=>rfl
 |cons c r=>
  simp only[jA1]at h1;exact h1.2.2
theorem q5z{s:Bs}(h:qc4 s=true):qCv s=true:=by
 have:=jAb.1 (qLM h);unfold qCv;refine jAb.2 fun c hc=>?_
 exact jA8 (qLL (this c hc)).1
theorem any_cons(b:UInt8)(l L:Bs):Lib.containsAny (b::l) L=(L.contains b||Lib.containsAny l L):=by
 have hge:=Lib.indexAny_ge L l;have e:Lib.indexAny (b::l) L=if L.contains b then 0 else if Lib.indexAny l L== -1 then -1 else Lib.indexAny l L+1:=rfl
 unfold Lib.containsAny;rw[jC7,jAv,jA6,jA6,e];by_cases hb:L.contains b=true
 ·rw[jAr hb];exact⟨fun _=>.inl hb,fun _=>by omega⟩
 ·rw[jAm hb];by_cases hi:(Lib.indexAny l L== -1)=true
  ·rw[jAr hi];have:Lib.indexAny l L= -1:=by simpa using hi
   exact⟨fun h=>by omega,fun h=>h.elim (fun h=>absurd h hb) fun h=>by omega⟩
  ·rw[jAm hi];have:Lib.indexAny l L≠ -1:=by simpa using hi
   exact⟨fun _=>.inr (by omega),fun h=>h.elim (fun h=>absurd h hb) fun h=>by omega⟩
theorem qIQ:∀{s:Bs},s.all (at8 qco)=true->Lib.containsAny s digsU= !s.all (at8 qei)
 | [],_=>rfl
 |c::s,h=>by
  simp only[jAw,jA1]at h;rw[any_cons,qIQ h.2,(qLL h.1).2,jAw,Bool.not_and]
theorem zbO:∀{s:Bs},s.all (at8 qei)=true->Lib.toUpperA s=s.map fun c=>c-32
 | [],_=>rfl
 |c::s,h=>by
  simp only[jAw,jA1]at h;have h1:=zsL c;rw[h.1]at h1;have h2:=zbO h.2;unfold Lib.toUpperA at h2 ⊢;rw[jAs,jAs,h2]
  congr 1
  simpa using h1
theorem qIW{s:Bs}(h:qc4 s=true)(hl:s.length=3):qsK s=if Lib.containsAny s digsU=true then none else some (Lib.toUpperA s):=by
 rw[qIQ (qLM h)];unfold qsK;have e:(s.all (at8 fun c=>decide (c>=97)&&decide (c<=122)))=s.all (at8 qei):=rfl;rw[e];cases ha:s.all (at8 qei)
 ·simp
 ·simp[hl,zbO ha]
theorem qWt:∀{s:Bs},s.all (at8 fun x=>decide (x>=65)&&decide (x<=90))=true->Lib.toLowerA s=qpX s/\qCv s=true
 | [],_=>⟨rfl,rfl⟩
 |c::s,h=>by
  simp only[jAw,jA1]at h;have h1:=zlr c;rw[h.1]at h1;simp only[Bool.not_true,Bool.false_or,jA1,jA6,jB7]at h1;obtain⟨h2,h3⟩:=qWt h.2;constructor
  ·unfold Lib.toLowerA qpX at h2 ⊢;rw[jAs,jAs,h2,h1.2]
  ·unfold qCv at h3 ⊢;rw[jAw,h3,jA8 h1.1];rfl
end Go.Tk
namespace Go.Proofs.H16
open Go Go.Eng Go.Tk
set_option maxRecDepth 20000
abbrev StP:=List AV×Int×Int×Int
def stP(T:List Tok):PS->StP
 | .good l=>(ET T,pos T l,0,0)
 | .bad q e k=>(ET T,k,e,qDB T (T.length-q.length))
section
variable {T:List Tok}
theorem znU{t:Tok}{l:List Tok}(h:t::l <:+ T):decide (pos T (t::l)<((ET T).length:Int))=true:=by rw[jA5];exact qWx h
theorem qLF:decide (pos T []<((ET T).length:Int))=false:=jAe (by rw[qkc,jA5];omega)
theorem qCy{e:Int}(he:e≠0):(e==0)=false:=by simpa using he
theorem qmP{e:Int}(he:e≠0):(e != 0)=true:=by simpa using he
def isK(k:Int):PS->Bool
 | .good (t::_)=>t.kind==k
 |_=>false
theorem q92(k:Int){p:PS}(hp:p.Ok T):qtI k (stP T p).1 (stP T p).2.1 (stP T p).2.2.1 (stP T p).2.2.2=some (isK k p,stP T p):=by
 rw[qUT,qBS];cases p with
 |bad q e a=>exact(brF (qCy hp.1)).trans rfl
 |good l=>
  refine(brT rfl).trans ?_;cases l with
  |nil=>exact(brF qLF).trans rfl
  |cons t l=>
   refine(brT (znU hp)).trans ((brT (qAe hp)).trans ?_);show some (intOf (cellAt (ET T) (pos T (t::l)) 0)==k,_)=_;rw[kindP hp];rfl
def qmI(s:Bs):PS->Bool
 | .good l=>isW s l
 |_=>false
def q86(s:Bs):PS->PS
 | .good l=>.good (bif isW s l then l.tail else l)
 |p=>p
theorem qTh{s:Bs}{p:PS}(hp:p.Ok T):(q86 s p).Ok T:=by
 cases p with
 |bad q e a=>exact hp
 |good l=>
  show(bif isW s l then l.tail else l) <:+ T;cases isW s l
  ·exact hp
  ·exact qaK hp
theorem qyZ{s:Bs}{p:PS}(h:qmI s p=false):q86 s p=p:=by
 cases p with
 |bad q e a=>rfl
 |good l=>
  have:isW s l=false:=h;show PS.good _=_;rw[this];rfl
theorem qfS(hT:T.length<=1000000)(hv:∀t∈T,qaT t=true)(s:Bs){p:PS}(hp:p.Ok T):qap s (stP T p).1 (stP T p).2.1 (stP T p).2.2.1 (stP T p).2.2.2=some (qmI s p,stP T (q86 s p)):=by
 rw[qUx,qBw];refine(biS (q92 5 hp)).trans ?_;cases p with
 |bad q e a=>exact(brT rfl).trans ((biS (q92 4 hp)).trans ((brT rfl).trans rfl))
 |good l=>
  cases l with
  |nil=>exact(brT rfl).trans ((biS (q92 4 hp)).trans ((brT rfl).trans rfl))
  |cons t l=>
   have ha:=zjE (hv t (hp.subset (by simp))) s;have hi:isW s (t::l)=(t.text==s&&t.kind==qcC s):=rfl;rw[<-ha]at hi;have fin:∀h:(t.kind==5||t.kind==4)=true,(DT.br (qaH [CS.int IntKind.i64,CS.int IntKind.i64,CS.str] (ET T) (pos T (t::l))) (.br (!strOf (cellAt (ET T) (pos T (t::l)) 2)==s)
     (.at ((false,ET T,pos T (t::l),0,0):qRD)) (.at (true,ET T,IntKind.i64.wrap (pos T (t::l)+1),0,0))) .no).ev=some (qmI s (.good (t::l)),stP T (q86 s (.good (t::l)))):=by
    intro h;refine(brT (qAe hp)).trans ?_;rw[qwc hp];show _=some (isW s (t::l),stP T (.good (bif isW s (t::l)then(t::l).tail else t::l)));rw[hi,h,jBm];cases ht:(t.text==s)
    ·exact(brT rfl).trans rfl
    ·refine(brF rfl).trans ?_;show some (true,ET T,IntKind.i64.wrap (pos T (t::l)+1),0,0)=_;rw[qbO hp hT];rfl
   cases h5:(t.kind==5)
   ·refine(brT (by show(!(t.kind==5))=true;rw[h5];rfl)).trans ((biS (q92 4 hp)).trans ?_);cases h4:(t.kind==4)
    ·refine(brT (by show(!(t.kind==4))=true;rw[h4];rfl)).trans ?_;show _=some (isW s (t::l),stP T (.good (bif isW s (t::l)then(t::l).tail else t::l)));rw[hi,h5,h4];rfl
    ·exact(brF (by show(!(t.kind==4))=false;rw[h4];rfl)).trans (fin (by rw[h5,h4];rfl))
   ·exact(brF (by show(!(t.kind==5))=false;rw[h5];rfl)).trans (fin (by rw[h5];rfl))
def zeV(q:List Tok)(e:Int):PS->PS
 | .good l=>.bad q e (pos T l)
 |p=>p
theorem quq{k:Nat}(h:0<T.length):intOf (cellAt (ET T) ((min k (T.length-1):Nat):Int) 1)=qDB T k:=by
 have hlt:min k (T.length-1)<T.length:=by omega
 rw[qt1 hlt];unfold qDB;rw[jAh hlt]
theorem qDS(hT:T.length<=1000000)(e:Int){q:List Tok}(hq:q <:+ T){p:PS}(hp:p.Ok T):qcm e (pos T q) (stP T p).1 (stP T p).2.1 (stP T p).2.2.1 (stP T p).2.2.2=some (stP T (zeV (T:=T) q e p)):=by
 rw[qCU,qwj];cases p with
 |bad q e a=>exact(brT (qmP hp.1)).trans rfl
 |good l=>
  refine(brF rfl).trans ?_;show(DT.br (decide (((ET T).length:Int)>0)) _ _).ev=_;by_cases h0:0<T.length
  ·have hw:IntKind.i64.wrap (((ET T).length:Int)-1)=((T.length-1:Nat):Int):=by
    rw[jA5,wrap64 (by omega) (by omega)];omega
   have hmin:(if IntKind.i64.wrap (((ET T).length:Int)-1)<pos T q then IntKind.i64.wrap (((ET T).length:Int)-1)else pos T q)=((min (T.length-q.length) (T.length-1):Nat):Int):=by
    rw[hw];unfold pos;split<;>omega
   refine(brT (jA8 (by rw[jA5];omega))).trans ?_;show(DT.br (qaH [CS.int IntKind.i64,CS.int IntKind.i64,CS.str] (ET T) (if IntKind.i64.wrap (((ET T).length:Int)-1)<pos T q then IntKind.i64.wrap (((ET T).length:Int)-1)else pos T q)) (.at ((ET T,pos T l,e,intOf (cellAt (ET T) (if IntKind.i64.wrap (((ET T).length:Int)-1)<pos T q then IntKind.i64.wrap (((ET T).length:Int)-1)else pos T q) 1)):qRJ)) .no).ev=_;rw[hmin];refine(brT (okT (by omega))).trans ?_;rw[quq h0];rfl
  ·refine(brF (jAe (by rw[jA5];omega))).trans ?_;have hn:T= []:=jAy.1 (by omega);subst hn;rfl
theorem quF(e k:Int){p:PS}(hp:p.Ok T)(hb:∀l,p≠ .good l):qcm e k (stP T p).1 (stP T p).2.1 (stP T p).2.2.1 (stP T p).2.2.2=some (stP T p):=by
 rw[qCU,qwj];cases p with
 |bad q e a=>exact(brT (qmP hp.1)).trans rfl
 |good l=>exact absurd rfl (hb l)
def qHf(e:Int):PS->PS
 | .good l=>.bad l e (pos T l)
 |p=>p
theorem qLY(hT:T.length<=1000000)(e:Int){p:PS}(hp:p.Ok T):qcm e (stP T p).2.1 (stP T p).1 (stP T p).2.1 (stP T p).2.2.1 (stP T p).2.2.2=some (stP T (qHf (T:=T) e p)):=by
 cases p with
 |bad q e' a=>exact quF e a hp (fun l h=>nomatch h)
 |good l=>exact qDS hT e hp hp
theorem qqr{e:Int}{p:PS}(hp:p.Ok T)(he:e≠0):(qHf (T:=T) e p).Ok T:=by
 cases p with
 |bad q e a=>exact hp
 |good l=>exact⟨he,hp⟩
def qqg(s:Bs)(p:PS):PS:=bif qmI s p then q86 s p else qHf (T:=T) 2 p
theorem qew{s:Bs}{p:PS}(hp:p.Ok T):(qqg (T:=T) s p).Ok T:=by
 unfold qqg;cases qmI s p
 ·exact qqr hp (by decide)
 ·exact qTh hp
def qPI:List Bs->PS->PS
 | [],p=>p
 |s::ss,p=>qPI ss (qqg (T:=T) s p)
theorem qpK(s:Bs)(l:List Tok):qqg (T:=T) s (.good l)=bif isW s l then .good l.tail else .bad l 2 (pos T l):=by
 have e:qqg (T:=T) s (.good l)=bif isW s l then .good (bif isW s l then l.tail else l)else .bad l 2 (pos T l):=rfl
 rw[e];cases isW s l<;>rfl
theorem qnW(s:Bs){p:PS}(hp:p.Ok T):Does T (qc2 s) (fun _ (_:Unit)=>True) p () (qqg (T:=T) s p):=by
 refine⟨qew hp,?_⟩;cases p with
 |bad q e a=>exact⟨a,rfl⟩
 |good l=>
  dsimp only;rw[qpK];unfold qc2;cases hi:isW s l
  ·exact⟨_,rfl⟩
  ·exact⟨trivial,rfl⟩
theorem qdA:∀(ss:List Bs) {p:PS},p.Ok T->Does T (qcA ss) (fun _ (_:Unit)=>True) p () (qPI (T:=T) ss p)
 | [],p,hp=>Does.pure hp trivial
 |s::ss,p,hp=>by
  have h1:=qnW s hp;have h2:=qdA ss h1.ok;exact h1.bnd h2.stuck h2.ok fun _ _=>h2
theorem zlo(hT:T.length<=1000000)(hv:∀t∈T,qaT t=true){ss:List Bs}(hs:ss.length<=big):∀(k n:Nat) (p:PS),n+k=ss.length->p.Ok T->qaf (fun v=>(qvL v).ev) (ES ss,(ss.length:Int),(n:Int),stP T p)=some (0,ES ss,(ss.length:Int),(ss.length:Int),stP T (qPI (T:=T) (ss.drop n) p)):=by
 intro k
 induction k with
 |zero=>
  intro n p hn hp;have e:n=ss.length:=by omega
  subst e;rw[jC0];refine qag ?_;show(qkv (ES ss) (ss.length:Int) (ss.length:Int) _ _ _ _).ev=_;rw[qkv];exact(brF (by simp)).trans rfl
 |succ k ih=>
  intro n p hn hp;have h:n<ss.length:=by omega
  have e:ss.drop n=ss[n]::ss.drop (n+1):=(jC8 h).symm;rw[qao (v':=(ES ss,(ss.length:Int),((n+1:Nat):Int),stP T (qqg (T:=T) ss[n] p))) ?_]
  ·rw[ih (n+1) _ (by omega) (qew hp),e];rfl
  ·show(qkv (ES ss) (ss.length:Int) (n:Int) (stP T p).1 (stP T p).2.1 (stP T p).2.2.1 (stP T p).2.2.2).ev=_;rw[qkv];refine(brT (qaV h)).trans ((brT (qAf h)).trans ?_);rw[qs0 h];refine(biS (qfS hT hv _ hp)).trans ?_;unfold qqg;rw[<-qar h hs];cases ha:qmI ss[n] p
   ·refine(brT (by show(!false)=true;rfl)).trans ?_;rw[qyZ ha];exact(biS (qLY hT 2 hp)).trans rfl
   ·exact(brF (by show(!true)=false;rfl)).trans rfl
theorem qY4(hT:T.length<=1000000)(hv:∀t∈T,qaT t=true){ss:List Bs}(hs:ss.length<=big){p:PS}(hp:p.Ok T):qa0 (ES ss) (stP T p).1 (stP T p).2.1 (stP T p).2.2.1 (stP T p).2.2.2=some (stP T (qPI (T:=T) ss p)):=by
 rw[qUL,qBK,qDg,jA5];have h:=zlo hT hv hs ss.length 0 p (by omega) hp;rw[List.drop_zero]at h;refine(biS (v:=(ES ss,(ss.length:Int),(ss.length:Int),stP T (qPI (T:=T) ss p))) ?_).trans rfl;show pj 0 (qaf (fun v=>(qvL v).ev) (ES ss,(ss.length:Int),((0:Nat):Int),stP T p))=_;rw[h];rfl
theorem qdR(hT:T.length<=1000000)(hv:∀t∈T,qaT t=true)(s:Bs){p:PS}(hp:p.Ok T):∃p',qa0 [AV.str s] (stP T p).1 (stP T p).2.1 (stP T p).2.2.1 (stP T p).2.2.2=some (stP T p')/\Does T (qc2 s) (fun _ (_:Unit)=>True) p () p':=
 ⟨qqg (T:=T) s p,qY4 hT hv (ss:=[s]) (by simp[big]) hp,qnW s hp⟩
theorem qya(hT:T.length<=1000000)(hv:∀t∈T,qaT t=true){ss:List Bs}(hs:ss.length<=big){p:PS}(hp:p.Ok T):∃p',qa0 (ES ss) (stP T p).1 (stP T p).2.1 (stP T p).2.2.1 (stP T p).2.2.2=some (stP T p')/\Does T (qcA ss) (fun _ (_:Unit)=>True) p () p':=
 ⟨qPI (T:=T) ss p,qY4 hT hv hs hp,qdA ss hp⟩
theorem quG(hT:T.length<=1000000)(hv:∀t∈T,qaT t=true)(k:Int){p:PS}(hp:p.Ok T):∃v p',qgv k (stP T p).1 (stP T p).2.1 (stP T p).2.2.1 (stP T p).2.2.2=some (v,stP T p')/\Does T (qcZ k) Eq p v p'/\(v= []\/qaT ⟨k,0,v⟩=true):=by
 rw[qUK,qBJ];have no:∀{p:PS},p.Ok T->(∀l,p= .good l->qcZ k l= .bad l 2)-> ∃v p',(DT.bi (qcm 2 (stP T p).2.1 (stP T p).1 (stP T p).2.1 (stP T p).2.2.1 (stP T p).2.2.2) (fun y1=>DT.at (([],y1.fst,y1.snd.fst,y1.snd.snd.fst,y1.snd.snd.snd):qRK)) .no).ev=some (v,stP T p')/\Does T (qcZ k) Eq p v p'/\(v= []\/qaT ⟨k,0,v⟩=true):=by
  intro p hp hz;refine⟨[],qHf (T:=T) 2 p,(biS (qLY hT 2 hp)).trans rfl,⟨qqr hp (by decide),?_⟩,.inl rfl⟩;cases p with
  |bad q e a=>exact⟨a,rfl⟩
  |good l=>
   dsimp only;rw[hz l rfl];exact⟨_,rfl⟩
 cases p with
 |bad q e a=>
  obtain⟨v,p',h1,h2⟩:=no (p:=.bad q e a) hp (fun l h=>nomatch h);exact⟨v,p',(biS (q92 k hp)).trans ((brT rfl).trans h1),h2⟩
 |good l=>
  cases l with
  |nil=>
   obtain⟨v,p',h1,h2⟩:=no (p:=.good []) hp (fun l h=>by cases h;rfl);exact⟨v,p',(biS (q92 k hp)).trans ((brT rfl).trans h1),h2⟩
  |cons t l=>
   cases hk:(t.kind==k)
   ·obtain⟨v,p',h1,h2⟩:=no (p:=.good (t::l)) hp (fun l h=>by cases h;simp only[qcZ,hk];rfl);exact⟨v,p',(biS (q92 k hp)).trans ((brT (by show(!(t.kind==k))=true;rw[hk];rfl)).trans h1),h2⟩
   ·have e:IntKind.i64.wrap (IntKind.i64.wrap (pos T (t::l)+1)-1)=pos T (t::l):=by rw[qbO hp hT,qL3 hp hT]
    refine⟨t.text,.good l,(biS (q92 k hp)).trans ((brF (by show(!(t.kind==k))=false;rw[hk];rfl)).trans ((brT (by show qaH _ (ET T) (IntKind.i64.wrap (IntKind.i64.wrap (pos T (t::l)+1)-1))=true;rw[e];exact qAe hp)).trans ?_)),⟨qaK hp,?_⟩,.inr ?_⟩
    ·show some (strOf (cellAt (ET T) (IntKind.i64.wrap (IntKind.i64.wrap (pos T (t::l)+1)-1)) 2),ET T,IntKind.i64.wrap (pos T (t::l)+1),0,0)=_;rw[e,qwc hp,qbO hp hT];rfl
    ·dsimp only;simp[qcZ,hk]
    ·have hk':t.kind=k:=by simpa using hk
     have:=hv t (hp.subset (by simp));rw[<-hk'];exact this
theorem qxW{k:Int}{v:Bs}(h:v= []\/qaT ⟨k,0,v⟩=true):v.length<=2048:=by
 rcases h with rfl|h
 ·simp
 ·exact(qen h).1
theorem qk3(hT:T.length<=1000000)(hv:∀t∈T,qaT t=true){p:PS}(hp:p.Ok T):∃v p',qjt (stP T p).1 (stP T p).2.1 (stP T p).2.2.1 (stP T p).2.2.2=some (v,stP T p')/\Does T quz Eq p v p':=by
 obtain⟨s,p',h1,h2,h3⟩:=quG hT hv 2 hp;have hl:=qxW h3;have hp':pOk s=true:=by simp only[pOk,jA6];omega
 have key:∃v,(DT.br (pOk s&&nOk (Lib.atoiAll s)) (.at ((qPP (Lib.atoiAll s),stP T p'):qRE)) (.br (pOk s&&qh5 (Lib.atoiAll s)) (.at (Lib.atoiSat s,stP T p')) (.br (pOk s&&qdo (Lib.atoiAll s)) (.at (0,stP T p')) .no))).ev=some (v,stP T p')/\ ∀n,qj9 s=some n->v=n:=by
  rw[hp'];simp only[jBm];cases ha:Lib.atoiAll s with
  |ok v=>exact⟨v,(brT rfl).trans rfl,fun n hn=>by have:=(qna hn).1;rw[ha]at this;cases this;rfl⟩
  |range=>exact⟨_,(brF rfl).trans ((brT rfl).trans rfl),fun n hn=>by have:=(qna hn).1;rw[ha]at this;cases this⟩
  |_=>exact⟨_,(brF rfl).trans ((brF rfl).trans ((brT rfl).trans rfl)),fun n hn=>by have:=(qna hn).1;rw[ha]at this;cases this⟩
 obtain⟨v,k1,k2⟩:=key;refine⟨v,p',?_,h2.ok,?_⟩
 ·rw[qUz,qBy];exact(biS h1).trans k1
 ·have h4:=h2.2;cases p with
  |bad q e a=>exact h4
  |good l=>
   cases l with
   |nil=>exact h4
   |cons t l=>
    have hn:quz (t::l)=match (bif t.kind==2 then qj9 t.text else none)with|some n=>.ok n l|none=>.bad (t::l) 2:=rfl
    dsimp only;rw[hn];have h5:=h4;dsimp only at h5;simp only[qcZ]at h5;cases hk:(t.kind==2)
    ·rw[hk]at h5;exact h5
    ·rw[hk]at h5;obtain⟨e1,e2⟩:=h5;obtain⟨n,hn⟩:=q9W (hv t (hp.subset (by simp))) (by simpa using hk);simp only[jAa,hn];exact⟨(k2 n (by rw[<-e1];exact hn)).symm,e2⟩
theorem q93(hT:T.length<=1000000)(hv:∀t∈T,qaT t=true){p:PS}(hp:p.Ok T):∃v p',qpR (stP T p).1 (stP T p).2.1 (stP T p).2.2.1 (stP T p).2.2.2=some (v,stP T p')/\Does T qng Eq p v p':=by
 obtain⟨s,p',h1,h2,h3⟩:=quG hT hv 3 hp;have hl:=qxW h3;refine⟨(qbm s).1,p',?_,h2.ok,?_⟩
 ·rw[qUJ,qBI];exact(biS h1).trans ((biS (qmc (by simp only[big];omega))).trans rfl)
 ·have h4:=h2.2;cases p with
  |bad q e a=>exact h4
  |good l=>
   cases l with
   |nil=>exact h4
   |cons t l=>
    dsimp only;have h5:=h4;dsimp only at h5;simp only[qcZ]at h5;simp only[qng];cases hk:(t.kind==3)
    ·rw[hk]at h5;exact h5
    ·rw[hk]at h5;obtain⟨e1,e2⟩:=h5;have hr:=qL9 (hv t (hp.subset (by simp))) (by simpa using hk);have hr':((qbm t.text).2==0)=true:=by rw[hr];rfl
     rw[hr',jBt,jAa];exact⟨by rw[<-e1],e2⟩
theorem q5j(hT:T.length<=1000000)(hv:∀t∈T,qaT t=true){ws:List Bs}(hs:ws.length<=big){p:PS}(hp:p.Ok T):∀(k n:Nat),n+k=ws.length ->
  (∃j,∃h:j<ws.length,n<=j/\qmI ws[j] p=true/\qaf (fun v=>(qmC v).ev) (ES ws,(ws.length:Int),(n:Int),stP T p)=some (0,ES ws,(ws.length:Int),(j:Int),stP T p)/\ ∀l,p= .good l->qgS n (ws.drop n) l= .ok ((j+1:Nat):Int) l.tail) \/
  (qaf (fun v=>(qmC v).ev) (ES ws,(ws.length:Int),(n:Int),stP T p)=some (1,ES ws,(ws.length:Int),(ws.length:Int),stP T p)/\ ∀l,p= .good l->qgS n (ws.drop n) l= .bad l 2):=by
 intro k
 induction k with
 |zero=>
  intro n hn;have e:n=ws.length:=by omega
  subst e;refine .inr ⟨qag ?_,fun l _=>by rw[jC0];rfl⟩;show(qgO (ES ws) (ws.length:Int) (ws.length:Int) _ _ _ _).ev=_;rw[qgO];exact(brF (by simp)).trans rfl
 |succ k ih=>
  intro n hn;have h:n<ws.length:=by omega
  have e:ws.drop n=ws[n]::ws.drop (n+1):=(jC8 h).symm;cases ha:qmI ws[n] p
  ·have hst:(fun v=>(qmC v).ev) (ES ws,(ws.length:Int),(n:Int),stP T p)=some (.next (ES ws,(ws.length:Int),((n+1:Nat):Int),stP T p)):=by
    show(qgO (ES ws) (ws.length:Int) (n:Int) (stP T p).1 (stP T p).2.1 (stP T p).2.2.1 (stP T p).2.2.2).ev=_;rw[qgO];refine(brT (qaV h)).trans ((brT (qAf h)).trans ?_);rw[qs0 h];refine(biS (qfS hT hv _ hp)).trans ?_;rw[<-qar h hs];refine(brF ha).trans ?_;rw[qyZ ha];rfl
   rw[qao hst];have hz:∀l,p= .good l->qgS n (ws.drop n) l=qgS (n+1) (ws.drop (n+1)) l:=by
    rintro l rfl;rw[e];have:isW ws[n] l=false:=ha;simp only[qgS,this,jA9]
   rcases ih (n+1) (by omega)with⟨j,hj,h1,h2,h3,h4⟩|⟨h3,h4⟩
   ·exact .inl ⟨j,hj,by omega,h2,h3,fun l hl=>(hz l hl).trans (h4 l hl)⟩
   ·exact .inr ⟨h3,fun l hl=>(hz l hl).trans (h4 l hl)⟩
  ·refine .inl ⟨n,h,jAj n,ha,qag ?_,?_⟩
   ·show(qgO (ES ws) (ws.length:Int) (n:Int) (stP T p).1 (stP T p).2.1 (stP T p).2.2.1 (stP T p).2.2.2).ev=_;rw[qgO];refine(brT (qaV h)).trans ((brT (qAf h)).trans ?_);rw[qs0 h];exact(biS (qfS hT hv _ hp)).trans ((brT ha).trans rfl)
   ·rintro l rfl;rw[e];have:isW ws[n] l=true:=ha;simp only[qgS,this,jAa]
theorem qkZ(hT:T.length<=1000000)(hv:∀t∈T,qaT t=true){ws:List Bs}(hs:ws.length<=1000){p:PS}(hp:p.Ok T):∃v p',qg4 (ES ws) (stP T p).1 (stP T p).2.1 (stP T p).2.2.1 (stP T p).2.2.2=some (v,stP T p')/\Does T (qgS 0 ws) Eq p v p':=by
 rw[qUy,qBx,qDb,jA5];rcases q5j hT hv (ws:=ws) (by simp only[big];omega) hp ws.length 0 (by omega)with⟨j,hj,_,h2,h3,h4⟩|⟨h3,h4⟩
 ·refine⟨((j+1:Nat):Int),q86 ws[j] p,?_,qTh hp,?_⟩
  ·refine(biS (v:=(ES ws,(ws.length:Int),(j:Int),stP T p)) ?_).trans ?_
   ·show pj 0 (qaf _ (ES ws,(ws.length:Int),((0:Nat):Int),stP T p))=_;rw[h3];rfl
   ·have hacc:=qfS hT hv ws[j] hp;have hq:=qs0 hj;show some (IntKind.i64.wrap ((j:Int)+1),(gv (qap (strOf (cellAt (ES ws) (j:Int) 0)) (stP T p).1 (stP T p).2.1 (stP T p).2.2.1 (stP T p).2.2.2)).snd)=_;rw[hq,hacc,qar hj (by simp only[big];omega)];rfl
  ·cases p with
   |bad q e a=>cases h2
   |good l=>
    have hi:isW ws[j] l=true:=h2;have hz:=h4 l rfl;dsimp only;rw[show qgS 0 ws l=_ from hz];refine⟨rfl,?_⟩;show PS.good (bif isW ws[j] l then l.tail else l)=_;rw[hi];rfl
 ·refine⟨0,qHf (T:=T) 2 p,?_,qqr hp (by decide),?_⟩
  ·have e3:qaf (fun v=>(qmC v).ev) (ES ws,(ws.length:Int),0,stP T p)=some (1,ES ws,(ws.length:Int),(ws.length:Int),stP T p):=h3;refine(biN ?_).trans ((biS (v:=(ES ws,(ws.length:Int),(ws.length:Int),stP T p)) ?_).trans ((biS (qLY hT 2 hp)).trans rfl))
   ·show pj 0 (qaf _ (ES ws,(ws.length:Int),0,stP T p))=_;rw[e3];rfl
   ·show pj 1 (qaf _ (ES ws,(ws.length:Int),0,stP T p))=_;rw[e3];rfl
  ·cases p with
   |bad q e a=>exact⟨a,rfl⟩
   |good l=>
    have hz:=h4 l rfl;dsimp only;rw[show qgS 0 ws l=_ from hz];exact⟨_,rfl⟩
end
end Go.Proofs.H16
namespace Go.Proofs.H16
open Go Go.Eng Go.Tk
set_option maxRecDepth 20000
section
variable {T:List Tok}
theorem qTw{α β γ:Type}(x:Pz α)(f:α->List Tok->Pz β)(g:β->List Tok->Pz γ):(x.bnd f).bnd g=x.bnd fun a r=>(f a r).bnd g:=by cases x<;>rfl
theorem zlM(hT:T.length<=1000000)(hv:∀t∈T,qaT t=true){p:PS}(hp:p.Ok T):∃v p',qCT (stP T p).1 (stP T p).2.1 (stP T p).2.2.1 (stP T p).2.2.2=some (v,stP T p')/\Does T qgl Eq p v p':=by
 obtain⟨s,p1,h1,D,hs⟩:=quG hT hv 1 hp;have hl:=qxW hs;have hvar:s= []\/qc4 s=true:=hs.imp id fun h=>zft h
 have key:∃b,br ((s.length:Int) != 3) (some true) (br (decide (s.length<=1000000)&&(qCv s&&qCv [48,49,50,51,52,53,54,55,56,57,95])) (some (Lib.containsAny s [48,49,50,51,52,53,54,55,56,57,95])) none)=some b/\(b=true->qsK s=none)/\(b=false->qsK s=some (Lib.toUpperA s)/\(decide (s.length<=1000000)&&qCv s)=true):=by
  by_cases h3:s.length=3
  ·have hne:((s.length:Int) != 3)=false:=by rw[h3];rfl
   have hv3:qc4 s=true:=hvar.resolve_left fun h=>by rw[h]at h3;cases h3
   have ha:=q5z hv3;have hle:decide (s.length<=1000000)=true:=jA8 (by omega);refine⟨Lib.containsAny s digsU,?_,?_,?_⟩
   ·rw[hne,ha,hle];rfl
   ·intro hc;rw[qIW hv3 h3,jAr hc]
   ·intro hc;rw[qIW hv3 h3,jAm (by rw[hc];decide),ha,hle];exact⟨rfl,rfl⟩
  ·have hne:((s.length:Int) != 3)=true:=by
    rw[bne_iff_ne];omega
   refine⟨true,by rw[hne];rfl,fun _=>?_,fun h=>by cases h⟩;unfold qsK;rw[jAm fun h=>h3 h.1]
 obtain⟨b,k1,k2,k3⟩:=key;rw[qUH,qBH];have D2:=D.2;cases p with
 |bad q e a=>
  obtain⟨k',rfl⟩:=D2;cases b with
  |true=>exact⟨[],.bad q e k',(biS h1).trans ((biS k1).trans ((brT rfl).trans ((biS (quF 2 a D.ok (fun l h=>nomatch h))).trans rfl))),D.ok,k',rfl⟩
  |false=>exact⟨_,.bad q e k',(biS h1).trans ((biS k1).trans ((brF rfl).trans ((brT (k3 rfl).2).trans rfl))),D.ok,k',rfl⟩
 |good l=>
  dsimp only at D2;cases hz:qcZ 1 l with
  |bad q e=>
   rw[hz]at D2;obtain⟨k',rfl⟩:=D2;have hzz:qgl l= .bad q e:=by unfold qgl;rw[hz];rfl
   have fin:∀v,Does T qgl Eq (.good l) v (.bad q e k'):=fun v=>⟨D.ok,by dsimp only;rw[hzz];exact⟨k',rfl⟩⟩
   cases b with
   |true=>exact⟨[],.bad q e k',(biS h1).trans ((biS k1).trans ((brT rfl).trans ((biS (quF 2 _ D.ok (fun l h=>nomatch h))).trans rfl))),fin _⟩
   |false=>exact⟨_,.bad q e k',(biS h1).trans ((biS k1).trans ((brF rfl).trans ((brT (k3 rfl).2).trans rfl))),fin _⟩
  |ok s' r=>
   rw[hz]at D2;obtain⟨rfl,rfl⟩:=D2;cases b with
   |true=>
    refine⟨[],.bad l 2 (pos T r),(biS h1).trans ((biS k1).trans ((brT rfl).trans ((biS (qDS hT 2 hp D.ok)).trans rfl))),⟨by decide,hp⟩,?_⟩;have hzz:qgl l= .bad l 2:=by unfold qgl;rw[hz];show(match qsK s' with|some c=>Pz.ok c r|none=>.bad l 2)=_;rw[k2 rfl]
    dsimp only;rw[hzz];exact⟨_,rfl⟩
   |false=>
    refine⟨Lib.toUpperA s',.good r,(biS h1).trans ((biS k1).trans ((brF rfl).trans ((brT (k3 rfl).2).trans rfl))),D.ok,?_⟩;have hzz:qgl l= .ok (Lib.toUpperA s') r:=by unfold qgl;rw[hz];show(match qsK s' with|some c=>Pz.ok c r|none=>.bad l 2)=_;rw[(k3 rfl).1]
    dsimp only;rw[hzz];exact⟨rfl,rfl⟩
def q9l(l:List Tok):Pz (Int×Int×Int):=(quz l).bnd fun y r=>(qc2 [47] r).bnd fun _ r=>(quz r).bnd fun m r=>(qc2 [47] r).bnd fun _ r=>(quz r).bnd fun d r=>.ok (y,m,d) r
theorem qza(l:List Tok):qI1 qit l=(q9l l).bnd fun c r=>match qit c.1 c.2.1 c.2.2 with|some n=>.ok n r|none=>.bad l 1:=by
 unfold qI1 q9l;simp only[qTw];rfl
theorem qCJ{l r:List Tok}{y m d n:Int}(h:q9l l= .ok (y,m,d) r)(hd:qit y m d=some n):qI1 qit l= .ok n r:=by
 rw[qza,h];simp only[Pz.bnd,hd]
theorem qCI{l r:List Tok}{y m d:Int}(h:q9l l= .ok (y,m,d) r)(hd:qit y m d=none):qI1 qit l= .bad l 1:=by
 rw[qza,h];simp only[Pz.bnd,hd]
theorem qJf{l r:List Tok}(h:exS l= .bad r):qGm exS l= .bad r 2:=by
 unfold qGm;rw[h]
theorem qUf{l r:List Tok}{e:Ex}(h:exS l= .ok e r):qGm exS l=bif qaO e==0 then .ok e r else .bad l (qaO e):=by
 unfold qGm;rw[h]
theorem qAl(k:Int)(e:Ex)(r:List Tok):qqv T k (.ok e r)=bif qaO e==0 then(e.op,e.num,e.txt,EX e.args,pos T r,0)else zck k (qaO e):=rfl
theorem zr9(hT:T.length<=1000000)(hv:∀t∈T,qaT t=true){p:PS}(hp:p.Ok T):∃v p',qCV (stP T p).1 (stP T p).2.1 (stP T p).2.2.1 (stP T p).2.2.2=some (v,stP T p')/\Does T (qI1 qit) Eq p v p':=by
 obtain⟨y,p1,h1,D1⟩:=qk3 hT hv hp;obtain⟨p2,h2,D2⟩:=qdR hT hv [47] D1.ok;obtain⟨m,p3,h3,D3⟩:=qk3 hT hv D2.ok;obtain⟨p4,h4,D4⟩:=qdR hT hv [47] D3.ok;obtain⟨d,p5,h5,D5⟩:=qk3 hT hv D4.ok;have K4:=D5.stuck;have K3:=D4.stuck.trans K4;have K2:=D3.stuck.trans K3;have K1:=D2.stuck.trans K2;have D:Does T q9l (fun c (v:Int×Int×Int)=>c=v) p (y,m,d) p5:=D1.bnd K1 D5.ok fun y' e1=>D2.bnd K2 D5.ok fun _ _=>D3.bnd K3 D5.ok fun m' e2=>D4.bnd K4 D5.ok fun _ _=>D5.map fun d' e3=>by rw[e1,e2,e3]
 rw[qUN];have pre:∀{x},(DT.br ((qwr y m d).2 != 0) (.bi (qcm 1 (stP T p).2.1 (stP T p5).1 (stP T p5).2.1 (stP T p5).2.2.1 (stP T p5).2.2.2) (fun y6=>.at (((qwr y m d).1,y6.fst,y6.snd.fst,y6.snd.snd.fst,y6.snd.snd.snd):qIK)) .no) (.at ((qwr y m d).1,stP T p5))).ev=x->(qwk (stP T p).1 (stP T p).2.1 (stP T p).2.2.1 (stP T p).2.2.2).ev=x:=fun hx=>by
  rw[qwk];exact(biS h1).trans ((biS h2).trans ((biS h3).trans ((biS h4).trans ((biS h5).trans ((biS (qHa y m d)).trans hx)))))
 have E2:=D.2;have stop:∀{q:List Tok} {e k:Int},p5= .bad q e k-> ∃v p',(DT.br ((qwr y m d).2 != 0) (.bi (qcm 1 (stP T p).2.1 (stP T p5).1 (stP T p5).2.1 (stP T p5).2.2.1 (stP T p5).2.2.2) (fun y6=>.at (((qwr y m d).1,y6.fst,y6.snd.fst,y6.snd.snd.fst,y6.snd.snd.snd):qIK)) .no) (.at ((qwr y m d).1,stP T p5))).ev=some (v,stP T p')/\p'= .bad q e k:=by
  intro q e k h5;refine⟨(qwr y m d).1,p5,?_,h5⟩;cases hb:((qwr y m d).2 != 0)
  ·exact(brF rfl).trans rfl
  ·exact(brT rfl).trans ((biS (quF 1 _ D5.ok (fun l h=>by rw[h5]at h;cases h))).trans rfl)
 cases p with
 |bad q e a=>
  obtain⟨k',hk'⟩:=E2;obtain⟨v,p',g1,rfl⟩:=stop hk';exact⟨v,_,pre g1,by rw[<-hk'];exact D5.ok,k',rfl⟩
 |good l=>
  dsimp only at E2;have hz:=qza l;cases h5z:q9l l with
  |bad q e=>
   rw[h5z]at E2 hz;obtain⟨k',hk'⟩:=E2;obtain⟨v,p',g1,rfl⟩:=stop hk';refine⟨v,_,pre g1,by rw[<-hk'];exact D5.ok,?_⟩;dsimp only;rw[hz];exact⟨k',rfl⟩
  |ok c r=>
   rw[h5z]at E2;obtain⟨rfl,hp5⟩:=E2;cases hd:qit y m d with
   |some n=>
    have hr:qwr y m d=(n,0):=by unfold qwr;rw[hd]
    refine⟨n,p5,pre ?_,D5.ok,?_⟩
    ·rw[hr];exact(brF rfl).trans rfl
    ·dsimp only;rw[qCJ h5z hd];exact⟨rfl,hp5⟩
   |none=>
    have hr:qwr y m d=(0,1):=by unfold qwr;rw[hd]
    subst hp5;refine⟨0,.bad l 1 (pos T r),pre ?_,⟨by decide,hp⟩,?_⟩
    ·rw[hr];exact(brT rfl).trans ((biS (qDS hT 1 hp D5.ok)).trans rfl)
    ·dsimp only;rw[qCI h5z hd];exact⟨_,rfl⟩
abbrev VEx(e:Ex)(v:Int×Int×Bs×List AV):Prop:=v=(e.op,e.num,e.txt,EX e.args)
theorem qI4{l:List Tok}(h:l <:+ T):T.drop (pos T l).toNat=l:=by
 obtain⟨p,rfl⟩:=h;have e:(pos (p++l) l).toNat=p.length:=by unfold pos;simp
 rw[e,List.drop_left]
theorem qW3(hT:T.length<=1000000)(hv:∀t∈T,qaT t=true){p:PS}(hp:p.Ok T):∃v p',qjv (stP T p).1 (stP T p).2.1 (stP T p).2.2.1 (stP T p).2.2.2=some (v.1,v.2.1,v.2.2.1,v.2.2.2,stP T p')/\Does T (qGm exS) VEx p v p':=by
 rw[qUI];cases p with
 |bad q e a=>exact⟨(0,0,[],[]),.bad q e a,by rw[qpI];exact(brT (qmP hp.1)).trans rfl,hp,a,rfl⟩
 |good l=>
  have hb:∀t∈T,t.text.length<=1000000:=fun t ht=>by have:=(qen (hv t ht)).1;omega
  obtain⟨b1,b2⟩:=q4m hT hb (pos T l);have hlen:=List.IsSuffix.length_le hp;have hlen':l.length<=T.length:=hlen;have hpos:¬(pos T l<0\/(T.length:Int)<pos T l):=by unfold pos;omega
  have hS:qL1 T (pos T l)=qqv T (pos T l) (exS l):=by
   unfold qL1;rw[jAm hpos,qI4 hp]
  rw[hS]at b2;have hgood:=(qpP l).good;have cE:paE IP 157 (ET T) (pos T l)=(qqv T (pos T l) (exS l)).2.2.2.2.2:=by unfold paE;rw[b2]
  have cK:paK IP 157 (ET T) (pos T l)=(qqv T (pos T l) (exS l)).2.2.2.2.1:=by unfold paK;rw[b2]
  have cO:paO IP 157 (ET T) (pos T l)=(qqv T (pos T l) (exS l)).1:=by unfold paO;rw[b2]
  have cN:paN IP 157 (ET T) (pos T l)=(qqv T (pos T l) (exS l)).2.1:=by unfold paN;rw[b2]
  have cS:paS IP 157 (ET T) (pos T l)=(qqv T (pos T l) (exS l)).2.2.1:=by unfold paS;rw[b2]
  have cX:paX IP 157 (ET T) (pos T l)=(qqv T (pos T l) (exS l)).2.2.2.1:=by unfold paX;rw[b2]
  have go:∀{x},(DT.br (paE IP 157 (ET T) (pos T l) != 0) (.bi (qcm (paE IP 157 (ET T) (pos T l)) (paK IP 157 (ET T) (pos T l)) (ET T) (pos T l) 0 0) (fun y0=>.at ((0,0,[],[],y0.fst,y0.snd.fst,y0.snd.snd.fst,y0.snd.snd.snd):qRI)) .no)
    (.at (paO IP 157 (ET T) (pos T l),paN IP 157 (ET T) (pos T l),paS IP 157 (ET T) (pos T l),paX IP 157 (ET T) (pos T l),ET T,paK IP 157 (ET T) (pos T l),0,0))).ev=x->(qpI (ET T) (pos T l) 0 0).ev=x:=fun hx=>by
   rw[qpI];exact(brF rfl).trans ((brT b1).trans hx)
  cases hx:exS l with
  |bad r=>
   have hz:=qJf hx;rw[hx]at cE cK hgood;have hr:r <:+ T:=List.IsSuffix.trans hgood hp;refine⟨(0,0,[],[]),.bad r 2 (pos T l),go ?_,⟨by decide,hr⟩,?_⟩
   ·rw[cE,cK];exact(brT rfl).trans ((biS (qDS hT 2 hr (p:=.good l) hp)).trans rfl)
   ·dsimp only;rw[hz];exact⟨_,rfl⟩
  |ok e r=>
   have hz:=qUf hx;rw[hx]at cE cK cO cN cS cX hgood;have hr:r <:+ T:=List.IsSuffix.trans hgood.1 hp;cases h0:(qaO e==0)
   ·have hx1:qqv T (pos T l) (.ok e r)=zck (pos T l) (qaO e):=by rw[qAl,h0];rfl
    rw[hx1]at cE cK;refine⟨(0,0,[],[]),.bad l (qaO e) (pos T l),go ?_,⟨by simpa using h0,hp⟩,?_⟩
    ·rw[cE,cK];exact(brT (by show(qaO e != 0)=true;rw[bne,h0];rfl)).trans ((biS (qDS hT (qaO e) (q:=l) hp (p:=.good l) hp)).trans rfl)
    ·dsimp only;rw[hz,h0];exact⟨_,rfl⟩
   ·have hx1:qqv T (pos T l) (.ok e r)=(e.op,e.num,e.txt,EX e.args,pos T r,0):=by rw[qAl,h0];rfl
    rw[hx1]at cE cK cO cN cS cX;refine⟨(e.op,e.num,e.txt,EX e.args),.good r,go ?_,hr,?_⟩
    ·rw[cE,cK,cO,cN,cS,cX];exact(brF rfl).trans rfl
    ·dsimp only;rw[hz,h0];exact⟨rfl,rfl⟩
abbrev Mi:=Bool×Int×Int×Bool×Bool×Int×Int×Bool
abbrev hi0(s:StP)(m:Mi):qeH:=.inl (s.1,s.2.1,s.2.2.1,s.2.2.2,m.1,m.2.1,m.2.2.1,m.2.2.2.1,m.2.2.2.2.1,m.2.2.2.2.2.1,m.2.2.2.2.2.2.1,m.2.2.2.2.2.2.2)
abbrev hi1(s:StP)(m:Mi)(A:List AV):qeH:=.inr (s.1,s.2.1,s.2.2.1,s.2.2.2,m.1,m.2.1,m.2.2.1,m.2.2.2.1,m.2.2.2.2.1,m.2.2.2.2.2.1,m.2.2.2.2.2.2.1,m.2.2.2.2.2.2.2,A)
noncomputable abbrev stI:=fun v=>(qAF v).ev
theorem q1T(hT:T.length<=1000000)(hv:∀t∈T,qaT t=true){p:PS}(hp:p.Ok T):∃a b p1 p2 p3 p',qjt (stP T p).1 (stP T p).2.1 (stP T p).2.2.1 (stP T p).2.2.2=some (a,stP T p1)/\qa0 [AV.str [58]] (stP T p1).1 (stP T p1).2.1 (stP T p1).2.2.1 (stP T p1).2.2.2=some (stP T p2) /\
  qpR (stP T p2).1 (stP T p2).2.1 (stP T p2).2.2.1 (stP T p2).2.2.2=some (b,stP T p3)/\qa0 [AV.str [59]] (stP T p3).1 (stP T p3).2.1 (stP T p3).2.2.1 (stP T p3).2.2.2=some (stP T p')/\Does T qlD (fun t (v:Int×Int)=>v=(t.from_,t.ppm)) p (a,b) p':=by
 obtain⟨a,p1,h1,D1⟩:=qk3 hT hv hp;obtain⟨p2,h2,D2⟩:=qdR hT hv [58] D1.ok;obtain⟨b,p3,h3,D3⟩:=q93 hT hv D2.ok;obtain⟨p4,h4,D4⟩:=qdR hT hv [59] D3.ok;have K3:=D4.stuck;have K2:=D3.stuck.trans K3;have K1:=D2.stuck.trans K2;exact⟨a,b,p1,p2,p3,p4,h1,h2,h3,h4,D1.bnd K1 D4.ok fun a' e1=>D2.bnd K2 D4.ok fun _ _=>D3.bnd K3 D4.ok fun b' e2=>D4.map fun _ _=>by rw[e1,e2]⟩
theorem qwg(hT:T.length<=1000000)(hv:∀t∈T,qaT t=true){p:PS}(hp:p.Ok T)(ha:qmI [36] p=false)(m:Mi):qaf stI (hi0 (stP T p) m)=some (0,hi0 (stP T p) m)/\ ∀A,qaf stI (hi1 (stP T p) m A)=some (1,hi1 (stP T p) m A):=by
 have hacc:=qfS hT hv [36] hp;rw[ha]at hacc;constructor
 ·refine qag ?_;show(qkq (stP T p).1 (stP T p).2.1 (stP T p).2.2.1 (stP T p).2.2.2 _ _ _ _ _ _ _ _).ev=_;rw[qkq];exact(biS hacc).trans ((brF rfl).trans rfl)
 ·intro A;refine qag ?_;show(qkr (stP T p).1 (stP T p).2.1 (stP T p).2.2.1 (stP T p).2.2.2 _ _ _ _ _ _ _ _ A).ev=_;rw[qkr];exact(biS hacc).trans ((brF rfl).trans rfl)
abbrev trA(a b:Int):AV:=.agg [.int .i64 a,.int .i64 b]
theorem q1S(hT:T.length<=1000000)(hv:∀t∈T,qaT t=true){l:List Tok}(hl:l <:+ T)(hi:isW [36] l=true)(m:Mi):∃a b p',Does T qlD (fun t (v:Int×Int)=>v=(t.from_,t.ppm)) (.good l.tail) (a,b) p'/\qaf stI (hi0 (stP T (.good l)) m)=qaf stI (hi1 (stP T p') m [trA a b])/\ ∀A,A.length<=1000000->qaf stI (hi1 (stP T (.good l)) m A)=qaf stI (hi1 (stP T p') m (A++[trA a b])):=by
 have hacc:=qfS hT hv [36] (p:=.good l) hl;have e1:qmI [36] (.good l)=true:=hi;have e2:q86 [36] (.good l)= .good l.tail:=by show PS.good (bif isW [36] l then l.tail else l)=_;rw[hi];rfl
 rw[e1,e2]at hacc;obtain⟨a,b,p1,p2,p3,p',h1,h2,h3,h4,D⟩:=q1T hT hv (p:=.good l.tail) (qaK hl);refine⟨a,b,p',D,qao ?_,fun A hA=>qao ?_⟩
 ·show(qkq (stP T (.good l)).1 (stP T (.good l)).2.1 (stP T (.good l)).2.2.1 (stP T (.good l)).2.2.2 _ _ _ _ _ _ _ _).ev=_;rw[qkq];exact(biS hacc).trans ((brT rfl).trans ((biS h1).trans ((biS h2).trans ((biS h3).trans ((biS h4).trans rfl)))))
 ·show(qkr (stP T (.good l)).1 (stP T (.good l)).2.1 (stP T (.good l)).2.2.1 (stP T (.good l)).2.2.2 _ _ _ _ _ _ _ _ A).ev=_;rw[qkr];exact(biS hacc).trans ((brT rfl).trans ((biS h1).trans ((biS h2).trans ((biS h3).trans ((biS h4).trans ((brT (qcY (by simp only[lim,Prod.i,Prod.h,Prod.f];omega))).trans rfl))))))
theorem zg3(hT:T.length<=1000000)(hv:∀t∈T,qaT t=true)(m:Mi):∀(n:Nat) (l:List Tok) (acc:List Tr),l <:+ T->l.length<n->acc.length+l.length<=1000000-> ∃p' A,Does T (qcV n acc) (fun ts (v:List AV)=>v=ETr ts) (.good l) A p'/\qmI [36] p'=false/\qaf stI (hi1 (stP T (.good l)) m (ETr acc))=some (1,hi1 (stP T p') m A):=by
 intro n
 induction n with
 |zero=>intro l acc _ h;omega
 |succ n ih=>
  intro l acc hl hn hb;cases hi:isW [36] l
  ·refine⟨.good l,ETr acc,⟨hl,?_⟩,hi,(qwg hT hv (p:=.good l) hl hi m).2 _⟩;dsimp only;simp only[qcV,hi,jA9];exact⟨trivial,trivial⟩
  ·obtain⟨a,b,p',D,_,hnx⟩:=q1S hT hv hl hi m;have hnx:=hnx (ETr acc) (by rw[jA5];omega);have D2:=D.2;dsimp only at D2;have hz:qcV (n+1) acc l=(qlD l.tail).bnd fun t l=>qcV n (acc++[t]) l:=by simp only[qcV,hi,jAa]
   cases ht:qlD l.tail with
   |bad q e=>
    rw[ht]at D2 hz;obtain⟨k,rfl⟩:=D2;refine⟨.bad q e k,_,⟨D.ok,?_⟩,rfl,hnx.trans ((qwg hT hv D.ok rfl m).2 _)⟩;dsimp only;rw[hz];exact⟨k,rfl⟩
   |ok t r=>
    rw[ht]at D2 hz;obtain⟨hab,rfl⟩:=D2;have hrd:=qAT ht;have hlen:=hrd.len;have htl:l.tail.length+1=l.length:=(qpE hi).2;obtain⟨p2,A,D3,g1,g2⟩:=ih r (acc++[t]) D.ok (by omega) (by rw[jA2];simp only[jA0,jA4];omega);refine⟨p2,A,⟨D3.ok,?_⟩,g1,?_⟩
    ·dsimp only;rw[hz];exact D3.2
    ·rw[hnx,<-g2];simp only[jAd]at hab;rw[hab.1,hab.2,show ETr (acc++[t])=ETr acc++[trA t.from_ t.ppm] by simp[Tr.av]]
theorem zmN(hT:T.length<=1000000)(hv:∀t∈T,qaT t=true)(m:Mi){p:PS}(hp:p.Ok T):∃p' A,Does T (fun r=>qcV (r.length+1) [] r) (fun ts (v:List AV)=>v=ETr ts) p A p'/\qmI [36] p'=false/\(qaf stI (hi0 (stP T p) m)=some (0,hi0 (stP T p') m)/\A= []\/qaf stI (hi0 (stP T p) m)=some (1,hi1 (stP T p') m A)):=by
 cases p with
 |bad q e k=>exact⟨.bad q e k,[],⟨hp,k,rfl⟩,rfl,.inl ⟨(qwg hT hv hp rfl m).1,rfl⟩⟩
 |good l=>
  cases hi:isW [36] l
  ·refine⟨.good l,[],⟨hp,?_⟩,hi,.inl ⟨(qwg hT hv (p:=.good l) hp hi m).1,rfl⟩⟩;dsimp only;simp only[qcV,hi,jA9];exact⟨rfl,trivial⟩
  ·obtain⟨a,b,p',D,hnx,_⟩:=q1S hT hv hp hi m;have D2:=D.2;dsimp only at D2;have hz:qcV (l.length+1) [] l=(qlD l.tail).bnd fun t r=>qcV l.length ([]++[t]) r:=by simp only[qcV,hi,jAa]
   cases ht:qlD l.tail with
   |bad q e=>
    rw[ht]at D2 hz;obtain⟨k,rfl⟩:=D2;refine⟨.bad q e k,_,⟨D.ok,?_⟩,rfl,.inr (hnx.trans ((qwg hT hv D.ok rfl m).2 _))⟩;dsimp only;rw[hz];exact⟨k,rfl⟩
   |ok t r=>
    rw[ht]at D2 hz;obtain⟨hab,rfl⟩:=D2;have hlen:=(qAT ht).len;have htl:l.tail.length+1=l.length:=(qpE hi).2;have hTl:l.length<=T.length:=List.IsSuffix.length_le hp;obtain⟨p2,A,D3,g1,g2⟩:=zg3 hT hv m l.length r [t] D.ok (by omega) (by simp only[jA0,jA4];omega);refine⟨p2,A,⟨D3.ok,?_⟩,g1,.inr ?_⟩
    ·dsimp only;rw[hz];exact D3.2
    ·rw[hnx,<-g2];simp only[jAd]at hab;rw[hab.1,hab.2];rfl
theorem qd4:qhs=some (ES qgj):=by rw[qM7,qqN];rfl
theorem qd5:qht=some (ES qgE):=by rw[qM8,qqO];rfl
theorem qg3:qpT=some (ES qdh):=by rw[qVb,qCc];rfl
theorem qcR:qlI=some (ES qck):=by rw[qU9,qB9];rfl
abbrev InV:=List AV×Bool×Int×Int×Bool
abbrev VIn(x:In)(v:InV):Prop:=v=(ETr x.tiers,x.marg,x.basis,x.mode,x.keep)
theorem qx9(hT:T.length<=1000000)(hv:∀t∈T,qaT t=true)(w:Bs){p:PS}(hp:p.Ok T):∃v p',qw3 w (stP T p).1 (stP T p).2.1 (stP T p).2.2.1 (stP T p).2.2.2=some (v.1,v.2.1,v.2.2.1,v.2.2.2.1,v.2.2.2.2,stP T p')/\Does T (qKr w) VIn p v p':=by
 obtain⟨p1,h1,D1⟩:=qdR hT hv w hp;obtain⟨k,p2,h2,D2⟩:=qkZ hT hv (ws:=[[119,104,111,108,101],[109,97,114,103,105,110,97,108]]) (by decide) D1.ok;obtain⟨b,p3,h3,D3⟩:=qkZ hT hv (ws:=qgj) (by decide) D2.ok;obtain⟨mo,p4,h4,D4⟩:=qkZ hT hv (ws:=qgE) (by decide) D3.ok;obtain⟨q,p5,h5,D5⟩:=qkZ hT hv (ws:=[[100,114,111,112],[107,101,101,112]]) (by decide) D4.ok;obtain⟨p6,h6,D6⟩:=qdR hT hv [123] D5.ok;obtain⟨p7,A,D7,hacc7,hL⟩:=zmN hT hv (false,0,0,false,k==2,b,mo,q==2) D6.ok;obtain⟨p8,h8,D8⟩:=qdR hT hv [125] D7.ok;have K7:=D8.stuck;have K6:=D7.stuck.trans K7;have K5:=D6.stuck.trans K6;have K4:=D5.stuck.trans K5;have K3:=D4.stuck.trans K4;have K2:=D3.stuck.trans K3;have K1:=D2.stuck.trans K2;refine⟨(A,k==2,b,mo,q==2),p8,?_,D1.bnd K1 D8.ok fun _ _=>D2.bnd K2 D8.ok fun k' e2=>D3.bnd K3 D8.ok fun b' e3=>D4.bnd K4 D8.ok fun m' e4=>D5.bnd K5 D8.ok fun q' e5=>D6.bnd K6 D8.ok fun _ _=>D7.bnd K7 D8.ok fun ts e7=>D8.map fun _ _=>by rw[e2,e3,e4,e5,e7]⟩;rw[qUp,qA5];have hacc:=qfS hT hv [36] D7.ok;rw[hacc7,qyZ hacc7]at hacc;refine(biS h1).trans ((biS h2).trans ((biS qd4).trans ((biS h3).trans ((biS qd5).trans ((biS h4).trans ((biS h5).trans ((biS h6).trans ?_)))))));rcases hL with⟨hL,rfl⟩|hL
 ·refine(biS (v:=hi0 (stP T p7) (false,0,0,false,k==2,b,mo,q==2)) ?_).trans ?_
  ·rw[qm3];show pj 0 (qaf stI (hi0 (stP T p6) (false,0,0,false,k==2,b,mo,q==2)))=_;rw[hL];rfl
  ·have h8':qa0 [AV.str [125]] (gv (qap [36] (stP T p7).1 (stP T p7).2.1 (stP T p7).2.2.1 (stP T p7).2.2.2)).snd.fst (gv (qap [36] (stP T p7).1 (stP T p7).2.1 (stP T p7).2.2.1 (stP T p7).2.2.2)).snd.snd.fst (gv (qap [36] (stP T p7).1 (stP T p7).2.1 (stP T p7).2.2.1 (stP T p7).2.2.2)).snd.snd.snd.fst (gv (qap [36] (stP T p7).1 (stP T p7).2.1 (stP T p7).2.2.1 (stP T p7).2.2.2)).snd.snd.snd.snd=some (stP T p8):=by
    rw[hacc];exact h8
   exact(biS h8').trans rfl
 ·refine(biN ?_).trans ((biS (v:=hi1 (stP T p7) (false,0,0,false,k==2,b,mo,q==2) A) ?_).trans ?_)
  ·rw[qm3];show pj 0 (qaf stI (hi0 (stP T p6) (false,0,0,false,k==2,b,mo,q==2)))=_;rw[hL];rfl
  ·rw[qm3];show pj 1 (qaf stI (hi0 (stP T p6) (false,0,0,false,k==2,b,mo,q==2)))=_;rw[hL];rfl
  ·have h8':qa0 [AV.str [125]] (gv (qap [36] (stP T p7).1 (stP T p7).2.1 (stP T p7).2.2.1 (stP T p7).2.2.2)).snd.fst (gv (qap [36] (stP T p7).1 (stP T p7).2.1 (stP T p7).2.2.1 (stP T p7).2.2.2)).snd.snd.fst (gv (qap [36] (stP T p7).1 (stP T p7).2.1 (stP T p7).2.2.1 (stP T p7).2.2.2)).snd.snd.snd.fst (gv (qap [36] (stP T p7).1 (stP T p7).2.1 (stP T p7).2.2.1 (stP T p7).2.2.2)).snd.snd.snd.snd=some (stP T p8):=by
    rw[hacc];exact h8
   exact(biS h8').trans rfl
end
end Go.Proofs.H16
namespace Go.Proofs.H16
open Go Go.Eng Go.Tk
set_option maxRecDepth 20000
theorem qiN(s:Bs):qhu s=some (qc4 s):=by
 rw[qNg,qqW,qiL,qc4];simp only[ev_bi_some,br_eq,cond_some,jA5];cases h0:((qbp s).2.2==0)
 ·simp
 ·cases hl:(qbp s).1 with
  |nil=>simp
  |cons t l=>
   cases l with
   |nil=>
    have e1:qaH ksT (ET [t]) 0=true:=okT (l:=[t]) (n:=0) (by simp);have e2:intOf (cellAt (ET [t]) 0 0)=t.kind:=qt0 (l:=[t]) (n:=0) (by simp);have e3:strOf (cellAt (ET [t]) 0 2)=t.text:=qt2 (l:=[t]) (n:=0) (by simp);simp only[jAa,e1,e2,e3,jA0,jA4,List.head?_cons];cases hk:(t.kind==1)<;>simp
   |cons u l=>
    have:(((t::u::l).length:Int)==1)=false:=by simp;omega
    simp only[this,jAa,jA9,ev_bi_some,ev_at];simp
abbrev ziL(x:Int):Bool:=decide (x>=65)&&decide (x<=90)
theorem qO2{s:Bs}(hl:s.length<=big):qDi (s,(s.length:Int),0)=some (bif s.any (fun c=>!at8 ziL c)then 0 else 1,s,(s.length:Int),((s.findIdx fun c=>!at8 ziL c:Nat):Int)):=by
 rw[qDj,<-qaY];refine qaP (hd:=fun i=>(s,(s.length:Int),(i:Int))) (jx:=fun _=>0) _ 1 (fun i hn=>?_) ?_
 ·simp only[qvO,qvP,qaV hn,qa4 hn,qaZ hn,ev_br,br_eq,jAa,at8,ziL,qar hn hl];have e1:decide ((s[i].toNat:Int)>=65)= !decide ((s[i].toNat:Int)<65):=by
   by_cases h:(s[i].toNat:Int)<65
   ·simp[h]
   ·simp[h];omega
  have e2:decide ((s[i].toNat:Int)<=90)= !decide ((s[i].toNat:Int)>90):=by
   by_cases h:(s[i].toNat:Int)>90
   ·simp[h]
   ·simp[h];omega
  simp only[e1,e2];cases decide ((s[i].toNat:Int)<65)<;>cases decide ((s[i].toNat:Int)>90)<;>rfl
 ·simp[qvO,qvP]
theorem qlT{α:Type}(p:α->Bool)(l:List α):l.any (fun c=>!p c)= !l.all p:=by rw[List.all_eq_not_any_not,Bool.not_not]
theorem qxc{s:Bs}(hl:s.length<=1000000):∃x,qxb s=some (x,qTJ s)/\(qTJ s=true->x=qpX s):=by
 have hL:=qO2 (s:=s) (by simp only[big];omega);rw[qlT]at hL;rw[qUX,qBW,hL];unfold qTJ;show ∃x,_=some (x,s.all (at8 ziL)&&_)/\_;cases hc:s.all (at8 ziL)
 ·exact⟨[],rfl,fun h=>by cases h⟩
 ·obtain⟨h1,h2⟩:=qWt hc;have hd:(decide (s.length<=1000000)&&qCv s)=true:=by rw[h2,jA8 hl];rfl
  have h3:((s.length:Int)==3)=(s.length==3):=by
   rw[jC7,jB7,jB7];omega
  refine⟨qpX s,(biN (by rfl)).trans ((biS (v:=(s,(s.length:Int),((s.findIdx fun c=>!at8 ziL c:Nat):Int))) (by rfl)).trans ((brT hd).trans ?_)),fun _=>rfl⟩;show(DT.bi (br ((s.length:Int)==3) (br (sm (qbS (Lib.toLowerA s))) (some !gv (qbS (Lib.toLowerA s))) none) (some false)) (fun y1=>DT.at (Lib.toLowerA s,y1)) DT.no).ev=_;rw[h1,qdi,h3];cases(s.length==3)<;>rfl
theorem qsV(n:Int):qjN n=some (decide (n>=0)&&decide (n<=1000000)):=by
 rw[qNh,qqX,q9c];rfl
theorem qkL{n:Int}{l:List AV}{k:Nat}(hk:l.length=k):qpU n l=some (qoU n (k:Int)):=by
 rw[qVc,qCd,q9c,hk];rfl
abbrev HdI(x:In)(i:Int):qhm:=(ETr x.tiers,(x.tiers.length:Int),i,ETr x.tiers,x.marg,x.basis,x.mode,x.keep)
theorem qxd{x:In}(hl:x.tiers.length<=big):qpS (ETr x.tiers) x.marg x.basis x.mode x.keep=some (Tk.inB x):=by
 have hL:qDk (HdI x 0)=some (bif x.tiers.any (fun t=>!qwE t)then 0 else 1,HdI x ((x.tiers.findIdx fun t=>!qwE t:Nat):Int)):=by
  rw[qDl,<-qaY];refine qaP (hd:=fun i=>HdI x (i:Int)) (jx:=fun _=>0) _ 1 (fun i hn=>?_) ?_
  ·simp only[qvQ,qvR,qaV hn,zn1 hn,zn3 hn,zn4 hn,qsV,sm_some,gv_some,ev_br,br_eq,jAa,qar hn hl,qwE];have e1:decide (x.tiers[i].from_>=0)= !decide (x.tiers[i].from_<0):=by
    by_cases h:x.tiers[i].from_<0
    ·simp[h]
    ·simp[h];omega
   simp only[e1];cases decide (x.tiers[i].from_<0)<;>cases(decide (x.tiers[i].ppm>=0)&&decide (x.tiers[i].ppm<=1000000))<;>rfl
  ·simp[qvQ,qvR]
 rw[qlT]at hL;rw[qUY,qBX,jA5];simp only[HdI]at hL;rw[hL];unfold Tk.inB;cases hc:x.tiers.all qwE
 ·rfl
 ·refine(biN (by rfl)).trans ((biS (v:=HdI x ((x.tiers.findIdx fun t=>!qwE t:Nat):Int)) (by rfl)).trans ((biS qd4).trans ((biS (qkL (k:=4) rfl)).trans ?_)));show(DT.br (qoU x.basis 4) _ _).ev=_;cases qoU x.basis 4
  ·rfl
  ·exact(brT rfl).trans ((biS qd5).trans ((biS (qkL (k:=6) rfl)).trans rfl))
structure Sml (p:Pr):Prop where
 cur:p.cur.length<=1000000
 cr:p.cr.tiers.length<=2048
 de:p.de.tiers.length<=2048
 fl:p.fees.length<=2048
 rl:p.rules.length<=2048
 fees:∀x∈p.fees,x.when_.nodes<=big/\x.amount.nodes<=big
 rules:∀x∈p.rules,x.amount.nodes<=big
abbrev HdW(p:Pr)(i:Int):qhn:=(EF p.fees,(p.fees.length:Int),i,p.name,p.cur,p.cal,p.from_,p.every,p.over,p.tax,ETr p.cr.tiers,p.cr.marg,p.cr.basis,p.cr.mode,p.cr.keep,ETr p.de.tiers,p.de.marg,p.de.basis,p.de.mode,p.de.keep,EF p.fees,ER p.rules)
theorem qO3{p:Pr}(hs:Sml p):qDm (HdW p 0)=some (bif p.fees.any (fun x=>!feB x)then 0 else 1,HdW p ((p.fees.findIdx fun x=>!feB x:Nat):Int)):=by
 rw[qDn,<-qaY];refine qaP (hd:=fun i=>HdW p (i:Int)) (jx:=fun _=>0) _ 1 (fun i hn=>?_) ?_
 ·obtain⟨n1,n2⟩:=hs.fees _ (jAi hn);simp only[qvS,qvT,qaV hn,Tk.okF hn,qf0 hn,qf1 hn,qf2 hn,qf3 hn,qf4 hn,qf5 hn,qf6 hn,qf7 hn,qf8 hn,qf9 hn,qiN,qg3,qkL (l:=ES qdh) (k:=4) rfl,qd7 n1,qd7 n2,ev_bi_some,ev_br,jAa,qar hn (show p.fees.length<=big by have:=hs.fl;simp only[big];omega),feB,bne];cases qc4 p.fees[i].name<;>cases qoU p.fees[i].event 4<;>cases(qaO p.fees[i].when_==0)<;>cases(qaO p.fees[i].amount==0)<;>rfl
 ·simp[qvS,qvT]
theorem qO4{l:List Ru}(hl:l.length<=big)(hs:∀x∈l,x.amount.nodes<=big):qDo (ER l,(l.length:Int),0)=some (bif l.any (fun x=>!ruB x)then 0 else 1,ER l,(l.length:Int),((l.findIdx fun x=>!ruB x:Nat):Int)):=by
 rw[qDp,<-qaY];refine qaP (hd:=fun i=>(ER l,(l.length:Int),(i:Int))) (jx:=fun _=>0) _ 1 (fun i hn=>?_) ?_
 ·have n1:=hs _ (jAi hn);simp only[qvU,qvV,qaV hn,Tk.okR hn,qr0 hn,qr1 hn,qr2 hn,qr3 hn,qr4 hn,qr5 hn,qiN,qcR,qkL (l:=ES qck) (k:=3) rfl,qd7 n1,ev_bi_some,ev_br,jAa,qar hn hl,ruB,bne];cases qc4 l[i].name<;>cases qoU l[i].window 3<;>cases(qaO l[i].amount==0)<;>rfl
 ·simp[qvU,qvV]
theorem zu8(n:Int):decide (n<0)= !decide (n>=0):=by
 by_cases h:n<0
 ·simp[h]
 ·simp[h];omega
theorem qOE{p:Pr}(hs:Sml p):qCW p.name p.cur p.cal p.from_ p.every p.over p.tax (ETr p.cr.tiers) p.cr.marg p.cr.basis p.cr.mode p.cr.keep (ETr p.de.tiers) p.de.marg p.de.basis p.de.mode p.de.keep (EF p.fees) (ER p.rules)=some (qCj p):=by
 obtain⟨x,hc,_⟩:=qxc hs.cur;have i1:=qxd (x:=p.cr) (by have:=hs.cr;simp only[big];omega);have i2:=qxd (x:=p.de) (by have:=hs.de;simp only[big];omega);have l0:=qO3 hs;have l1:=qO4 (l:=p.rules) (by have:=hs.rl;simp only[big];omega) hs.rules;rw[qlT]at l0 l1;rw[qUZ,qBY,hc,qiN,qiN,qtj,qsV,i1,i2];simp only[sm_some,gv_some,ev_bi_some,qfN,zu8,br_eq,jAa,cond_some];unfold qCj;generalize qTJ p.cur=b1;generalize qc4 p.name=b2;generalize qc4 p.cal=b3;generalize (decide (p.from_>=0)&&decide (p.from_<=73048))=b4;generalize decide (p.every>=0)=b5;generalize decide (p.over>=0)=b6;generalize (decide (p.tax>=0)&&decide (p.tax<=1000000))=b7;generalize Tk.inB p.cr=b8;generalize Tk.inB p.de=b9;cases b1
 ·rfl
 cases b2
 ·rfl
 cases b3
 ·rfl
 cases b4
 ·rfl
 cases b5
 ·rfl
 cases b6
 ·rfl
 cases b7
 ·rfl
 cases b8
 ·rfl
 cases b9
 ·rfl
 refine(brF rfl).trans ?_;simp only[HdW]at l0;simp only[jA5];rw[l0];cases p.fees.all feB
 ·rfl
 ·refine(biN (by rfl)).trans ((biS (v:=HdW p ((p.fees.findIdx fun x=>!feB x:Nat):Int)) (by rfl)).trans ?_);simp only[HdW,jA5];rw[l1];cases p.rules.all ruB<;>rfl
end Go.Proofs.H16
namespace Go.Tk
open Go Go.Eng
set_option maxRecDepth 20000
def zja:List (Int×Bs)->Prop
 | []=>True
 |x::l=>(kindP x.2=x.1/\x.2.isEmpty=false)/\zja l
theorem kd{k:Int}{s:Bs}(h:(kindP s==k&& !s.isEmpty)=true):kindP s=k/\s.isEmpty=false:=by
 simpa using h
theorem kN{s:Bs}(h:qc4 s=true):kindP s=1/\s.isEmpty=false:=by
 rw[qpJ,jA1]at h;obtain⟨h1,h2⟩:=h;have h2':qbT s=false:=by simpa using h2
 cases s with
 |nil=>cases h1
 |cons c r=>
  unfold qz8 at h1;simp only[jA1]at h1;refine⟨?_,rfl⟩;unfold kindP;rw[h2',jA9];simp only;rw[h1.2.1];rfl
theorem kWn{ws:List Bs}(hw:ws.all (fun w=>kindP w==5&& !w.isEmpty)=true){b k:Int}(h:qoU b k=true)(hk:k=(ws.length:Int)):kindP (qwu ws b)=5/\(qwu ws b).isEmpty=false:=by
 unfold qoU at h;simp only[jA1,jA6]at h;have hb:(b-1).toNat<ws.length:=by omega
 have hm:qwu ws b∈ws:=by
  unfold qwu;rw[jAh hb];exact jAi hb
 exact kd (jAb.1 hw _ hm)
theorem qHT:∀{l:List (Int×Bs)} (n:Int),zja l->(l.map fun x=>AV.str x.2).map (tkA n)=ET (lnT n l)
 | [],n,_=>rfl
 |x::l,n,h=>by
  have e:tkA n (.str x.2)=Tok.av ⟨x.1,n,x.2⟩:=by
   show AV.agg [.int .i64 (kindP x.2),.int .i64 n,.str x.2]=_;rw[h.1.1];rfl
  show tkA n (.str x.2)::(l.map fun x=>AV.str x.2).map (tkA n)=Tok.av ⟨x.1,n,x.2⟩::ET (lnT n l);rw[e,qHT n h.2]
theorem qzY:∀{l:List (Int×Bs)},zja l->(l.map fun x=>AV.str x.2).all strB=true
 | [],_=>rfl
 |x::l,h=>by
  rw[jAs,jAw,qzY h.2];show(!x.2.isEmpty&&true)=true;rw[h.1.2];rfl
theorem qjp{L:List AV}{acc:List Tok}(h:L=ET acc){k k' ln m:Int}{s:Bs}(hk:k=k')(hl:ln=m):L++[AV.agg [AV.int IntKind.i64 k,AV.int IntKind.i64 ln,AV.str s]]=ET (acc++[⟨k',m,s⟩]):=by
 rw[h,hk,hl];exact(jCi (f:=Tok.av) (l₁:=acc) (l₂:=[⟨k',m,s⟩])).symm
theorem zjo(a b:List Tok):ET (a++b)=ET a++ET b:=jCi ..
theorem qqd{L:List AV}{acc:List Tok}(h:L=ET acc)(hl:acc.length<=1000000):room (L.length+1) 32=true:=by
 rw[h,jA5];exact qcY (by simp only[lim];omega)
theorem zsO(e:Ex):wrB e≠ []:=by
 obtain⟨o,n,s,l⟩:=e
 match l with
 | []=>
  rw[qc3 rfl];unfold qDz
  (repeat' split)<;>simp
 | [a]=>rw[qlO rfl];simp
 | [a,b]=>
  by_cases h:o=17\/o=18
  ·rw[qjo (e:=.mk o n s [a,b]) rfl h];simp
  ·rw[qnX (e:=.mk o n s [a,b]) rfl (fun e=>h (.inl e)) (fun e=>h (.inr e))];simp
 |a::b::c::m=>rw[qII rfl];simp
section
variable {α τ:Type}
def qMP(g:Nat->α->List Tok):Nat->List α->List Tok
 |_,[]=>[]
 |n,x::l=>g n x++qMP g (n+1) l
theorem qLH(g:Int->α->List Tok):∀(l:List α) (k:Nat) (m:Int),qcB g (m+(k:Nat)) l=qMP (fun n=>g (m+(n:Nat))) k l
 | [],_,_=>rfl
 |x::l,k,m=>by
  rw[qcB,qMP,<-qLH g l (k+1) m]
  congr 2
  omega
theorem quu(g:Int->α->List Tok)(l:List α)(m:Int):qcB g m l=qMP (fun n=>g (m+(n:Nat))) 0 l:=by
 rw[<-qLH g l 0 m];congr 1;simp
theorem qHZ(f:α->Tok):∀(l:List α) (k:Nat),l.map f=qMP (fun _ x=>[f x]) k l
 | [],_=>rfl
 |x::l,k=>by rw[jAs,qMP,qHZ f l (k+1)];rfl
theorem qyw:∀(l:List Tr) (n:Int),qcU n l=qcB qpC n l
 | [],_=>rfl
 |t::l,n=>by rw[qcU,qcB,qyw l (n+1)]
theorem qIS{st:τ->Option (Rd τ)}{xs:List α}(hd:Nat->List Tok->τ)(g:Nat->α->List Tok)(jx:Nat)
  (hs:∀n (hn:n<xs.length) acc,acc.length+(g n xs[n]).length<=1000000->st (hd n acc)=some (.next (hd (n+1) (acc++g n xs[n]))))
  (he:∀acc,st (hd xs.length acc)=some (.done jx)):∀(k n:Nat) (acc:List Tok),n+k=xs.length->acc.length+(qMP g n (xs.drop n)).length<=1000000 ->
  qaf st (hd n acc)=some (jx,hd xs.length (acc++qMP g n (xs.drop n))):=by
 intro k
 induction k with
 |zero=>
  intro n acc hn hl;have:n=xs.length:=by omega
  subst this;rw[jC0,qMP,jC6];exact qag (he acc)
 |succ k ih=>
  intro n acc hn hl;have hlt:n<xs.length:=by omega
  rw[List.drop_eq_getElem_cons hlt,qMP]at hl ⊢;rw[jA2]at hl;rw[qao (hs n hlt acc (by omega)),ih (n+1) _ (by omega) (by rw[jA2];omega),jAf]
theorem qsF{st:τ->Option (Rd τ)}{xs:List α}(hd:Nat->List Tok->τ)(g:Nat->α->List Tok)(jx:Nat)
  (hs:∀n (hn:n<xs.length) acc,acc.length+(g n xs[n]).length<=1000000->st (hd n acc)=some (.next (hd (n+1) (acc++g n xs[n]))))
  (he:∀acc,st (hd xs.length acc)=some (.done jx)) {acc:List Tok} (hl:acc.length+(qMP g 0 xs).length<=1000000) :
  qaf st (hd 0 acc)=some (jx,hd xs.length (acc++qMP g 0 xs)):=qIS hd g jx hs he xs.length 0 acc (by omega) hl
end
end Go.Tk

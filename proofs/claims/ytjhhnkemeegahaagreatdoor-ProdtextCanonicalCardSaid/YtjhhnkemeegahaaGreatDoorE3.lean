/- A machine of plain values, and that what it says holds of the program. -/
import Derived.Test.YtjhhnkemeegahaaGreatDoorE2
import Derived.ProofKit
import Derived.Deep.Slices
import Derived.OpenShut
import Derived.KernelRfl
set_option linter.all false
namespace Go.Eng
set_option linter.unusedSectionVars false
variable [Globs]
inductive Sh where
 |int (k:IntKind)
 |bool
 |str
 |slice (sz:Nat) (agg:Bool) (t:TypeId)
def q1E(P:Program)(sh:TypeId->Option (List Sh)):List Field->Nat->Option (List Sh)
 | [],_=>some []
 |f::fs,off=>if f.offset=off then match sh f.type with
   |some cs=>if cs.length=P.cellsOf f.type then match q1E P sh fs (off+cs.length)with
    |some r=>some (cs++r)
    |none=>none
    else none
   |none=>none
  else none
def zmf(cs:List Sh):Nat->List Sh
 |0=>[]
 |n+1=>cs++zmf cs n
def shS(P:Program):Nat->TypeId->Option (List Sh)
 |0,_=>none
 |n+1,t=>match P.underlying t with
  |some .bool=>some [.bool]
  |some (.int k)=>some [.int k]
  |some .string=>some [.str]
  |some (.slice e)=>(qb7 P e).map fun g=>[.slice (P.cellsOf e) g e]
  |some (.struct fs)=>match q1E P (shS P n) fs.toList 0 with
   |some cs=>if cs.length=P.cellsOf t then some cs else none
   |none=>none
  |some (.array k e)=>match shS P n e with
   |some cs=>if cs.length=P.cellsOf e/\k*cs.length=P.cellsOf t then some (zmf cs k)else none
   |none=>none
  |_=>none
def shT(P:Program)(t:TypeId):List Sh:=(shS P 12 t).getD []
def qeN:List Sh->List TypeId
 | []=>[]
 | .slice _ _ t::cs=>t::qeN cs
 |_::cs=>qeN cs
def zuX(P:Program)(ts:List TypeId):Bool:=ts.all fun t=>match shS P 12 t with
 |some cs=>decide (cs.length=P.cellsOf t)&&decide (0<cs.length)&&(match qb7 P t with|some g=>g||decide (cs.length=1)|none=>false)&&(qeN cs).all fun e=>ts.contains e
 |none=>false
def qkG(f:Sh->AV->Prop):List Sh->List AV->Prop
 | [],xs=>xs= []
 |c::cs,xs=>∃x r,xs=x::r/\f c x/\qkG f cs r
def Fit(N:Nat)(T:TypeId->List Sh):Nat->Sh->AV->Prop
 |0,_,_=>False
 |d+1,c,v=>match c with
  | .int k=>∃n,v= .int k n/\(Lit.int k n).wf=true
  | .bool=>∃b,v= .bool b
  | .str=>∃s,v= .str s/\s.length<=N
  | .slice sz true t=>∃es,v= .view sz es/\es.length<=N/\ ∀e,e∈es-> ∃xs,e= .agg xs/\qkG (Fit N T d) (T t) xs
  | .slice sz false t=>∃es,v= .view sz es/\es.length<=N/\ ∀e,e∈es->qkG (Fit N T d) (T t) [e]
theorem qmY{f:Sh->AV->Prop}:∀{cs:List Sh} {xs:List AV},qkG f cs xs->xs.length=cs.length
 | [],xs,h=>by simp[qkG]at h;subst h;rfl
 |c::cs,xs,h=>by
  simp only[qkG]at h;obtain⟨x,r,rfl,_,h⟩:=h;simp[qmY h]
theorem qex{f g:Sh->AV->Prop}(hfg:∀c x,f c x->g c x):∀{cs:List Sh} {xs:List AV},qkG f cs xs->qkG g cs xs
 | [],xs,h=>h
 |c::cs,xs,h=>by
  simp only[qkG]at h ⊢;obtain⟨x,r,he,hx,h⟩:=h;exact⟨x,r,he,hfg _ _ hx,qex hfg h⟩
theorem qmZ{N:Nat}{T:TypeId->List Sh}:∀(d:Nat) (c:Sh) (x:AV),Fit N T d c x->Fit N T (d+1) c x
 |0,c,x,h=>by simp[Fit]at h
 |d+1,c,x,h=>by
  cases c with
  |slice sz g t=>
   cases g
   ·simp only[Fit]at h ⊢;obtain⟨es,he,hl,h⟩:=h;exact⟨es,he,hl,fun e hm=>qex (qmZ d) (h e hm)⟩
   ·simp only[Fit]at h ⊢;obtain⟨es,he,hl,h⟩:=h;exact⟨es,he,hl,fun e hm=>by obtain⟨xs,h1,h2⟩:=h e hm;exact⟨xs,h1,qex (qmZ d) h2⟩⟩
  |_=>simpa only[Fit]using h
theorem qOJ{N:Nat}{T:TypeId->List Sh}{d:Nat}{c:Sh}{x:AV}(h:Fit N T d c x):qbq x=true:=by
 cases d with
 |zero=>simp[Fit]at h
 |succ d=>
  cases c with
  |slice sz g t=>
   cases g<;>simp only[Fit]at h<;>obtain⟨es,rfl,_⟩:=h<;>rfl
  |_=>
   simp only[Fit]at h;obtain⟨n,h⟩:=h
   first
    |(subst h;rfl)
    |(obtain⟨rfl,_⟩:=h;rfl)
theorem qmq{N:Nat}{T:TypeId->List Sh}{d:Nat}:∀{cs:List Sh} {xs:List AV},qkG (Fit N T d) cs xs-> ∀x∈xs,qbq x=true
 | [],xs,h,x,hx=>by simp[qkG]at h;subst h;simp at hx
 |c::cs,xs,h,x,hx=>by
  simp only[qkG]at h;obtain⟨y,r,rfl,hy,h⟩:=h;rcases jAc.1 hx with rfl|hx
  ·exact qOJ hy
  ·exact qmq h x hx
theorem qmp{f:Sh->AV->Prop}:∀{cs ds:List Sh} {xs ys:List AV},qkG f cs xs->qkG f ds ys->qkG f (cs++ds) (xs++ys)
 | [],ds,xs,ys,h,h'=>by simp[qkG]at h;subst h;simpa using h'
 |c::cs,ds,xs,ys,h,h'=>by
  simp only[qkG]at h;obtain⟨x,r,rfl,hx,h⟩:=h;simp only[jAk,qkG];exact⟨x,r++ys,rfl,hx,qmp h h'⟩
theorem qlG(a b:List Sh):qeN (a++b)=qeN a++qeN b:=by
 induction a with
 |nil=>rfl
 |cons c a ih=>cases c<;>simp[qeN,ih]
section
variable {H:Type} {enc:TypeId×Value->H} {P:Program} {w:World} {base:Nat} {spare:Nat->Bool} {held:Bool} {I:Imm}
theorem q4H{b o n:Nat}{xs:List AV}{cs:List Value}(hr:qaU w I xs m0 cs)(hok:∀x∈xs,qbq x=true)(hc:∀i,i<n->w.cell? (ad b (o+i))=cs[i]?)(hl:xs.length=n)(hI:∀i,i<n->I b (o+i)):At w I xs b o:=by
 intro i c hi;have hlt:i<xs.length:=(jAg.1 hi).1;obtain⟨v,hv,hrel⟩:=qcz hr i c hi;exact⟨hI i (by omega),hok c (jAl hi),v,by rw[hc i (by omega)];exact hv,hrel⟩
theorem q1F{a:Addr}{v:Value}(h:w.cell? a=some v):a=ad a.block a.off:=by
 obtain⟨b,o,s⟩:=a;cases s with
 |none=>rfl
 |some s=>
  simp only[World.cell?]at h;split at h<;>simp at h
theorem zjF(a:Addr)(n:Nat)(h:a=ad a.block a.off):a.add n=ad a.block (a.off+n):=by
 rw[h];exact qjq _ _ _
theorem zfW{a:Addr}{n i:Nat}(h:i<n):MemPlace.cell a.block (a.off+i)∈MemPlace.row a n:=by
 simp only[MemPlace.row,jCd,jBq];exact⟨i,h,rfl⟩
theorem qiW{ts:List TypeId}(hT:zuX P ts=true):∀(fuel:Nat) {n:Nat} {t:TypeId} {sh:List Sh},shS P n t=some sh->(∀e∈qeN sh,e∈ts)-> ∀{cs:List Value} {x:DataW H×List MemPlace},DataW.trod enc P w base spare held fuel t cs=some x->(∀b o,.cell b o∈x.2->I b o) ->
  ∃xs,qkG (Fit maxLen (shT P) fuel) sh xs/\qaU w I xs m0 cs
 |0,n,t,sh,hs,he,cs,x,hx,hI=>by simp[DataW.trod]at hx
 |fuel+1,0,t,sh,hs,he,cs,x,hx,hI=>by simp[shS]at hs
 |fuel+1,n+1,t,sh,hs,he,cs,x,hx,hI=>by
  simp only[shS]at hs;split at hs
  ·rename_i hu;cases hs;obtain⟨b,rfl,rfl⟩:=DataW.trod_bool hu hx;exact⟨[.bool b],by simp[qkG,Fit],by simp[qaU,Rel]⟩
  ·rename_i k hu;cases hs;obtain⟨i,rfl,rfl,hw⟩:=DataW.trod_int hu hx;exact⟨[.int k i],by simp[qkG,Fit,hw],by simp[qaU,Rel]⟩
  ·rename_i hu;cases hs;obtain⟨s,rfl,rfl,hw⟩:=DataW.trod_string hu hx;refine⟨[.str s.data.toList],?_,?_⟩
   ·simp only[qkG,Fit];exact⟨_,[],rfl,⟨_,rfl,by simpa using hw⟩,rfl⟩
   ·simp[qaU,Rel]
  ·rename_i e hu;simp only[jA3]at hs;obtain⟨g,hg,rfl⟩:=hs;have hem:e∈ts:=he e (by simp[qeN]);have hok:=jAb.1 hT e hem;split at hok
   ·rename_i ec hec;simp only[jA1,jA6,hg]at hok;obtain⟨⟨⟨hlen,hpos⟩,hg1⟩,hel⟩:=hok;have hsh:shT P e=ec:=by simp[shT,hec]
    have hsub:∀t∈qeN ec,t∈ts:=fun t ht=>by simpa using jAb.1 hel t ht
    ·rcases DataW.trod_slice hu hx with⟨rfl,rfl⟩|⟨a,len,cap,elems,rest,fu,hfu,rfl,rfl,hb,hle,hcap,hlen',hels,_,_⟩
     ·refine⟨[.view (P.cellsOf e) []],?_,?_⟩
      ·cases g<;>simp[qkG,Fit]
      ·simp only[qaU,Rel];exact⟨_,[],rfl,⟨none,0,by simp,by simp,.inl rfl,fun _=>rfl⟩,rfl⟩
     ·obtain rfl:fuel=fu:=by omega
      have hlm:len<=elems.length+rest.length:=by omega
      generalize hm:elems.length+rest.length=m at *;have each:∀i,i<len-> ∃xs:List AV,qkG (Fit maxLen (shT P) fuel) ec xs/\ ∃cs',w.cells? base (a.add (i*P.cellsOf e)) (P.cellsOf e)=some cs'/\qaU w I xs m0 cs':=by
       intro i hi;have key:=hels i hi;rw[jAh (by omega)]at key;obtain⟨cs',hc',hd⟩:=Option.bind_eq_some_iff.1 key;obtain⟨xs,h1,h2⟩:=qiW hT fuel hec hsub hd fun b o hp=>hI b o (List.mem_append_right _ (jBu.2 ⟨_,jBo _ (jAi (show i<elems.length by omega)),hp⟩))
       exact⟨xs,h1,cs',hc',h2⟩
      obtain⟨F,hF⟩:=Deep.choose_lt each
      let pk:List AV->AV:=fun xs=>if g then .agg xs else xs.headD .junk
      have hpk:∀i,i<len->qai (pk (F i))=F i/\(g=true\/(F i).length=1):=by
       intro i hi;obtain⟨h1,cs',hc',h2⟩:=hF i hi;have hln:=qmY h1;cases g with
       |true=>exact⟨rfl,.inl rfl⟩
       |false=>
        have h1c:ec.length=1:=by simpa using hg1
        have hx1:(F i).length=1:=by omega
        refine⟨?_,.inr hx1⟩
        match hFi:F i,hx1 with
        | [y],_=>
         simp only[pk];have hy:=qmq h1 y (by rw[hFi];simp);cases y<;>first|rfl|simp[qbq]at hy
      have hspot:0<len->a=ad a.block a.off:=by
       intro h0;obtain⟨_,cs',hc',_⟩:=hF 0 h0;obtain⟨_,hcl,hcc⟩:=World.cells?_some hc';have h0c:0<P.cellsOf e:=by omega
       have:=hcc 0 h0c;have hlt:0<cs'.length:=by omega
       rw[jAh hlt]at this;have:=q1F this;simpa[Addr.add]using this
      have hflat:∀k,k<=len-> ∀o,(∀i,i<k->At w I (F i) a.block (o+i*P.cellsOf e))->At w I (flat ((List.range k).map fun i=>pk (F i))) a.block o:=by
       intro k
       induction k with
       |zero=>intro _ o _;intro i c hc;simp[flat]at hc
       |succ k ih=>
        intro hk o hall;rw[List.range_succ,jCi,qed,qsG];refine⟨ih (by omega) o fun i hi=>hall i (by omega),?_⟩;have hfl:(flat ((List.range k).map fun i=>pk (F i))).length=k*P.cellsOf e:=by
         rw[qcj (sz:=P.cellsOf e) fun x hx=>?_]
         ·simp
         ·obtain⟨i,hi,rfl⟩:=jCd.1 hx;have hi':i<k:=by simpa using hi
          rw[(hpk i (by omega)).1,qmY (hF i (by omega)).1,hlen]
        rw[hfl];have:flat ([k].map fun i=>pk (F i))=F k:=by simp[flat,(hpk k (by omega)).1]
        rw[this];exact hall k (by omega)
      refine⟨[.view (P.cellsOf e) ((List.range len).map fun i=>pk (F i))],?_,?_⟩
      ·simp only[qkG];refine⟨_,[],rfl,?_,rfl⟩;cases g with
       |true=>
        simp only[Fit];refine⟨_,rfl,by simp;omega,fun x hx=>?_⟩;obtain⟨i,hi,rfl⟩:=jCd.1 hx;exact⟨F i,rfl,by rw[hsh];exact(hF i (by simpa using hi)).1⟩
       |false=>
        simp only[Fit];refine⟨_,rfl,by simp;omega,fun x hx=>?_⟩;obtain⟨i,hi,rfl⟩:=jCd.1 hx;have hi':i<len:=by simpa using hi
        have h1:=(hpk i hi').2;have hg:=(hF i hi').1;rw[hsh]
        match hFi:F i,h1.resolve_left (by simp)with
        | [y],_=>rw[hFi]at hg;simpa[pk,hFi]using hg
      ·simp only[qaU,Rel];refine⟨_,[],rfl,⟨some a,cap,by simp,by simp;omega,?_,fun hn=>by cases hn⟩,rfl⟩;rcases Nat.eq_zero_or_pos len with h0|h0
       ·exact .inl (by simp[h0])
       ·refine .inr ⟨a.block,a.off,by rw[<-hspot h0],qk8.2 ⟨fun x hx=>?_,hflat len (jAj _) a.off fun i hi=>?_⟩⟩
        ·obtain⟨i,hi,rfl⟩:=jCd.1 hx;have hi':i<len:=by simpa using hi
         rw[(hpk i hi').1,qmY (hF i hi').1,hlen]
        ·obtain⟨hg,cs',hc',hr⟩:=hF i hi;obtain⟨_,hcl,hcc⟩:=World.cells?_some hc';refine q4H hr (qmq hg) (n:=P.cellsOf e) (fun j hj=>?_) (by rw[qmY hg,hlen]) fun j hj=>?_
         ·rw[<-hcc j hj,zjF a _ (hspot h0),qjq]
         ·have hlt:i*P.cellsOf e+j<m*P.cellsOf e:=by
           calc i*P.cellsOf e+j<i*P.cellsOf e+P.cellsOf e:=by omega
            _=(i+1)*P.cellsOf e:=by rw[jBe,Nat.one_mul]
            _<=m*P.cellsOf e:=jBc _ (by omega)
          have:=hI a.block (a.off+(i*P.cellsOf e+j)) (jBo _ (zfW hlt));rwa[<-jCn]at this
   ·cases hok
  ·rename_i fs hu;split at hs
   ·rename_i sc hsc;split at hs
    ·rename_i hl;cases hs;obtain⟨ys,fu,hfu,rfl,hcl,hyl,hf⟩:=DataW.trod_struct hu hx;obtain rfl:fuel=fu:=by omega
     have key:∀(fl:List Field) (k off:Nat) (sc:List Sh),fs.toList.drop k=fl->q1E P (shS P n) fl off=some sc->(∀e∈qeN sc,e∈ts)->off+sc.length=cs.length-> ∃xs,qkG (Fit maxLen (shT P) (fuel+1)) sc xs/\qaU w I xs m0 (cs.drop off):=by
      intro fl
      induction fl with
      |nil=>
       intro k off sc _ h1 _ h2;simp[q1E]at h1;subst h1;refine⟨[],by simp[qkG],?_⟩;have:cs.drop off= []:=by apply List.drop_of_length_le;simp at h2;omega
       rw[this];simp[qaU]
      |cons f fl ih=>
       intro k off sc hk h1 hel h2;simp only[q1E]at h1;split at h1
       ·rename_i hoff;split at h1
        ·rename_i c1 hc1;split at h1
         ·rename_i hl1;split at h1
          ·rename_i r hr;cases h1;have hfk:fs[k]? = some f:=by
            have h0:=congrArg (·[0]?) hk;simpa using h0
           have hdrop:fs.toList.drop (k+1)=fl:=by
            have h0:=congrArg (List.drop 1) hk;simpa using h0
           have hlt:k<ys.length:=by rw[hyl];exact(jBf.1 hfk).1
           have hd:=hf k f hfk;rw[jAh hlt]at hd;rw[qlG]at hel;obtain⟨xs,g1,g2⟩:=qiW hT fuel hc1 (fun e he=>hel e (jBo _ he)) hd fun b o hp=>hI b o (jBu.2 ⟨_,jAi hlt,hp⟩)
           obtain⟨xs',g3,g4⟩:=ih (k+1) _ _ hdrop hr (fun e he=>hel e (List.mem_append_right _ he)) (by simp at h2;omega);refine⟨xs++xs',qmp (qex (qmZ _) g1) g3,?_⟩;have hsplit:cs.drop off=(cs.drop off).take c1.length++cs.drop (off+c1.length):=by
            rw[<-List.drop_drop,jCc]
           rw[hsplit];rw[<-hl1,hoff]at g2;exact qek g2 g4
          ·cases h1
         ·cases h1
        ·cases h1
       ·cases h1
     have:=key fs.toList 0 0 _ rfl hsc he (by omega);simpa using this
    ·cases hs
   ·cases hs
  ·rename_i k e hu;split at hs
   ·rename_i ec hec;split at hs
    ·rename_i hl;cases hs;obtain⟨hl1,hl2⟩:=hl;obtain⟨ys,fu,hfu,rfl,hcl,hyl,hf⟩:=DataW.trod_array hu hx;obtain rfl:fuel=fu:=by omega
     have hzero:k=0\/ ∀e∈qeN ec,e∈ts:=by
      cases k with
      |zero=>exact .inl rfl
      |succ k=>exact .inr fun e h=>he e (by simp only[zmf,qlG,jAo];exact .inl h)
     have key:∀(j i:Nat),i+j=k-> ∃xs,qkG (Fit maxLen (shT P) (fuel+1)) (zmf ec j) xs/\qaU w I xs m0 (cs.drop (i*ec.length)):=by
      intro j
      induction j with
      |zero=>
       intro i hi;refine⟨[],by simp[zmf,qkG],?_⟩;have hik:i=k:=by omega
       have:cs.drop (i*ec.length)= []:=by apply List.drop_of_length_le;rw[hik,hl2];omega
       rw[this];simp[qaU]
      |succ j ih=>
       intro i hi;have hlt:i<ys.length:=by omega
       have hd:=hf i (by omega);rw[jAh hlt]at hd;obtain⟨xs,g1,g2⟩:=qiW hT fuel hec (hzero.resolve_left (by omega)) hd fun b o hp=>hI b o (jBu.2 ⟨_,jAi hlt,hp⟩)
       obtain⟨xs',g3,g4⟩:=ih (i+1) (by omega);refine⟨xs++xs',qmp (qex (qmZ _) g1) g3,?_⟩;have hsplit:cs.drop (i*ec.length)=(cs.drop (i*ec.length)).take ec.length++cs.drop ((i+1)*ec.length):=by
        rw[jBe,Nat.one_mul,<-List.drop_drop,jCc]
       rw[hsplit];rw[<-hl1]at g2;exact qek g2 g4
     have:=key k 0 (by omega);simpa using this
    ·cases hs
   ·cases hs
  ·cases hs
end
end Go.Eng
namespace Go.Eng
set_option linter.unusedSectionVars false
variable [Globs]
def qL1(P:Program):List TypeId->Option (List (Bool×List Sh))
 | []=>some []
 |t::ts=>match qb7 P t,qL1 P ts with
  |some g,some r=>if g=true\/(shT P t).length=1 then some ((g,shT P t)::r)else none
  |_,_=>none
def FitP(f:Sh->AV->Prop):List (Bool×List Sh)->List AV->Prop
 | [],avs=>avs= []
 |(true,cs)::ps,avs=>∃xs r,avs= .agg xs::r/\qkG f cs xs/\FitP f ps r
 |(false,cs)::ps,avs=>∃x r,avs=x::r/\qkG f cs [x]/\FitP f ps r
theorem qtQ{f g:Sh->AV->Prop}(hfg:∀c x,f c x->g c x):∀{ps:List (Bool×List Sh)} {xs:List AV},FitP f ps xs->FitP g ps xs
 | [],xs,h=>h
 |(true,cs)::ps,xs,h=>by
  obtain⟨ys,r,he,h1,h2⟩:=h;exact⟨ys,r,he,qex hfg h1,qtQ hfg h2⟩
 |(false,cs)::ps,xs,h=>by
  obtain⟨y,r,he,h1,h2⟩:=h;exact⟨y,r,he,qex hfg h1,qtQ hfg h2⟩
theorem q9C{N:Nat}{T:TypeId->List Sh}{a b:Nat}(h:a<=b){c:Sh}{x:AV}(hx:Fit N T a c x):Fit N T b c x:=by
 induction h with
 |refl=>exact hx
 |step _ ih=>exact qmZ _ _ _ ih
section
variable {H:Type} {enc:TypeId×Value->H} {P:Program} {w:World} {base:Nat} {spare:Nat->Bool} {held:Bool} {I:Imm}
theorem zfu{W:World}{r:Reach}{b:Nat}{t:TypeId}{v:Value}(hg:qb7 P t=some false)(hv:Value.okWide P W r b t v):v.cells= #[v]:=by
 simp only[qb7,jA3]at hg;obtain⟨d,hd,hda⟩:=hg;cases v with
 |agg cs=>cases d<;>simp_all[Value.okWide,Cell.okWide,Cell.ok]
 |_=>rfl
theorem zlj{W:World}{r:Reach}{b:Nat}{t:TypeId}{v:Value}(hg:qb7 P t=some true)(hv:Value.okWide P W r b t v):∃cs:Array Value,v= .agg cs:=by
 simp only[qb7,jA3]at hg;obtain⟨d,hd,hda⟩:=hg;cases d<;>simp at hda
 ·simp only[Value.okWide,hd]at hv;obtain⟨cs,h,_⟩:=hv;exact⟨cs,h⟩
 ·simp only[Value.okWide,hd]at hv;obtain⟨cs,h,_⟩:=hv;exact⟨cs,h⟩
theorem qIT{qs:List TypeId}(hT:zuX P qs=true){W:World}{r:Reach}{b0:Nat}:∀{ts:List TypeId} {ps:List (Bool×List Sh)} {vs:List Value} {ds:List (DataW H)} {pl:List MemPlace},(∀t∈ts,t∈qs)->qL1 P ts=some ps->DataW.TrodAll enc P w base spare held ts vs ds pl ->
  (∀(j:Nat) t v,ts[j]? = some t->vs[j]? = some v->Value.okWide P W r b0 t v)->(∀b o,.cell b o∈pl->I b o)-> ∃d avs,FitP (Fit maxLen (shT P) d) ps avs/\qaU w I avs m0 vs
 | [],ps,[],[],pl,_,hp,_,_,_=>by
  simp[qL1]at hp;subst hp;exact⟨0,[],rfl,by simp[qaU]⟩
 | [],ps,_::_,_,pl,_,_,h,_,_=>by simp[DataW.TrodAll]at h
 | [],ps,[],_::_,pl,_,_,h,_,_=>by simp[DataW.TrodAll]at h
 |_::_,ps,[],_,pl,_,_,h,_,_=>by simp[DataW.TrodAll]at h
 |_::_,ps,_::_,[],pl,_,_,h,_,_=>by simp[DataW.TrodAll]at h
 |t::ts,ps,v::vs,d::ds,pl,hq,hp,h,hv,hI=>by
  simp only[DataW.TrodAll]at h;obtain⟨p,q,⟨fu,hd⟩,hrest,rfl⟩:=h;simp only[qL1]at hp;split at hp
  ·rename_i g rr hg hr;split at hp
   ·cases hp;have hok:=jAb.1 hT t (hq t (by simp));split at hok
    ·rename_i cs hcs;have hsh:shT P t=cs:=by simp[shT,hcs]
     simp only[jA1]at hok;obtain⟨_,hel⟩:=hok;obtain⟨xs,h1,h2⟩:=qiW hT fu hcs (fun e he=>by simpa using jAb.1 hel e he) hd fun b o hm=>hI b o (jBo _ hm)
     obtain⟨d',avs,h3,h4⟩:=qIT hT (fun t ht=>hq t (by simp[ht])) hr hrest (fun j t v ht hv'=>hv (j+1) t v (by simpa using ht) (by simpa using hv')) fun b o hm=>hI b o (List.mem_append_right _ hm)
     have h1':=qex (fun c x=>q9C (Nat.le_max_left fu d')) h1;have h3':=qtQ (fun c x=>q9C (jCq fu d')) h3;have hok:=hv 0 t v rfl rfl;rw[hsh];refine⟨max fu d',?_⟩;cases g with
     |true=>
      obtain⟨ca,rfl⟩:=zlj hg hok;refine⟨.agg xs::avs,⟨xs,avs,rfl,h1',h3'⟩,?_⟩;simp only[qaU,Rel];exact⟨_,vs,rfl,⟨ca.toList,by simp,h2⟩,h4⟩
     |false=>
      have hcell:=zfu hg hok;rw[hcell]at h2
      match xs,h2 with
      | [x],h2=>
       simp only[qaU]at h2;obtain⟨v',vs',he,h2,_⟩:=h2;cases he;refine⟨x::avs,⟨x,avs,rfl,h1',h3'⟩,?_⟩;simp only[qaU];exact⟨v,vs,rfl,h2,h4⟩
      | [],h2=>simp[qaU]at h2
      |_::_::_,h2=>
       have:=qbc h2;simp at this
    ·cases hok
   ·cases hp
  ·cases hp
theorem qVW{IP:Prog}(hP:qCn P IP){f:FuncId}{avs:List AV}{W:World}{vs:List Value}(hI:∀b o,I b o->b<W.heap.size)(hg:GlobAt W I)(hr:qaU W I avs m0 vs){n:Nat}(hn:(qaI IP n).1 f avs []=some (.ret (.bool true),[]))(hf:(IP.fn f).isSome=true:=by kernel_rfl) :
  Calls P f vs.toArray W fun e W'=>e= .returned (.bool true)/\RowKit.Below W.heap.size W W':=by
 have H0:HeapAt W I m0 []:=⟨fun i b hb=>by simp[qal]at hb,fun i j a b L L' hi=>by simp[qal]at hi,hI,hg⟩;have hC:Calls P f vs.toArray W (qMD W I m0 [] (.ret (.bool true)) []):=by
  cases n with
  |zero=>simp[qaI]at hn
  |succ n=>
   simp only[qaI]at hn;obtain⟨F,hF⟩:=jCh.1 hf;rw[hF]at hn;exact(qds (qnb hP n).1 (qnb hP n).2 (hP.1 f F hF) hn).2 W I m0 vs H0 (fun _ _=>rfl) hr
 refine hC.mono ?_;rintro e W' ⟨I',m',hA,u,rfl,hu⟩;simp only[Rel]at hu;subst hu;refine⟨rfl,hA.stays.out.1,hA.stays.out.2.2,hA.stays.out.2.1,hA.stays.size,fun k hk=>hA.frame k hk ?_⟩;rintro⟨i,a,L,hi,_⟩;simp[qal]at hi
theorem qnV(hl:laidOutB P=true){W W':World}{sp':Nat->Bool}:∀{ts:List TypeId} {vs:List Value} {ds:List (DataW H)} {ps:List MemPlace},(∀t∈ts,P.readableRec t=true/\t<P.types.size) ->
  DataW.TrodAll enc P W base (fun _=>true) true ts vs ds ps->(∀p∈ps,W.sameAt W' p)->(∀p∈ps,sp' p.block=true)->DataW.TrodAll enc P W' base sp' true ts vs ds ps
 | [],[],[],ps,_,h,_,_=>h
 | [],_::_,_,ps,_,h,_,_=>by simp[DataW.TrodAll]at h
 | [],[],_::_,ps,_,h,_,_=>by simp[DataW.TrodAll]at h
 |_::_,[],_,ps,_,h,_,_=>by simp[DataW.TrodAll]at h
 |_::_,_::_,[],ps,_,h,_,_=>by simp[DataW.TrodAll]at h
 |t::ts,v::vs,d::ds,ps,ht,h,hs,hsp=>by
  simp only[DataW.TrodAll]at h ⊢;obtain⟨p,q,hd,hrest,rfl⟩:=h;exact⟨p,q,WideElems.Trod_stays hl (ht t (by simp)).1 (ht t (by simp)).2 hd (fun x hx=>hs x (jBo _ hx)) fun x hx=>hsp x (jBo _ hx),
   qnV hl (fun t' h'=>ht t' (by simp[h'])) hrest (fun x hx=>hs x (List.mem_append_right _ hx)) fun x hx=>hsp x (List.mem_append_right _ hx),rfl⟩
theorem q5l{f:Func}{s:ChangeSpec}{fresh handsOn again:Bool}{W W':World}{args:Array Value}{ds gs:List (DataW H)}{before:List MemPlace}{tb:TypeId}(hl:laidOutB P=true)(hread:∀t∈f.params.toList,P.readableRec t=true/\t<P.types.size)
  (hvars:s.vars= []) (hres:f.resultTypes= #[tb]) (htb:P.underlying tb=some .bool) (hs1:(s.fn H (ds++gs)).results= [.lit (.bool true)]) (hs2:(s.fn H (ds++gs)).args=ds) (hs3:(s.fn H (ds++gs)).vars= [])
  (hW:DataW.Whole enc P f.params.toList s.vars false W args.toList ds gs before) (hb:RowKit.Below W.heap.size W W'):s.post enc P f false fresh handsOn again W args (.bool true) W':=by
 have hlt:=hW.lt;have hW0:=hW;obtain⟨p,q,hA,hV,rfl,hz,hn⟩:=hW;rw[hvars]at hV;have hq:q= []:=by
  cases gs with
  |nil=>simpa[DataW.TrodVars]using hV
  |cons=>simp[DataW.TrodVars]at hV
 subst hq;have hsame:∀x∈p,W.sameAt W' x:=fun x hx=>hb.same (by have:=hlt x (jBo _ hx);simpa using this)
 have hr1:∀(b:Nat) (sp:Nat->Bool) (hd:Bool),DataW.TrodAll enc P W' b sp hd f.resultTypes.toList ((Value.bool true).resultList f.resultTypes.size) (s.fn H (ds++gs)).results []:=by
  intro b sp hd;rw[hres,hs1];exact⟨[],[],⟨1,by simp[Value.resultList,Value.cells,DataW.trod,htb]⟩,rfl,rfl⟩
 have hr2:∀sp:Nat->Bool,(∀x∈p,sp x.block=true)->DataW.TrodAll enc P W' 0 sp true f.params.toList args.toList (s.fn H (ds++gs)).args p:=by
  intro sp hsp;rw[hs2];exact qnV hl hread hA hsame hsp
 have hr3:∀sp:Nat->Bool,DataW.TrodVars enc P W' sp s.vars (s.fn H (ds++gs)).vars []:=by
  intro sp;rw[hvars,hs3];rfl
 have hold:∀x∈p,decide (x.block<W.heap.size)=true:=fun x hx=>by simpa using hlt x (jBo _ hx)
 refine⟨ds,gs,p++[],[],p,[],hW0,hr1 _ _ _,hr2 _ hold,hr3 _,hb.frame _,fun _=>⟨?_,_,_,([]++p)++[],⟨[]++p,[],ChangeShapes.trodAll_append (hr2 _ fun _ _=>rfl) (hr1 _ _ _),hr3 _,rfl,?_,fun h=>by cases h⟩,?_⟩⟩
 ·intro j t r hj hr;rw[hres]at hj hr
  match j,hj,hr with
  |0,hj,hr=>
   simp[Value.resultList]at hj hr;subst hj;subst hr;simp[Value.okWide,htb,Cell.okWide,Cell.ok]
 ·intro b off hp;have hp':MemPlace.cell b off∈p++[]:=by simpa using hp
  rw[hb.frozen (p:=⟨b,off,none⟩) (hlt _ hp')];exact hz b off hp'
 ·intro x hx _;simpa using hx
end
end Go.Eng
namespace Go.Eng
section
variable {IP:Prog}
def LeC(c c':qba):Prop:=∀f a h r,c f a h=some r->c' f a h=some r
def LeL(l l':qhh):Prop:=∀k c s r,l k c s=some r->l' k c s=some r
theorem qwR{c c':qba}(hc:LeC c c'){h:Heap}{nx f:Nat}{args:List AV}{r:Res×Heap×Bool}(hs:qlA IP c h nx f args=some r):qlA IP c' h nx f args=some r:=by
 simp only[qlA]at hs ⊢;split at hs
 ·cases hs
 ·rename_i args' roots hp;split at hs
  ·rename_i moved shwn h1 h2;split at hs
   ·rename_i hd;split at hs
    ·cases hs
    ·rename_i r0 h0 hcl;simp only[h1,h2,hd,jB2,hc _ _ _ _ hcl];exact hs
   ·cases hs
  ·cases hs
theorem qAi{c c':qba}(hc:LeC c c'){nx:Nat}{ev:Opd->AV}{h:Heap}{io:IOp}{r:Res×Heap×Bool}(hs:opS IP c nx ev h io=some r):opS IP c' nx ev h io=some r:=by
 cases io<;>try exact hs
 case call f xs=>exact qwR hc hs
 case callv x xs=>
  simp only[opS]at hs ⊢;split at hs
  ·exact qwR hc hs
  ·cases hs
theorem qyt{c c':qba}(hc:LeC c c'){nx:Nat}{o:IOper}{e:Env}{h:Heap}{s:Step}(hs:qc8 IP c nx o e h=some s):qc8 IP c' nx o e h=some s:=by
 simp only[qc8]at hs ⊢;split at hs
 ·cases hs
 ·exact hs
 ·split at hs
  ·cases hs
  ·rename_i r hr;split at hs
   ·cases hs
   ·rename_i v out w ho;simp only[qAi hc ho];exact hs
   ·rename_i v out w ho;simp only[qAi hc ho];exact hs
theorem qmA{c c':qba}(hc:LeC c c'):∀{ops:List IOper} {e:Env} {h:Heap} {nx:Nat} {log:List Step} {r:X×Env×Heap×List Step},qcT IP c ops e h nx log=some r->qcT IP c' ops e h nx log=some r
 | [],e,h,nx,log,r,hs=>hs
 |o::ops,e,h,nx,log,r,hs=>by
  simp only[qcT]at hs ⊢;cases hq:qc8 IP c nx o e h with
  |none=>simp[hq]at hs
  |some s=>
   rw[qyt hc hq];rw[hq]at hs;cases s with
   |pan a b d=>exact hs
   |skip=>exact qmA hc hs
   |did a b d f=>exact qmA hc hs
theorem qmz{c c':qba}(hc:LeC c c'){base:Nat}:∀{ops:List IOper} {i:Nat} {e:Env} {h:Heap} {log:List Step} {r:Option AV×Env×Heap×List Step},qd0 IP c base i ops e h log=some r->qd0 IP c' base i ops e h log=some r
 | [],i,e,h,log,r,hs=>hs
 |o::ops,i,e,h,log,r,hs=>by
  simp only[qd0]at hs ⊢;cases hq:qc8 IP c (base+16*i) o e h with
  |none=>simp[hq]at hs
  |some s=>
   rw[qyt hc hq];rw[hq]at hs;simp only at hs ⊢;split at hs
   ·exact hs
   ·split at hs
    ·rename_i ht;rw[jAr ht];exact qmz hc hs
    ·cases hs
theorem qwC{c c':qba}(hc:LeC c c'){ops:List IOper}{d:Option (List (List Nat))}{s:St}{r:X×St}(hs:qbx IP c ops d s=some r):qbx IP c' ops d s=some r:=by
 simp only[qbx]at hs ⊢;split at hs
 ·split at hs
  ·cases hs
  ·rename_i q;rw[qmA hc q];exact hs
 ·split at hs
  ·cases hs
  ·rename_i q;simp only[qmz hc q];exact hs
  ·rename_i q;simp only[qmz hc q];exact hs
theorem qsT{c c':qba}(hc:LeC c c'){l l':qhh}(hl:LeL l l'):∀{ic:ICode} {s:St} {r:X×St},qce IP c l ic s=some r->qce IP c' l' ic s=some r:=by
 intro ic
 induction ic with
 |skip=>intro s r h;exact h
 |region ops d=>intro s r h;exact qwC hc h
 |seq a b iha ihb=>
  intro s r h;simp only[qce]at h ⊢;split at h
  ·rename_i s1 h1;rw[iha h1];exact ihb h
  ·rename_i hne;rw[iha h];split
   ·rename_i s1 he;cases he;exact absurd h (hne s1)
   ·rfl
 |cond x a b iha ihb=>
  intro s r h;simp only[qce]at h ⊢;split at h
  ·exact iha h
  ·exact ihb h
  ·cases h
 |block id a ih=>
  intro s r h;simp only[qce]at h ⊢;split at h
  ·rename_i j s1 h1;rw[ih h1];exact h
  ·rename_i hne;rw[ih h];split
   ·rename_i j s1 he;cases he;exact absurd h (hne j s1)
   ·rfl
 |loop k a ih=>intro s r h;exact hl _ _ _ _ h
 |exit id=>intro s r h;exact h
 |ret=>intro s r h;exact h
theorem qTy{c c':qba}(hc:LeC c c'){l l':qhh}(hl:LeL l l'){f:Nat}{F:Fun}{args:List AV}{h:Heap}{r:Res×Heap}(hs:body IP c l f F args h=some r):body IP c' l' f F args h=some r:=by
 simp only[body]at hs ⊢;cases hq:qce IP c l F.body ⟨params 0 args,wH IP f h,h.length,h.length⟩with
 |none=>simp[hq]at hs
 |some q=>rw[qsT hc hl hq];rw[hq]at hs;exact hs
theorem qp1:∀n,LeC (qaI IP n).1 (qaI IP (n+1)).1/\LeL (qaI IP n).2 (qaI IP (n+1)).2
 |0=>⟨fun f a h r hr=>by simp[qaI]at hr,fun k c s r hr=>by simp[qaI]at hr⟩
 |n+1=>by
  obtain⟨h1,h2⟩:=qp1 n;constructor
  ·intro f a h r hr;have e1:(qaI IP (n+1)).1 f a h=match IP.fn f with
    |some F=>body IP (qaI IP n).1 (qaI IP n).2 f F a h
    |none=>match IP.spec f with
     |some g=>g a h
     |none=>match IP.seen f with
      |some s=>s.g (qaI IP n).1 a h
      |none=>none:=rfl
   have e2:(qaI IP (n+1+1)).1 f a h=match IP.fn f with
    |some F=>body IP (qaI IP (n+1)).1 (qaI IP (n+1)).2 f F a h
    |none=>match IP.spec f with
     |some g=>g a h
     |none=>match IP.seen f with
      |some s=>s.g (qaI IP (n+1)).1 a h
      |none=>none:=rfl
   rw[e1]at hr;rw[e2];split at hr
   ·exact qTy h1 h2 hr
   ·split at hr
    ·exact hr
    ·split at hr
     ·rename_i s hs;exact s.mono _ _ h1 _ _ _ hr
     ·cases hr
  ·intro k c s r hr;have e1:∀m,(qaI IP (m+1)).2 k c s=match norm (hk k) s with
    |none=>none
    |some s=>match qce IP (qaI IP m).1 (qaI IP m).2 c s with
     |some (.normal,s)=>(qaI IP m).2 k c s
     |some (x,s)=>qCi k x s
     |none=>none:=fun _=>rfl
   rw[e1]at hr ⊢;split at hr
   ·cases hr
   ·rename_i s1 hn;split at hr
    ·rename_i s2 hx;simp only[qsT h1 h2 hx];exact h2 _ _ _ _ hr
    ·rename_i x s2 hne hx;simp only[qsT h1 h2 hx];cases x with
     |normal=>exact absurd rfl (hne)
     |_=>exact hr
    ·cases hr
theorem qbM{n m:Nat}(h:n<=m):LeC (qaI IP n).1 (qaI IP m).1/\LeL (qaI IP n).2 (qaI IP m).2:=by
 induction h with
 |refl=>exact⟨fun _ _ _ _ h=>h,fun _ _ _ _ h=>h⟩
 |step _ ih=>
  obtain⟨h1,h2⟩:=qp1 (IP:=IP) _;exact⟨fun f a h r hr=>h1 _ _ _ _ (ih.1 _ _ _ _ hr),fun k c s r hr=>h2 _ _ _ _ (ih.2 _ _ _ _ hr)⟩
open Classical in
noncomputable def qbJ(IP:Prog):qba:=fun f a h=>if hx:∃n r,(qaI IP n).1 f a h=some r then(qaI IP (Classical.choose hx)).1 f a h else none
open Classical in
noncomputable def qmw(IP:Prog):qhh:=fun k c s=>if hx:∃n r,(qaI IP n).2 k c s=some r then(qaI IP (Classical.choose hx)).2 k c s else none
theorem qb4{f:Nat}{a:List AV}{h:Heap}{r:Res×Heap}:qbJ IP f a h=some r ↔ ∃n,(qaI IP n).1 f a h=some r:=by
 constructor
 ·intro hr;simp only[qbJ]at hr;split at hr
  ·exact⟨_,hr⟩
  ·cases hr
 ·rintro⟨n,hn⟩;have hx:∃n r,(qaI IP n).1 f a h=some r:=⟨n,r,hn⟩;simp only[qbJ,dif_pos hx];obtain⟨r',hr'⟩:=Classical.choose_spec hx;rw[hr'];rcases Nat.le_total n (Classical.choose hx)with hle|hle
  ·rw[(qbM hle).1 _ _ _ _ hn]at hr';exact hr'.symm
  ·have:=(qbM hle).1 _ _ _ _ hr';rw[hn]at this;exact this.symm
theorem qh4{k:List Nat}{c:ICode}{s:St}{r:X×St}:qmw IP k c s=some r ↔ ∃n,(qaI IP n).2 k c s=some r:=by
 constructor
 ·intro hr;simp only[qmw]at hr;split at hr
  ·exact⟨_,hr⟩
  ·cases hr
 ·rintro⟨n,hn⟩;have hx:∃n r,(qaI IP n).2 k c s=some r:=⟨n,r,hn⟩;simp only[qmw,dif_pos hx];obtain⟨r',hr'⟩:=Classical.choose_spec hx;rw[hr'];rcases Nat.le_total n (Classical.choose hx)with hle|hle
  ·rw[(qbM hle).2 _ _ _ _ hn]at hr';exact hr'.symm
  ·have:=(qbM hle).2 _ _ _ _ hr';rw[hn]at this;exact this.symm
theorem qCD{h:Heap}{nx f:Nat}{args:List AV}{r:Res×Heap×Bool}(hs:qlA IP (qbJ IP) h nx f args=some r):∃n0,∀n,n0<=n->qlA IP (qaI IP n).1 h nx f args=some r:=by
 have hs0:=hs;simp only[qlA]at hs;split at hs
 ·cases hs
 ·rename_i args' roots hp;split at hs
  ·rename_i moved shwn h1 h2;split at hs
   ·rename_i hd;split at hs
    ·cases hs
    ·rename_i r0 h0 hcl;obtain⟨n0,hn0⟩:=qb4.1 hcl;refine⟨n0,fun n hn=>?_⟩;have:=(qbM hn).1 _ _ _ _ hn0;simp only[qlA,hp,h1,h2,hd,jB2,this];exact hs
   ·cases hs
  ·cases hs
theorem qW0{nx:Nat}{ev:Opd->AV}{h:Heap}{io:IOp}{r:Res×Heap×Bool}(hs:opS IP (qbJ IP) nx ev h io=some r):∃n0,∀n,n0<=n->opS IP (qaI IP n).1 nx ev h io=some r:=by
 cases io<;>try exact⟨0,fun n _=>hs⟩
 case call f xs=>exact qCD hs
 case callv x xs=>
  simp only[opS]at hs ⊢;split at hs
  ·exact qCD hs
  ·cases hs
theorem qEA{nx:Nat}{o:IOper}{e:Env}{h:Heap}{s:Step}(hs:qc8 IP (qbJ IP) nx o e h=some s):∃n0,∀n,n0<=n->qc8 IP (qaI IP n).1 nx o e h=some s:=by
 simp only[qc8]at hs ⊢;split at hs
 ·cases hs
 ·exact⟨0,fun n _=>hs⟩
 ·split at hs
  ·cases hs
  ·rename_i r hr;split at hs
   ·cases hs
   ·rename_i v out w ho;obtain⟨n0,h0⟩:=qW0 ho;exact⟨n0,fun n hn=>by simp only[h0 n hn];exact hs⟩
   ·rename_i v out w ho;obtain⟨n0,h0⟩:=qW0 ho;exact⟨n0,fun n hn=>by simp only[h0 n hn];exact hs⟩
theorem qoW:∀{ops:List IOper} {e:Env} {h:Heap} {nx:Nat} {log:List Step} {r:X×Env×Heap×List Step},qcT IP (qbJ IP) ops e h nx log=some r-> ∃n0,∀n,n0<=n->qcT IP (qaI IP n).1 ops e h nx log=some r
 | [],e,h,nx,log,r,hs=>⟨0,fun n _=>hs⟩
 |o::ops,e,h,nx,log,r,hs=>by
  simp only[qcT]at hs ⊢;cases hq:qc8 IP (qbJ IP) nx o e h with
  |none=>simp[hq]at hs
  |some s=>
   obtain⟨n0,h0⟩:=qEA hq;rw[hq]at hs;cases s with
   |pan a b d=>exact⟨n0,fun n hn=>by rw[h0 n hn];exact hs⟩
   |skip=>
    obtain⟨n1,h1⟩:=qoW hs;exact⟨max n0 n1,fun n hn=>by rw[h0 n (by omega)];exact h1 n (by omega)⟩
   |did a b d f=>
    obtain⟨n1,h1⟩:=qoW hs;exact⟨max n0 n1,fun n hn=>by rw[h0 n (by omega)];exact h1 n (by omega)⟩
theorem qoV{base:Nat}:∀{ops:List IOper} {i:Nat} {e:Env} {h:Heap} {log:List Step} {r:Option AV×Env×Heap×List Step},qd0 IP (qbJ IP) base i ops e h log=some r-> ∃n0,∀n,n0<=n->qd0 IP (qaI IP n).1 base i ops e h log=some r
 | [],i,e,h,log,r,hs=>⟨0,fun n _=>hs⟩
 |o::ops,i,e,h,log,r,hs=>by
  simp only[qd0]at hs ⊢;cases hq:qc8 IP (qbJ IP) (base+16*i) o e h with
  |none=>simp[hq]at hs
  |some s=>
   obtain⟨n0,h0⟩:=qEA hq;rw[hq]at hs;simp only at hs;split at hs
   ·rename_i hp;exact⟨n0,fun n hn=>by rw[h0 n hn];simp only[hp];exact hs⟩
   ·rename_i hp;split at hs
    ·rename_i ht;obtain⟨n1,h1⟩:=qoV hs;exact⟨max n0 n1,fun n hn=>by rw[h0 n (by omega)];simp only[hp];rw[jAr ht];exact h1 n (by omega)⟩
    ·cases hs
theorem qAy{ops:List IOper}{d:Option (List (List Nat))}{s:St}{r:X×St}(hs:qbx IP (qbJ IP) ops d s=some r):∃n0,∀n,n0<=n->qbx IP (qaI IP n).1 ops d s=some r:=by
 simp only[qbx]at hs ⊢;cases d with
 |none=>
  simp only at hs ⊢;split at hs
  ·cases hs
  ·rename_i q;obtain⟨n0,h0⟩:=qoW q;exact⟨n0,fun n hn=>by rw[h0 n hn];exact hs⟩
 |some bf=>
  simp only at hs ⊢;split at hs
  ·cases hs
  ·rename_i q;obtain⟨n0,h0⟩:=qoV q;exact⟨n0,fun n hn=>by simp only[h0 n hn];exact hs⟩
  ·rename_i q;obtain⟨n0,h0⟩:=qoV q;exact⟨n0,fun n hn=>by simp only[h0 n hn];exact hs⟩
theorem qJd:∀{ic:ICode} {s:St} {r:X×St},qce IP (qbJ IP) (qmw IP) ic s=some r-> ∃n0,∀n,n0<=n->qce IP (qaI IP n).1 (qaI IP n).2 ic s=some r:=by
 intro ic
 induction ic with
 |skip=>intro s r h;exact⟨0,fun n _=>h⟩
 |region ops d=>intro s r h;exact qAy h
 |seq a b iha ihb=>
  intro s r h;simp only[qce]at h ⊢;split at h
  ·rename_i s1 h1;obtain⟨n0,h0⟩:=iha h1;obtain⟨n1,h1⟩:=ihb h;exact⟨max n0 n1,fun n hn=>by rw[h0 n (by omega)];exact h1 n (by omega)⟩
  ·rename_i hne;obtain⟨n0,h0⟩:=iha h;refine⟨n0,fun n hn=>?_⟩;rw[h0 n hn];split
   ·rename_i s1 he;cases he;exact absurd h (hne s1)
   ·rfl
 |cond x a b iha ihb=>
  intro s r h;simp only[qce]at h ⊢;split at h
  ·exact iha h
  ·exact ihb h
  ·cases h
 |block id a ih=>
  intro s r h;simp only[qce]at h ⊢;split at h
  ·rename_i j s1 h1;obtain⟨n0,h0⟩:=ih h1;exact⟨n0,fun n hn=>by rw[h0 n hn];exact h⟩
  ·rename_i hne;obtain⟨n0,h0⟩:=ih h;refine⟨n0,fun n hn=>?_⟩;rw[h0 n hn];split
   ·rename_i j s1 he;cases he;exact absurd h (hne j s1)
   ·rfl
 |loop k a ih=>
  intro s r h;obtain⟨n0,h0⟩:=qh4.1 h;exact⟨n0,fun n hn=>(qbM hn).2 _ _ _ _ h0⟩
 |exit id=>intro s r h;exact⟨0,fun n _=>h⟩
 |ret=>intro s r h;exact⟨0,fun n _=>h⟩
theorem qMN{f:Nat}{g:List AV->Heap->Option (Res×Heap)}(hF:IP.fn f=none)(hS:IP.spec f=some g){a:List AV}{h:Heap}{r:Res×Heap}(hr:g a h=some r):qbJ IP f a h=some r:=
 qb4.2 ⟨1,by simp only[qaI,hF,hS];exact hr⟩
theorem qkI{f:Nat}{s:Seen}(hF:IP.fn f=none)(hS:IP.spec f=none)(hs:IP.seen f=some s){a:List AV}{h:Heap}{r:Res×Heap}{n:Nat}(hr:s.g (qaI IP n).1 a h=some r):qbJ IP f a h=some r:=
 qb4.2 ⟨n+1,by simp only[qaI,hF,hS,hs];exact hr⟩
theorem q4F{f:Nat}{F:Fun}(hF:IP.fn f=some F){a:List AV}{h:Heap}{r:Res×Heap}(hb:body IP (qbJ IP) (qmw IP) f F a h=some r):qbJ IP f a h=some r:=by
 simp only[body]at hb;cases hq:qce IP (qbJ IP) (qmw IP) F.body ⟨params 0 a,wH IP f h,h.length,h.length⟩with
 |none=>simp[hq]at hb
 |some q=>
  obtain⟨n0,h0⟩:=qJd hq;refine qb4.2 ⟨n0+1,?_⟩;simp only[qaI,hF,body,h0 n0 (jAj _)];rw[hq]at hb;exact hb
theorem qLD{k:List Nat}{c:ICode}{s s1:St}(hn:norm (hk k) s=some s1){x:X}{s2:St}(hx:qce IP (qbJ IP) (qmw IP) c s1=some (x,s2)){r:X×St}(hr:(match x with | .normal=>qmw IP k c s2|x=>qCi k x s2)=some r):qmw IP k c s=some r:=by
 obtain⟨n0,h0⟩:=qJd hx;cases x with
 |normal=>
  obtain⟨n1,h1⟩:=qh4.1 hr;refine qh4.2 ⟨max n0 n1+1,?_⟩;simp only[qaI,hn,h0 (max n0 n1) (by omega)];exact(qbM (by omega)).2 _ _ _ _ h1
 |_=>
  refine qh4.2 ⟨n0+1,?_⟩;simp only[qaI,hn,h0 n0 (jAj _)];exact hr
end
end Go.Eng
namespace Go.Eng
def qak(s:List UInt8)(i:Int):Int:=((qhp s i).getD 0).toNat
def inB(n:Nat)(i:Int):Bool:=decide (0<=i)&&decide (i<n)
theorem qTn{α:Type}{l:List α}{i:Int}(h:inB l.length i=true):∃x,qhp l i=some x:=by
 simp only[inB,jA1,jA6]at h;have:i.toNat<l.length:=by omega
 exact⟨l[i.toNat],by simp[qhp,h.1,this]⟩
def qWs:Option AV->Nat
 |some (.int _ n)=>n.toNat
 |_=>0
def qow(len:Nat):Option AV->Nat
 |some (.int _ n)=>n.toNat
 |_=>len
def leB(n:Int)(m:Nat):Bool:=decide (0<=n)&&decide (n<=m)
def ziJ(len cap:Nat)(lo hi:Option AV):Bool:=
 (match hi with
  |none=>true
  |some (.int _ n)=>leB n cap
  |_=>false) &&
 (match lo with
  |none=>true
  |some (.int _ n)=>leB n (qow len hi)
  |_=>false)
theorem qmR{len cap:Nat}{lo hi:Option AV}(h:ziJ len cap lo hi=true):qg1 len cap lo hi=some (qWs lo,qow len hi):=by
 simp only[ziJ,jA1]at h;obtain⟨h1,h2⟩:=h;have e1:qOM len cap hi=some (qow len hi):=by
  cases hi with
  |none=>rfl
  |some v=>cases v<;>simp_all[leB,qOM,qow]
 simp only[qg1,e1];cases lo with
 |none=>rfl
 |some v=>cases v<;>simp_all[leB,zfo,qWs]
def ziM{α:Type}(es:List α)(lo hi:Option AV):List α:=match lo,hi with
 |none,none=>es
 |none,some h=>es.take (qow es.length (some h))
 |some l,none=>es.drop (qWs (some l))
 |some l,some h=>(es.drop (qWs (some l))).take (qow es.length (some h)-qWs (some l))
theorem qTL{α:Type}(es:List α)(lo hi:Option AV):ziM es lo hi=(es.drop (qWs lo)).take (qow es.length hi-qWs lo):=by
 cases lo<;>cases hi
 ·simp[ziM,qWs,qow]
 ·simp[ziM,qWs]
 ·rename_i v;simp only[ziM];rw[show qow es.length none=es.length from rfl,jBb (by simp)]
 ·rfl
abbrev Alt:=Bool×(Res×Heap×Bool)
def room(n bytes:Nat):Bool:=decide (n*bytes<=lim)
def leO(off n:Nat):Bool:=match off with
 |0=>true
 |k+1=>decide (k+1<=n)
theorem zlp{off n:Nat}(h:leO off n=true):off<=n:=by
 cases off
 ·omega
 ·exact jBd h
def zsA(h:Heap)(sz:Nat):AV->Option (Bool×List AV)
 | .nils _=>some (true,[])
 | .view sz' es=>some (decide (sz'=sz),es)
 | .own id off lo=>match qal h id with
  |some (.arr sz' es _)=>match lo with
   |some len=>some (decide (sz'=sz)&&decide (off+len<=es.length),qEG es off (some len))
   |none=>some (decide (sz'=sz),qCL es off)
  |_=>none
 |_=>none
theorem zf6{h:Heap}{sz:Nat}{v:AV}{es:List AV}(hs:zsA h sz v=some (true,es)):qAA h sz v=some es:=by
 cases v<;>simp only[zsA,qAA]at hs ⊢ <;>try(simp at hs;done)
 case nils=>simpa using hs
 case view sz' es'=>simp at hs;simp[hs]
 case own id off lo=>
  split at hs
  ·rename_i sz' es' fz hl;rw[hl];cases lo with
   |none=>simp at hs;simp[hs]
   |some len=>simp at hs;simp[hs]
  ·cases hs
def qy1(h:Heap)(nx sz bytes:Nat)(s:AV)(b:Bool)(src:List AV):List Alt:=
  match s with
  | .nils ⟨_,.non⟩=>[(decide (src.length=0)&&b,.ret s,h,true)]
  | .nils _=>[(decide (src.length=0)&&b,.ret s,h,true),(decide (src.length≠0)&&(b&&room src.length bytes),.ret (.own nx 0 none),qjB h nx (.arr sz src false),true)]
  | .own id off lo=>match qal h id with
    |some (.arr sz' es false)=>match lo with
      |none=>
        [(decide (src.length=0)&&(decide (sz'=sz)&&b),.ret s,h,true),
         (decide (src.length≠0)&&(decide (sz'=sz)&&(b&&(leO off es.length&&room (qm6 es.length off none+src.length) bytes))),.ret (.own nx 0 none),qjB (qJr h id) nx (.arr sz (qCL es off++src) false),true)]
      |some len=>
        [(decide (src.length=0)&&(decide (sz'=sz)&&b),.ret s,h,true),
         (decide (src.length≠0)&&(decide (sz'=sz)&&(decide (off+len+src.length<=es.length)&&b)),.ret (.own id off (some (len+src.length))),qjB h id (.arr sz (es.take (off+len)++src++es.drop (off+len+src.length)) false),true),
         (decide (src.length≠0)&&(decide (sz'=sz)&&(decide (es.length<off+len+src.length)&&(b&&(decide (off+len<=es.length)&&room (len+src.length) bytes)))),.ret (.own nx 0 none),qjB (qJr h id) nx (.arr sz (qEG es off (some len)++src) false),true)]
    |_=>[]
  | .view _ _=>[(decide (src.length=0)&&b,.ret s,h,true)]
  |_=>[]
def ownB(num off:Nat)(lo:Option Nat)(i:Int):Bool:=match off,lo with
 |0,none=>inB num i
 |_,_=>inB (qm6 num off lo) i&&decide (off+i.toNat<num)
theorem ownB_of{num off:Nat}{lo:Option Nat}{i:Int}(h:ownB num off lo i=true):0<=i/\i<qm6 num off lo/\off+i.toNat<num:=by
 unfold ownB at h;split at h
 ·simp only[inB,jA1,jA6]at h;exact⟨h.1,h.2,by omega⟩
 ·simp only[inB,jA1,jA6]at h;exact⟨h.1.1,h.1.2,h.2⟩
def zpO(num off:Nat)(lo:Option Nat)(hi:Option AV):Bool:=match off,lo,hi with
 |0,none,none=>true
 |_,_,_=>decide (off+qow (qm6 num off lo) hi<=num)
theorem zeM{num off:Nat}{lo:Option Nat}{hi:Option AV}(h:zpO num off lo hi=true):off+qow (qm6 num off lo) hi<=num:=by
 unfold zpO at h;split at h
 ·simp[qow,qm6]
 ·exact jBd h
def alts(nx:Nat)(ev:Opd->AV)(h:Heap):IOp->List Alt
 | .idxs x i=>match ev x,ev i with
  | .str s,.int _ j=>[(inB s.length j,.ret (.int .u8 (qak s j)),h,false)]
  |_,_=>[]
 | .slc sz x lo hi=>match ev x with
  | .view sz' es=>[(decide (sz'=sz)&&ziJ es.length es.length (qbY ev lo) (qbY ev hi),.ret (.view sz (ziM es (qbY ev lo) (qbY ev hi))),h,false)]
  | .own id off len=>match qal h id with
   |some (.arr sz' es _)=>[(decide (sz'=sz)&&(ziJ (qm6 es.length off len) (qm6 es.length off none) (qbY ev lo) (qbY ev hi)&&zpO es.length off len (qbY ev hi)),
     .ret (.own id (off+qWs (qbY ev lo)) (znL len hi (qow (qm6 es.length off len) (qbY ev hi)-qWs (qbY ev lo)))),h,false)]
   |_=>[]
  | .nils z=>[(ziJ 0 0 (qbY ev lo) (qbY ev hi),.ret (.nils z),h,false)]
  |_=>[]
 | .slcs x lo hi=>match ev x with
  | .str s=>[(ziJ s.length s.length (qbY ev lo) (qbY ev hi),.ret (.str (ziM s (qbY ev lo) (qbY ev hi))),h,false)]
  |_=>[]
 | .iaddr sz _ x i=>match ev x,ev i with
  | .own id off len,.int _ i=>match qal h id with
   |some (.arr sz' es _)=>[(decide (sz'=sz)&&ownB es.length off len i,.ret (.ref id (znS off i) 0),h,false)]
   |_=>[]
  |_,_=>[]
 | .eqn k neg x y=>match k,ev x,ev y with
  | .s,.view _ es,.nils ⟨_,.nil⟩=>[(decide (es.length≠0),.ret (.bool neg),h,false)]
  | .s,.nils ⟨_,.nil⟩,.view _ es=>[(decide (es.length≠0),.ret (.bool neg),h,false)]
  |_,_,_=>[]
 | .app sz bytes s x=>match zsA h sz (ev x)with
  |some (b,src)=>qy1 h nx sz bytes (ev s) b src
  |none=>[]
 | .mks sz bytes z l c=>match ev l,ev c with
  | .int _ l',.int _ c'=>[(decide (0<=l')&&decide (l'<=c')&&room c'.toNat bytes&&decide (c'<=4611686018427387904),.ret (.own nx 0 (if q6b l c then none else some l'.toNat)),qjB h nx (.arr sz (List.replicate c'.toNat (nz z)) false),false)]
  |_,_=>[]
 | .bin .quo x y=>match ev x,ev y with
  | .int k a,.int k' b=>[(decide (k=k')&&decide (b≠0),.ret (.int k (k.wrap (a.tdiv b))),h,false)]
  |_,_=>[]
 | .bin .rem x y=>match ev x,ev y with
  | .int k a,.int k' b=>[(decide (k=k')&&decide (b≠0),.ret (.int k (a.tmod b)),h,false)]
  |_,_=>[]
 | .bin .shl x y=>match ev x,ev y with
  | .int k a,.int _ b=>[(decide (0<=b),.ret (.int k (k.wrap (a*2^(min b.toNat k.bits)))),h,false)]
  |_,_=>[]
 | .bin .shr x y=>match ev x,ev y with
  | .int k a,.int _ b=>[(decide (0<=b),.ret (.int k (a.fdiv (2^(min b.toNat k.bits)))),h,false)]
  |_,_=>[]
 | .bin .add x y=>match ev x,ev y with
  | .str a,.str b=>[(decide (a.length+b.length<=4611686018427387904),.ret (.str (a++b)),h,false)]
  |_,_=>[]
 |_=>[]
theorem qMI{h:Heap}{nx sz bytes:Nat}{s:AV}{src:List AV}{b:Bool}{r:Res×Heap×Bool}(hm:(true,r)∈qy1 h nx sz bytes s b src):b=true/\ ∃v h',qMH h nx sz bytes s src=some (v,h')/\r=(.ret v,h',true):=by
 cases s<;>simp only[qy1]at hm<;>try(simp at hm;done)
 case nils q=>
  obtain⟨q,k⟩:=q;cases k<;>simp only[qy1]at hm
  case non=>
   simp only[jAc,jAd,jAp,jBp]at hm;obtain⟨hb,rfl⟩:=hm;simp only[jBv (a:=true),jA1,jA6]at hb;exact⟨hb.2,_,_,by simp[qMH,hb.1],rfl⟩
  all_goals
   simp only[jAc,jAd,jAp,jBp]at hm;rcases hm with⟨hb,rfl⟩|⟨hb,rfl⟩<;>simp only[jBv (a:=true),jA1,jA6,room]at hb
   ·exact⟨hb.2,_,_,by simp[qMH,hb.1],rfl⟩
   ·obtain⟨h1,h0,h2⟩:=hb;exact⟨h0,_,_,by simp only[qMH];rw[jAm h1,jAr h2],rfl⟩
 case view sz' es=>
  simp only[jAc,jAd,jAp,jBp]at hm;obtain⟨hb,rfl⟩:=hm;simp only[jBv (a:=true),jA1,jA6]at hb;exact⟨hb.2,_,_,by simp only[qMH];rw[jAr hb.1],rfl⟩
 case own id off lo=>
  split at hm
  ·rename_i sz' es hl;cases lo with
   |none=>
    simp only[jAc,jAd,jAp,jBp]at hm;rcases hm with⟨hb,rfl⟩|⟨hb,rfl⟩<;>simp only[jBv (a:=true),jA1,jA6,room]at hb
    ·obtain⟨h3,h1,h0⟩:=hb;exact⟨h0,_,_,by simp only[qMH,hl];rw[jAr h1,jAr h3],rfl⟩
    ·obtain⟨h3,h1,h0,h2,h5⟩:=hb;exact⟨h0,_,_,by simp only[qMH,hl];rw[jAr h1,jAm h3,jAr ⟨zlp h2,h5⟩],rfl⟩
   |some len=>
    simp only[jAc,jAd,jAp,jBp]at hm;rcases hm with⟨hb,rfl⟩|⟨hb,rfl⟩|⟨hb,rfl⟩<;>simp only[jBv (a:=true),jA1,jA6,room]at hb
    ·obtain⟨h3,h1,h0⟩:=hb;exact⟨h0,_,_,by simp only[qMH,hl];rw[jAr h1,jAr h3],rfl⟩
    ·obtain⟨h3,h1,h4,h0⟩:=hb;exact⟨h0,_,_,by simp only[qMH,hl];rw[jAr h1,jAm h3,jAr (by omega),jAr h4],rfl⟩
    ·obtain⟨h3,h1,h4,h0,h2,h5⟩:=hb;exact⟨h0,_,_,by simp only[qMH,hl];rw[jAr h1,jAm h3,jAr h2,jAm (by omega),jAr h5],rfl⟩
  ·simp at hm
theorem zcf{P:Prog}{call:qba}{nx:Nat}{ev:Opd->AV}{h:Heap}{io:IOp}{r:Res×Heap×Bool}(hm:(true,r)∈alts nx ev h io):opS P call nx ev h io=some r:=by
 cases io<;>simp only[alts]at hm<;>try(simp at hm;done)
 case idxs x i=>
  split at hm
  ·rename_i s k j hx hi;simp only[jAc,jAd,jAp,jBp]at hm;obtain⟨hb,rfl⟩:=hm;obtain⟨c,hc⟩:=qTn hb.symm;simp[opS,hx,hi,hc,qak,val]
  ·simp at hm
 case slc sz x lo hi=>
  split at hm
  ·rename_i sz' es hx;simp only[jAc,jAd,jAp,jBp]at hm;obtain⟨hb,rfl⟩:=hm;simp only[jBv (a:=true),jA1,jA6]at hb;simp[opS,hx,qmR hb.2,hb.1,val,qTL]
  ·rename_i id off len hx;split at hm
   ·rename_i sz' es fz hl;simp only[jAc,jAd,jAp,jBp]at hm;obtain⟨hb,rfl⟩:=hm;simp only[jBv (a:=true),jA1,jA6]at hb;obtain⟨h1,h2,h3⟩:=hb;rw[qeA]at h2;simp[opS,hx,hl,qmR h2,h1,zeM h3,val]
   ·simp at hm
  ·rename_i z hx;simp only[jAc,jAd,jAp,jBp]at hm;obtain⟨hb,rfl⟩:=hm;simp[opS,hx,qmR hb.symm,val]
  ·simp at hm
 case slcs x lo hi=>
  split at hm
  ·rename_i s hx;simp only[jAc,jAd,jAp,jBp]at hm;obtain⟨hb,rfl⟩:=hm;simp[opS,hx,qmR hb.symm,val,qTL]
  ·simp at hm
 case iaddr sz ks x i=>
  split at hm
  ·rename_i id off len k j hx hi;split at hm
   ·rename_i sz' es fz hl;simp only[jAc,jAd,jAp,jBp]at hm;obtain⟨hb,rfl⟩:=hm;simp only[jBv (a:=true),jA1,jA6]at hb;obtain⟨h1,h2,h3⟩:=ownB_of hb.2;simp[opS,hx,hi,hl,hb.1,h1,h2,h3,val]
   ·simp at hm
  ·simp at hm
 case eqn k neg x y=>
  split at hm
  ·rename_i h1 h2;simp only[jAc,jAd,jAp,jBp]at hm;obtain⟨hb,rfl⟩:=hm;simp only[jBv (a:=true),jA6]at hb;simp only[opS,h1,h2,qeY,jAm hb];cases neg<;>simp[val]
  ·rename_i h1 h2;simp only[jAc,jAd,jAp,jBp]at hm;obtain⟨hb,rfl⟩:=hm;simp only[jBv (a:=true),jA6]at hb;simp only[opS,h1,h2,qeY,jAm hb];cases neg<;>simp[val]
  ·simp at hm
 case app sz bytes s x=>
  split at hm
  ·rename_i b src hs;obtain⟨rfl,v,h',h1,rfl⟩:=qMI hm;simp only[opS,zf6 hs,h1]
  ·simp at hm
 case mks sz bytes z l c=>
  split at hm
  ·rename_i k1 l' k2 c' h1 h2;simp only[jAc,jAd,jAp,jBp]at hm;obtain⟨hb,rfl⟩:=hm;simp only[jBv (a:=true),jA1,jA6,room]at hb;simp[opS,h1,h2,hb]
  ·simp at hm
 case bin op x y=>
  cases op<;>simp only[alts]at hm<;>try(simp at hm;done)
  all_goals
   split at hm
   ·rename_i h1 h2;simp only[jAc,jAd,jAp,jBp]at hm;obtain⟨hb,rfl⟩:=hm;simp only[jBv (a:=true),jA1,jA6]at hb;simp[opS,h1,h2,znG,zpr,zps,hb,qID]
   ·simp at hm
def qvz(h:Heap):Nat->AV->AV
 |0,v=>v
 |n+1,v=>match v with
  | .nils q=>.view q.sz []
  | .own id off lo=>match qal h id with
   |some (.arr sz es _)=>.view sz (qEG es off lo)
   |_=>.junk
  | .ref id _ off=>match qal h id with
   |some (.box cs _)=>.ptr ((cs.map (qvz h n)).drop off)
   |_=>.junk
  | .agg cs=>.agg (cs.map (qvz h n))
  | .tup vs=>.tup (vs.map (qvz h n))
  | .fn f cap=>.fn f (cap.map (qvz h n))
  | .iface t v=>.iface t (qvz h n v)
  |v=>v
def qqe(h:Heap):Nat->AV->Bool
 |0,_=>false
 |n+1,v=>match v with
  | .own id off lo=>match qal h id with
   |some (.arr _ es _)=>match lo with
    |some len=>decide (off+len<=es.length)
    |none=>true
   |_=>false
  | .ref id idx off=>match qal h id with
   |some (.box cs _)=>decide (idx=0/\off<=cs.length/\qa3 cs=true)&&cs.all (qqe h n)
   |_=>false
  | .mref _=>false
  | .agg cs=>cs.all (qqe h n)
  | .tup vs=>vs.all (qqe h n)
  | .fn _ cap=>cap.all (qqe h n)
  | .iface _ v=>qqe h n v
  |_=>true
theorem qvA{h:Heap}:∀(n:Nat) (v:AV),qqe h n v=true->snap h n v=some (qvz h n v)
 |0,v,hb=>by simp[qqe]at hb
 |n+1,v,hb=>by
  have hl:∀vs:List AV,vs.all (qqe h n)=true->qjx (snap h n) vs=some (vs.map (qvz h n)):=by
   intro vs
   induction vs with
   |nil=>intro _;rfl
   |cons v vs ih=>
    intro hb;simp only[jAw,jA1]at hb;simp only[qjx,jAs,qvA n v hb.1,ih hb.2]
  cases v<;>simp only[qqe,snap,qvz]at hb ⊢
  case own id off lo=>
   split at hb
   ·rename_i hk;simp only[hk];cases lo with
    |some len=>simp only at hb ⊢;rw[jAr (jBd hb)]
    |none=>rfl
   ·cases hb
  case ref id idx off=>
   split at hb
   ·rename_i hk;simp only[jA1]at hb;simp only[hk];rw[jAr (jBd hb.1),hl _ hb.2];rfl
   ·cases hb
  case mref=>cases hb
  case agg cs=>rw[hl _ hb];rfl
  case tup cs=>rw[hl _ hb];rfl
  case fn f cs=>rw[hl _ hb];rfl
  case iface t v=>rw[qvA n v hb];rfl
end Go.Eng
namespace Go.Eng
def br{R:Type}(b:Bool)(x y:R):R:=match b with
 |true=>x
 |false=>y
theorem qiG{R:Type}{b:Bool}{x:Option R}{r:R}(h:br b x none=some r):b=true/\x=some r:=by
 cases b with
 |true=>exact⟨rfl,h⟩
 |false=>cases h
def zji:Env->Nat->AV->Env
 | [],_,_=>[]
 |(j,v)::e,t,u=>if t=j then(j,u)::e else(j,v)::zji e t u
theorem qEN:∀{e:Env} {t:Nat} {v:AV},qb1 e t=v->v≠ .junk->zji e t v=e
 | [],t,v,h,hj=>rfl
 |(j,u)::e,t,v,h,hj=>by
  simp only[qb1]at h;simp only[zji];split
  ·rename_i he;rw[jAr he]at h;rw[h]
  ·rename_i he;rw[jAm he]at h;rw[qEN h hj]
section
variable {R:Type}
abbrev qjF(R:Type):=Nat->List AV->Heap->(Res->Heap->Option R)->Option R
abbrev qFl(R:Type):=List Nat->ICode->St->(X->St->Option R)->Option R
def intOf:AV->Int
 | .int _ n=>n
 |_=>0
def q9b:AV->Bool
 | .bool b=>b
 |_=>false
def strOf:AV->List UInt8
 | .str s=>s
 |_=>[]
def qaq:AV->List AV
 | .view _ es=>es
 |_=>[]
def zlW:AV->List AV
 | .ptr cs=>cs
 |_=>[]
def q9M:AV->Bool
 | .nilp=>true
 |_=>false
def okC:CS->AV->Bool
 | .int k,.int k' _=>decide (k'=k)
 | .bool,.bool _=>true
 | .str,.str _=>true
 | .slice k,.view sz _=>decide (sz=k)
 | .ptr _,.nilp=>true
 | .ptr _,.ptr _=>true
 |_,_=>false
def qqc:List CS->List AV->Bool
 | [],[]=>true
 |c::cs,x::xs=>okC c x&&qqc cs xs
 |_,_=>false
def qaH(ks:List CS)(es:List AV)(i:Int):Bool:=match qhp es i with
 |some e=>qqc ks (qai e)
 |none=>false
def cellAt(es:List AV)(i:Int)(j:Nat):AV:=(qai ((qhp es i).getD .junk))[j]?.getD .junk
def q5F(c:CS)(x:AV)(K:AV->Option R):Option R:=match c with
 | .int k=>K (.int k (intOf x))
 | .bool=>K (.bool (q9b x))
 | .str=>K (.str (strOf x))
 | .slice k=>K (.view k (qaq x))
 | .ptr _=>br (q9M x) (K .nilp) (K (.ptr (zlW x)))
def qLV(es:List AV)(i:Int):Nat->List CS->(List AV->Option R)->Option R
 |_,[],K=>K []
 |j,c::cs,K=>q5F c (cellAt es i j) fun x=>qLV es i (j+1) cs fun r=>K (x::r)
theorem qLW{c:CS}{x:AV}(h:okC c x=true){K:AV->Option R}:q5F c x K=K x:=by
 cases c<;>cases x<;>simp_all[okC,q5F,intOf,q9b,strOf,q9M,qaq,zlW,br]
theorem qDQ{es:List AV}{i:Int}{e:AV}(he:qhp es i=some e):∀(ks:List CS) (j:Nat) {K:List AV->Option R},qqc ks ((qai e).drop j)=true->qLV es i j ks K=K ((qai e).drop j)
 | [],j,K,h=>by
  cases hd:(qai e).drop j with
  |nil=>rfl
  |cons=>rw[hd]at h;simp[qqc]at h
 |c::cs,j,K,h=>by
  cases hd:(qai e).drop j with
  |nil=>rw[hd]at h;simp[qqc]at h
  |cons x xs=>
   rw[hd]at h;simp only[qqc,jA1]at h;have hx:cellAt es i j=x:=by
    have h0:=congrArg (·[0]?) hd;simp only[jBs,Nat.add_zero,List.getElem?_cons_zero]at h0;simp[cellAt,he,h0]
   have hxs:(qai e).drop (j+1)=xs:=by
    have h0:=congrArg (List.drop 1) hd;simpa using h0
   simp only[qLV,hx,qLW h.1];have:=qDQ he cs (j+1) (K:=fun r=>K (x::r)) (by rw[hxs];exact h.2);rw[this,hxs]
def qye(h:Heap)(all:Bool):List AV->(List AV->List Nat->Option R)->Option R
 | [],K=>K [] []
 |v::vs,K=>if q9N v||all then qye h all vs fun vs b=>K (v::vs) ([]++b)else match idsA v with
  | []=>qye h all vs fun vs b=>K (nz v::vs) ([]++b)
  |ids=>br (qqe h qhH v) (qye h all vs fun vs b=>K (qvz h qhH v::vs) (ids++b)) none
theorem qhb{h:Heap}{all:Bool}{ρ:R}:∀{vs:List AV} {K:List AV->List Nat->Option R},qye h all vs K=some ρ-> ∃a b,qAo h all vs=some (a,b)/\K a b=some ρ
 | [],K,hs=>⟨_,_,rfl,hs⟩
 |v::vs,K,hs=>by
  simp only[qye]at hs;split at hs
  ·rename_i hc;obtain⟨a,b,h1,h2⟩:=qhb hs;exact⟨_,_,by simp only[qAo,zjc,hc,jB2,h1],h2⟩
  ·rename_i hc;split at hs
   ·rename_i hi;obtain⟨a,b,h1,h2⟩:=qhb hs;refine⟨_,_,?_,h2⟩;simp only[qAo,zjc,h1];rw[jAm hc,hi]
   ·rename_i ids hi;obtain⟨hb,hs⟩:=qiG hs;obtain⟨a,b,h1,h2⟩:=qhb hs;refine⟨_,_,?_,h2⟩;simp only[qAo,zjc,h1,jAm hc,qvA _ _ hb]
def qIV(P:Prog)(cK:qjF R)(h:Heap)(nx f:Nat)(args:List AV)(K:Res×Heap×Bool->Option R):Option R:=
 qye h (P.mv f) args fun args' roots=>
  match qcf qhH h (idsA.idsL args') [],qcf qhH h roots []with
  |some moved,some shown=>
   if q9n moved shown then
    cK f (ren.renL (place moved) args') (qkj (place moved) (sub h moved)) fun r h'=>
     if h'.all (fun p=>decide (p.1<moved.length+16))then
      let touched:=!shown.isEmpty&&(shows (q55 r) || !h'.isEmpty)
      let old:=qbe h moved
      K (q9V (ren (back moved nx)) r,qkj (back moved nx) h'++(if touched then freeze old shown else old),!moved.isEmpty||touched)
     else none
   else none
  |_,_=>none
def qWN:qba:=fun _ _ _=>none
def zsI(K:Res×Heap×Bool->Option R):List Alt->Option R
 | []=>none
 |(b,r)::l=>br b (K r) (zsI K l)
def qzd(P:Prog)(nx:Nat)(ev:Opd->AV)(h:Heap)(io:IOp)(K:Res×Heap×Bool->Option R):Option R:=
 match alts nx ev h io with
 | []=>match opS P qWN nx ev h io with
  |some r=>K r
  |none=>none
 |l=>zsI K l
def zuQ(ks:Key)(m:List (AV×AV))(k:AV):AV:=match qPa ks m k with
 |some (some v)=>v
 |_=>.junk
def zuN(ks:Key)(m:List (AV×AV))(k:AV):Bool:=isKey ks k&&match qPa ks m k with
 |some (some _)=>true
 |_=>false
def zuO(ks:Key)(m:List (AV×AV))(k:AV):Bool:=isKey ks k&&match qPa ks m k with
 |some none=>true
 |_=>false
def qfP(es:List AV)(i j:Nat):AV:=(qai (es[i]?.getD .junk))[j]?.getD .junk
def okP(ks:List CS)(es:List AV)(i off:Nat):Bool:=match es[i]? with
 |some e=>qqc ks (((qai e).drop off).take ks.length)
 |none=>false
def qW1(es:List AV)(i:Nat):Nat->List CS->(List AV->Option R)->Option R
 |_,[],K=>K []
 |j,c::cs,K=>q5F c (qfP es i j) fun x=>qW1 es i (j+1) cs fun r=>K (x::r)
theorem qLX{es:List AV}{i:Nat}{e:AV}(he:es[i]? = some e):∀(ks:List CS) (j:Nat) {K:List AV->Option R},qqc ks (((qai e).drop j).take ks.length)=true->qW1 es i j ks K=K (((qai e).drop j).take ks.length)
 | [],j,K,h=>by simp[qW1]
 |c::cs,j,K,h=>by
  cases hd:(qai e).drop j with
  |nil=>rw[hd]at h;simp[qqc]at h
  |cons x xs=>
   rw[hd]at h;simp only[jA0,jCo,qqc,jA1]at h;have hx:qfP es i j=x:=by
    have h0:=congrArg (·[0]?) hd;simp only[jBs,Nat.add_zero,List.getElem?_cons_zero]at h0;simp[qfP,he,h0]
   have hxs:(qai e).drop (j+1)=xs:=by
    have h0:=congrArg (List.drop 1) hd;simpa using h0
   simp only[qW1,hx,qLW h.1,jA0,jCo];have:=qLX he cs (j+1) (K:=fun r=>K (x::r)) (by rw[hxs];exact h.2);rw[this,hxs]
theorem qLU:∀{ks:List CS} {xs:List AV},qqc ks xs=true->xs.length=ks.length
 | [],[],_=>rfl
 | [],_::_,h=>by simp[qqc]at h
 |_::_,[],h=>by simp[qqc]at h
 |k::ks,x::xs,h=>by
  simp only[qqc,jA1]at h;simp[qLU h.2]
def zmc(es:List AV)(i off:Nat)(vs:List AV):List AV:=match es[i]? with
 |some e=>es.set i (elemOf e (splice (qai e) off vs))
 |none=>es
def okS(es:List AV)(i off n:Nat):Bool:=match es[i]? with
 |some e=>decide (off+n<=(qai e).length)
 |none=>false
def q1M(h:Heap)(v:AV)(K:AV->Heap->Option R):Option R:=match idsA v with
 | []=>K (nz v) h
 |ids=>match qcf qhH h ids []with
  |some r=>br (qqe h qhH v) (K (qvz h qhH v) (freeze h r)) none
  |none=>none
theorem qEB{h:Heap}{v:AV}{K:AV->Heap->Option R}{ρ:R}(hs:q1M h v K=some ρ):∃v' h',still h v=some (v',h')/\K v' h'=some ρ:=by
 simp only[q1M]at hs;split at hs
 ·rename_i hi;exact⟨_,_,by simp only[still,hi],hs⟩
 ·rename_i ids hi;split at hs
  ·rename_i r hr;obtain⟨hb,hs⟩:=qiG hs;refine⟨_,_,?_,hs⟩;cases hq:idsA v with
   |nil=>exact absurd hq hi
   |cons i is=>
    rw[hq]at hr;simp only[still,hq,qvA _ _ hb,hr]
  ·cases hs
def zlq(F:Nat->Option R)(j:Int):Nat->Nat->Option R
 |0,_=>none
 |r+1,k=>br (decide (j=Int.ofNat k)) (F k) (zlq F j r (k+1))
def zux(sz:Nat)(v:AV)(h:Heap)(K:Res×Heap×Bool->Option R)(k:Nat):Option R:=match v with
 | .ptr cs=>if k*sz<=cs.length then K (.ret (.ptr (cs.drop (k*sz))),h,false)else none
 | .ref id idx o=>K (.ret (.ref id idx (o+k*sz)),h,false)
 |_=>none
def opK(P:Prog)(cK:qjF R)(nx:Nat)(ev:Opd->AV)(h:Heap)(io:IOp)(K:Res×Heap×Bool->Option R):Option R:=
 match io with
 | .iaddr sz ks x i=>match ks,ev x,ev i with
  |_::_,.view sz' es,.int _ j=>if sz'=sz then br (qaH ks es j) (qLV es j 0 ks fun cs=>K (.ret (.ptr cs),h,false)) none else none
  |_,_,_=>qzd P nx ev h (.iaddr sz ks x i) K
 | .load agg n ks x=>match ev x with
  | .ref id idx off=>match qal h id with
   |some (.arr _ es _)=>if ks.length=n/\0<n/\(agg=true\/n=1)then
     br (okP ks es idx off) (qW1 es idx off ks fun cs=>K (.ret (if agg then .agg cs else cs.headD .junk),h,false)) none
    else none
   |_=>qzd P nx ev h (.load agg n ks x) K
  |_=>qzd P nx ev h (.load agg n ks x) K
 | .store n x v=>match ev x with
  | .ref id idx off=>match qal h id with
   |some (.arr _ es false)=>q1M h (ev v) fun v h=>match qal h id with
    |some (.arr sz _ false)=>if (qai v).length=n/\qa3 (qai v)=true then
      br (okS es idx off n) (K (.ret q2i,qjB h id (.arr sz (zmc es idx off (qai v)) false),true)) none
     else none
    |_=>none
   |_=>qzd P nx ev h (.store n x v) K
  |_=>qzd P nx ev h (.store n x v) K
 | .pick c a b=>match ev c with
  | .bool t=>br t (K (.ret (ev a),h,false)) (K (.ret (ev b),h,false))
  |_=>none
 | .aaddr n sz x i=>match ev i with
  | .int _ j=>if n<=16 then zlq (zux sz (ev x) h K) j n 0 else qzd P nx ev h (.aaddr n sz x i) K
  |_=>none
 | .call f args=>qIV P cK h nx f (args.map ev) K
 | .callv fv args=>match ev fv with
  | .fn (.func f) cap=>qIV P cK h nx f (args.map ev++cap) K
  |_=>none
 |io=>qzd P nx ev h io K
def zhe(e:Env)(g:Option (Nat×Bool))(K:Env->Bool->Option R):Option R:=match g with
 |none=>K e true
 |some (t,want)=>match qb1 e t with
  | .bool b=>br b (K (zji e t (.bool true)) want) (K (zji e t (.bool false)) (!want))
  | .tup []=>K e false
  |_=>none
def q6j(P:Prog)(cK:qjF R)(nx:Nat)(o:IOper)(e:Env)(h:Heap)(K:Env->Step->Option R):Option R:=
 zhe e o.guard fun e b=>match b with
  |false=>K e .skip
  |true=>match qcf qhH h (zjd e o.op) []with
   |none=>none
   |some r=>opK P cK nx (qbr e) (sub h r) o.op fun x=>match x with
    |(.ret v,out,w)=>K e (.did r w v out)
    |(.pan v,out,_)=>K e (.pan r v out)
def sm{α:Type}(o:Option α):Bool:=match o with
 |some _=>true
 |none=>false
def gv{α:Type}[Inhabited α](o:Option α):α:=match o with
 |some x=>x
 |none=>default
@[simp] theorem sm_some {α:Type} (x:α):sm (some x)=true:=rfl
@[simp] theorem sm_none {α:Type}:sm (none:Option α)=false:=rfl
@[simp] theorem gv_some {α:Type} [Inhabited α] (x:α):gv (some x)=x:=rfl
theorem q6h{α:Type}[Inhabited α]{o:Option α}(h:sm o=true):o=some (gv o):=by cases o<;>first|rfl|cases h
def frcA:AV->(AV->Option R)->Option R
 | .int k n,K=>K (.int k n)
 | .bool b,K=>K (.bool b)
 | .str s,K=>K (.str s)
 | .nilp,K=>K .nilp
 | .nilm,K=>K .nilm
 | .nilf,K=>K .nilf
 | .nili,K=>K .nili
 | .nils ⟨n,.nil⟩,K=>K (.nils ⟨n,.nil⟩)
 | .nils ⟨n,.any⟩,K=>K (.nils ⟨n,.any⟩)
 | .nils ⟨n,.non⟩,K=>K (.nils ⟨n,.non⟩)
 | .agg cs,K=>frcL cs fun cs=>K (.agg cs)
 | .tup cs,K=>frcL cs fun cs=>K (.tup cs)
 | .view n es,K=>K (.view n es)
 | .ptr cs,K=>frcL cs fun cs=>K (.ptr cs)
 | .own a b c,K=>K (.own a b c)
 | .ref a b c,K=>K (.ref a b c)
 | .mref a,K=>K (.mref a)
 | .fn f cs,K=>frcL cs fun cs=>K (.fn f cs)
 | .iface t v,K=>frcA v fun v=>K (.iface t v)
 | .junk,K=>K .junk
where frcL:List AV->(List AV->Option R)->Option R
 | [],K=>K []
 |v::vs,K=>frcA v fun v=>frcL vs fun vs=>K (v::vs)
mutual
theorem qtS:∀(v:AV) (K:AV->Option R),frcA v K=K v
 | .nils ⟨_,k⟩,K=>by cases k<;>simp only[frcA]
 | .int ..,K | .bool ..,K | .str ..,K | .nilp,K | .nilm,K | .nilf,K | .nili,K | .view ..,K | .own ..,K | .ref ..,K | .mref _,K | .junk,K=>by simp only[frcA]
 | .agg cs,K=>by simp only[frcA];exact qov cs _
 | .tup cs,K=>by simp only[frcA];exact qov cs _
 | .ptr cs,K=>by simp only[frcA];exact qov cs _
 | .fn f cs,K=>by simp only[frcA];exact qov cs _
 | .iface t v,K=>by simp only[frcA];exact qtS v _
theorem qov:∀(vs:List AV) (K:List AV->Option R),frcA.frcL vs K=K vs
 | [],K=>by simp only[frcA.frcL]
 |v::vs,K=>by simp only[frcA.frcL];rw[qtS v];exact qov vs _
end
def zpW:Blk->(Blk->Option R)->Option R
 | .box cs true,K=>frcA.frcL cs fun cs=>K (.box cs true)
 | .box cs false,K=>frcA.frcL cs fun cs=>K (.box cs false)
 | .arr sz es true,K=>K (.arr sz es true)
 | .arr sz es false,K=>K (.arr sz es false)
 | .mp kvs,K=>K (.mp kvs)
theorem ze1(b:Blk)(K:Blk->Option R):zpW b K=K b:=by
 cases b with
 |box cs fz=>cases fz<;>simp only[zpW]<;>exact qov _ _
 |arr sz es fz=>cases fz<;>rfl
 |mp kvs=>rfl
def zk5(n:Nat)(K:Nat->Option R):Option R:=match n with
 |0=>K 0
 |n+1=>K (n+1)
theorem qtU(n:Nat)(K:Nat->Option R):zk5 n K=K n:=by cases n<;>rfl
def znO:Heap->(Heap->Option R)->Option R
 | [],K=>K []
 |(i,b)::h,K=>zk5 i fun i=>zpW b fun b=>znO h fun h=>K ((i,b)::h)
theorem qVg:∀(h:Heap) (K:Heap->Option R),znO h K=K h
 | [],K=>rfl
 |(i,b)::h,K=>by simp only[znO];rw[qtU,ze1];exact qVg h _
def zi7:Env->(Env->Option R)->Option R
 | [],K=>K []
 |(i,v)::h,K=>zi7 h fun h=>K ((i,v)::h)
theorem qtT:∀(h:Env) (K:Env->Option R),zi7 h K=K h
 | [],K=>rfl
 |(i,v)::h,K=>by simp only[zi7];exact qtT h _
def qAr(P:Prog)(cK:qjF R):List IOper->Env->Heap->Nat->(Env->Option R)->Option R
 | [],e,_,_,K=>K e
 |o::ops,e,h,nx,K=>q6j P cK nx o e h fun e s=>match s with
  | .skip=>qAr P cK ops (qlE o (qbC e o.dst .skip)) h (nx+16) K
  | .did r w v out=>match w,out.all (fun p=>r.contains p.1)with
   |false,true=>frcA v fun v=>zk5 (nx+16) fun nx=>zi7 (qlE o (qH7 e o.dst v)) fun e=>qAr P cK ops e h nx K
   |_,_=>none
  | .pan _ _ _=>none
def qxh(t:Nat):List IOper->Option (List IOper×IOper×List IOper)
 | []=>none
 |o::os=>match o.op with
  | .pick (.t c) _ _=>match Nat.beq c t with
   |true=>some ([],o,os)
   |false=>match qxh t os with
    |some (g,p,r)=>some (o::g,p,r)
    |none=>none
  |_=>match qxh t os with
   |some (g,p,r)=>some (o::g,p,r)
   |none=>none
def zpF:IOp->Bool
 | .bslice .. | .app .. | .store .. | .mupd .. | .mdel .. | .clr .. | .alloc .. | .box .. | .mkm | .mks .. | .pan ..=>false
 |_=>true
def within(c d:Nat)(o:IOper):Bool:=(match o.dst with
 |some j=>Nat.blt c j&&Nat.blt j d
 |none=>false)&&zpF o.op&&match o.op with
 | .pick (.t k) _ _=>Nat.ble c k
 |_=>true
def zpE(P:Prog)(o:IOper):Bool:=match o.op with
 | .call f _=>!P.imp f
 |_=>true
def zld(P:Prog)(o:IOper)(ops:List IOper):Option (Nat×Nat×List IOper×IOper×List IOper):=match o.guard with
 |none=>none
 |some (t,_)=>match qxh t ops with
  |none=>none
  |some (g,p,r)=>match p.guard,p.dst with
   |none,some d=>match (o::g).all (within t d)&&(o::g).all (zpE P)with
    |true=>some (t,d,o::g,p,r)
    |false=>none
   |_,_=>none
def q4E(d:Nat)(e:Env):Option Bool:=match qb1 e d with
 | .bool b=>some b
 |_=>none
def zf1(P:Prog)(cK:(R:Type)->qjF R):Nat->List IOper->Env->Heap->Nat->(X->Env->Heap->Option R)->Option R
 |0,_,_,_,_,_=>none
 |_+1,[],e,h,_,K=>K .normal e h
 |n+1,o::ops,e,h,nx,K=>match zld P o ops with
  |some (t,d,g,p,rest)=>
   let v:=qAr P (cK Bool) g e h nx fun e1=>qAr P (cK Bool) [p] e1 h (nx+16*g.length) (q4E d)
   br (sm v) (zk5 (nx+16*(g.length+1)) fun nx=>zi7 (qee t d e) fun e=>zf1 P cK n rest ((d,.bool (gv v))::e) h nx K) none
  |none=>q6j P (cK R) nx o e h fun e s=>match s with
   | .pan r v out=>K (.pan v) e (qa6 h (.pan r v out))
   | .skip=>zf1 P cK n ops (qlE o (qbC e o.dst .skip)) h (nx+16) K
   | .did r w v out=>frcA v fun v=>znO (qa6 h (.did r w v out)) fun h=>zk5 (nx+16) fun nx=>zi7 (qlE o (qH7 e o.dst v)) fun e=>zf1 P cK n ops e h nx K
def zjG(P:Prog)(cK:qjF R)(base:Nat):Nat->List IOper->Env->Heap->List Step->(Option AV->Env->Heap->List Step->Option R)->Option R
 |_,[],e,h,log,K=>K none e h log
 |i,o::ops,e,h,log,K=>q6j P cK (base+16*i) o e h fun e s=>match zfF s with
  |some v=>K (some v) e (qa6 h s) log
  |none=>if tidy (base+16*i) (qdN e o) h s then match lost h (qdN e o) s with
    | []=>zjG P cK base (i+1) ops (qbC e o.dst s) (qa6 h s) (log++[s]) K
    |q::g=>zjG P cK base (i+1) ops (qbC e o.dst s) (qa6 h s) (log++[mark (q::g) s]) K
   else none
def qjA(P:Prog)(cK:(R:Type)->qjF R)(lK:qFl R):ICode->St->(X->St->Option R)->Option R
 | .skip,s,K=>K .normal s
 | .region ops d,s,K=>match d with
  |none=>zf1 P cK (ops.length+1) ops s.tm s.hp s.nx fun x e h=>K x ⟨e,h,s.nx+16*ops.length,s.k⟩
  |some befs=>zjG P (cK R) s.nx 0 ops s.tm s.hp [] fun pv e h log=>match pv with
   |none=>if calm s.nx befs ops e log then K .normal ⟨e,h,s.nx+16*ops.length,s.k⟩else none
   |some v=>if calm s.nx befs ops e log&&zn2 befs ops log.length then K (.pan v) ⟨[],h,s.nx+16*ops.length,s.k⟩else none
 | .seq a b,s,K=>qjA P cK lK a s fun x s=>match x with
  | .normal=>qjA P cK lK b s K
  |x=>K x s
 | .cond c a b,s,K=>match qbr s.tm c with
  | .bool t=>br t (qjA P cK lK a s K) (qjA P cK lK b s K)
  |_=>none
 | .block id c,s,K=>qjA P cK lK c s fun x s=>match x with
  | .exit j=>if j=id then K .normal s else K (.exit j) s
  |x=>K x s
 | .loop k c,s,K=>lK k c s K
 | .exit id,s,K=>K (.exit id) s
 | .ret,s,K=>K .ret s
def qsr(call:qba)(cK:qjF R):Prop:=∀f a h K ρ,cK f a h K=some ρ-> ∃r h',call f a h=some (r,h')/\K r h'=some ρ
def qyS(loop:qhh)(lK:qFl R):ICode->Prop
 | .seq a b=>qyS loop lK a/\qyS loop lK b
 | .cond _ a b=>qyS loop lK a/\qyS loop lK b
 | .block _ a=>qyS loop lK a
 | .loop k c=>∀s K ρ,lK k c s K=some ρ-> ∃x s',loop k c s=some (x,s')/\K x s'=some ρ
 |_=>True
def loops:ICode->List (List Nat×ICode)
 | .seq a b=>loops a++loops b
 | .cond _ a b=>loops a++loops b
 | .block _ a=>loops a
 | .loop k c=>(k,c)::loops c
 |_=>[]
def qad(F:Fun)(i:Nat):List Nat×ICode:=(loops F.body).getD i ([],.skip)
variable {P:Prog} {call:qba} {cK:qjF R} {loop:qhh} {lK:qFl R}
theorem qpN(hc:qsr call cK){h:Heap}{nx f:Nat}{args:List AV}{K:Res×Heap×Bool->Option R}{ρ:R}(hs:qIV P cK h nx f args K=some ρ):∃r,qlA P call h nx f args=some r/\K r=some ρ:=by
 simp only[qIV]at hs;obtain⟨args',roots,hp,hs⟩:=qhb hs;split at hs
 ·rename_i moved shwn h1 h2;split at hs
  ·rename_i hd;obtain⟨r,h',hcl,hK⟩:=hc _ _ _ _ _ hs;split at hK
   ·rename_i hall;refine⟨_,?_,hK⟩;simp only[qlA,hp,h1,h2,hd,jB2,hcl,hall]
   ·cases hK
  ·cases hs
 ·cases hs
theorem qWO(call:qba):LeC qWN call:=fun f a h r hr=>by simp[qWN]at hr
theorem qyB{K:Res×Heap×Bool->Option R}{ρ:R}:∀{l:List Alt},zsI K l=some ρ-> ∃r,(true,r)∈l/\K r=some ρ
 | [],h=>by cases h
 |(b,r)::l,h=>by
  cases b with
  |true=>exact⟨r,by simp,h⟩
  |false=>
   obtain⟨r',h1,h2⟩:=qyB (l:=l) h;exact⟨r',by simp[h1],h2⟩
theorem qdg{nx:Nat}{ev:Opd->AV}{h:Heap}{io:IOp}{K:Res×Heap×Bool->Option R}{ρ:R}(hs:qzd P nx ev h io K=some ρ):∃r,opS P call nx ev h io=some r/\K r=some ρ:=by
 simp only[qzd]at hs;split at hs
 ·split at hs
  ·rename_i r hr;exact⟨r,qAi (qWO call) hr,hs⟩
  ·cases hs
 ·obtain⟨r,h1,h2⟩:=qyB hs;exact⟨r,zcf h1,h2⟩
theorem qVh{h:Heap}{r:List Nat}{id sz sz2:Nat}{es es2:List AV}{f1 f2:Bool}(hl:qal h id=some (.arr sz es f1))(h2:qal (freeze h r) id=some (.arr sz2 es2 f2)):sz=sz2:=by
 have:Globs:=⟨fun _=>none⟩;rw[qcI]at h2;split at h2
 ·rw[hl]at h2;simp[qmr]at h2;exact h2.1
 ·rw[hl]at h2;simp at h2;exact h2.1
theorem q6k{h h':Heap}{v v':AV}{id sz sz2:Nat}{es es2:List AV}{f1 f2:Bool}(hl:qal h id=some (.arr sz es f1))(hst:still h v=some (v',h'))(h2:qal h' id=some (.arr sz2 es2 f2)):sz=sz2:=by
 simp only[still]at hst;split at hst
 ·simp at hst;obtain⟨_,rfl⟩:=hst;rw[hl]at h2;simp at h2;exact h2.1
 ·split at hst
  ·simp at hst;obtain⟨_,rfl⟩:=hst;exact qVh hl h2
  ·cases hst
theorem qxY{F:Nat->Option R}{j:Int}{ρ:R}:∀{r k:Nat},zlq F j r k=some ρ-> ∃q,j=Int.ofNat q/\q<k+r/\F q=some ρ
 |0,k,hs=>by simp[zlq]at hs
 |r+1,k,hs=>by
  simp only[zlq]at hs;by_cases hj:j=Int.ofNat k
  ·have hd:decide (j=Int.ofNat k)=true:=by simpa using hj
   rw[hd]at hs;exact⟨k,hj,by omega,hs⟩
  ·have hd:decide (j=Int.ofNat k)=false:=by simpa using hj
   rw[hd]at hs;obtain⟨q,h1,h2,h3⟩:=qxY (k:=k+1) hs;exact⟨q,h1,by omega,h3⟩
theorem qWZ(hc:qsr call cK){nx:Nat}{ev:Opd->AV}{h:Heap}{io:IOp}{K:Res×Heap×Bool->Option R}{ρ:R}(hs:opK P cK nx ev h io K=some ρ):∃r,opS P call nx ev h io=some r/\K r=some ρ:=by
 cases io<;>simp only[opK]at hs
 case aaddr n sz x i=>
  split at hs
  ·rename_i k j h2;split at hs
   ·obtain⟨q,rfl,hq,hs⟩:=qxY hs;have e1:(0:Int)<=Int.ofNat q:=Int.natCast_nonneg q;have e2:Int.ofNat q<(n:Int):=by show(q:Int)<(n:Int);omega
    have e3:(Int.ofNat q).toNat=q:=rfl;unfold zux at hs;split at hs
    ·rename_i cs h1;split at hs
     ·rename_i hle;refine⟨_,?_,hs⟩;simp only[opS,h1,h2,e3];rw[jAr ⟨e1,e2⟩,jAr hle];rfl
     ·cases hs
    ·rename_i id idx o h1;refine⟨_,?_,hs⟩;simp only[opS,h1,h2,e3];rw[jAr ⟨e1,e2⟩];rfl
    ·cases hs
   ·exact qdg hs
  ·cases hs
 case iaddr sz ks x i=>
  split at hs
  ·rename_i c ks' sz' es k j h1 h2;split at hs
   ·rename_i hsz;obtain⟨hok,hs⟩:=qiG hs;simp only[qaH]at hok;split at hok
    ·rename_i e he;have:=qDQ he _ 0 (K:=fun cs=>K (.ret (.ptr cs),h,false)) (by simpa using hok);rw[this]at hs;refine⟨_,?_,hs⟩;simp[opS,h1,h2,he,hsz,val]
    ·cases hok
   ·cases hs
  ·exact qdg hs
 case load agg n ks x=>
  split at hs
  ·rename_i id idx off hx;split at hs
   ·rename_i sz es fz hl;split at hs
    ·rename_i hcd;obtain⟨hk,hn,ha⟩:=hcd;obtain⟨hok,hs⟩:=qiG hs;simp only[okP]at hok;split at hok
     ·rename_i e he;rw[qLX he ks off hok]at hs;have hlen:=qLU hok;have hle:ks.length<=((qai e).drop off).length:=by
       rw[List.length_take]at hlen;omega
      refine⟨_,?_,hs⟩;have hoff:off<=(qai e).length:=by rw[jB0]at hle;omega
      simp only[opS,hx,qsL,hl,he,jAr hoff,qID,part];cases agg with
      |true=>
       simp only[jB2];rw[jAr (by omega),hk]
      |false=>
       have h1:n=1:=by simpa using ha
       subst h1;simp only[jAn,jBg,hk];cases hd:(qai e).drop off with
       |nil=>rw[hd]at hle;simp only[jA4]at hle;omega
       |cons y ys=>simp
     ·cases hok
    ·cases hs
   ·exact qdg hs
  ·exact qdg hs
 case store n x v=>
  split at hs
  ·rename_i id idx off hx;split at hs
   ·rename_i sz es hl;obtain⟨v',h',hst,hs⟩:=qEB hs;split at hs
    ·rename_i sz2 es2 hl2;split at hs
     ·rename_i hcd;obtain⟨hok,hs⟩:=qiG hs;simp only[okS]at hok;split at hok
      ·rename_i e he;refine⟨_,?_,hs⟩;have hsz:sz=sz2:=q6k hl hst hl2;simp only[opS,hx,q1N,hl,hst,hl2,he];rw[jAr ⟨hcd.1,jBd hok,hcd.2⟩];simp only[zmc,he,hsz]
      ·cases hok
     ·cases hs
    ·cases hs
   ·exact qdg hs
  ·exact qdg hs
 case pick c a b=>
  split at hs
  ·rename_i t ht;cases t
   ·exact⟨_,by simp[opS,ht,val],hs⟩
   ·exact⟨_,by simp[opS,ht,val],hs⟩
  ·cases hs
 case call f args=>exact qpN hc hs
 case callv fv args=>
  split at hs
  ·rename_i f cap hf;obtain⟨r,h1,h2⟩:=qpN hc hs;exact⟨r,by simp only[opS,hf];exact h1,h2⟩
  ·cases hs
 all_goals exact qdg hs
theorem qIF{e:Env}{g:Option (Nat×Bool)}{K:Env->Bool->Option R}{ρ:R}(hs:zhe e g K=some ρ):∃b,qmH e g=some b/\K e b=some ρ:=by
 cases g with
 |none=>exact⟨true,rfl,hs⟩
 |some tw=>
  obtain⟨t,want⟩:=tw;simp only[zhe]at hs;split at hs
  ·rename_i b hb;have hset:zji e t (.bool b)=e:=qEN hb (by simp);cases b with
   |true=>
    simp only[br]at hs;rw[hset]at hs;exact⟨want,by simp[qmH,hb],hs⟩
   |false=>
    simp only[br]at hs;rw[hset]at hs;exact⟨!want,by cases want<;>simp[qmH,hb],hs⟩
  ·rename_i hb;exact⟨false,by simp[qmH,hb],hs⟩
  ·cases hs
theorem qjg(hc:qsr call cK){nx:Nat}{o:IOper}{e:Env}{h:Heap}{K:Env->Step->Option R}{ρ:R}(hs:q6j P cK nx o e h K=some ρ):∃s,qc8 P call nx o e h=some s/\K e s=some ρ:=by
 obtain⟨b,hw,hs⟩:=qIF hs;cases b with
 |false=>exact⟨.skip,by simp[qc8,hw],hs⟩
 |true=>
  simp only at hs;split at hs
  ·cases hs
  ·rename_i r hr;obtain⟨⟨x,out,w⟩,h1,h2⟩:=qWZ hc hs;cases x with
   |ret v=>exact⟨.did r w v out,by simp only[qc8,hw,hr,h1],h2⟩
   |pan v=>exact⟨.pan r v out,by simp only[qc8,hw,hr,h1],h2⟩
theorem qC9{c d t:Nat}{v:AV}{e:Env}(h:(Nat.blt c t&&Nat.blt t d)=true):qee c d (qH7 e (some t) v)=qee c d e:=by
 simp only[qH7,qee,h]
theorem qkM{c d c' d':Nat}(hc:c<=c')(hd:d'<=d):∀e:Env,qee c d (qee c' d' e)=qee c d e
 | []=>rfl
 |(j,v)::e=>by
  by_cases h:(Nat.blt c' j&&Nat.blt j d')=true
  ·have h2:(Nat.blt c j&&Nat.blt j d)=true:=by
    simp only[jA1,Nat.blt_eq]at h ⊢;omega
   simp only[qee,h,h2];exact qkM hc hd e
  ·have h1:(Nat.blt c' j&&Nat.blt j d')=false:=by cases hq:(Nat.blt c' j&&Nat.blt j d')<;>first|rfl|exact absurd hq h
   simp only[qee,h1];by_cases h2:(Nat.blt c j&&Nat.blt j d)=true
   ·simp only[h2];exact qkM hc hd e
   ·have h3:(Nat.blt c j&&Nat.blt j d)=false:=by cases hq:(Nat.blt c j&&Nat.blt j d)<;>first|rfl|exact absurd hq h2
    simp only[h3,qkM hc hd e]
theorem qwp{c d:Nat}{o:IOper}(h:within c d o=true)(e:Env)(s:Step)(hs:∀r v out,s≠ .pan r v out):qee c d (qlE o (qbC e o.dst s))=qee c d e:=by
 obtain⟨dst,op,g⟩:=o;simp only[within,jA1]at h;obtain⟨⟨h1,_⟩,h2⟩:=h;cases dst with
 |none=>cases h1
 |some j=>
  simp only at h1;have qjB:qee c d (qbC e (some j) s)=qee c d e:=by
   cases s with
   |skip=>exact qC9 h1
   |did r w v out=>exact qC9 h1
   |pan r v out=>exact absurd rfl (hs r v out)
  by_cases hp:∃k a b,op= .pick (.t k) a b
  ·obtain⟨k,a,b,rfl⟩:=hp;simp only at h2;simp only[qlE];rw[qkM (Nat.le_of_ble_eq_true h2) (by
    have:=(jA1 _ _▸h1).2;simp only[Nat.blt_eq]at this;omega),qjB]
  ·have:∀e2,qlE ⟨some j,op,g⟩ e2=e2:=by
    intro e2;simp only[qlE];split
    ·exact absurd ⟨_,_,_,rfl⟩ hp
    ·rfl
   rw[this];exact qjB
theorem qz9{r:List Nat}:∀{out:Heap},out.all (fun p=>r.contains p.1)=true->news r out= []
 | [],_=>rfl
 |(i,b)::h,hs=>by
  simp only[jAw,jA1]at hs;simp only[news,hs.1,jB2,qz9 hs.2]
theorem qwQ{e:Env}{dst:Option Nat}{r:List Nat}{w:Bool}{v:AV}{out:Heap}:qbC e dst (.did r w v out)=qH7 e dst v:=rfl
theorem qmx(hc:qsr call cK){c d:Nat}:∀{ops:List IOper} {e:Env} {h:Heap} {nx:Nat} {K:Env->Option R} {ρ:R},qAr P cK ops e h nx K=some ρ-> ∀log,∃e' log',K e'=some ρ /\
  (ops.all (within c d)=true->qee c d e'=qee c d e)/\ ∀more (out:Option (X×Env×Heap×List Step)),qcT P call more e' h (nx+16*ops.length) log'=out->qcT P call (ops++more) e h nx log=out
 | [],e,h,nx,K,ρ,hs,log=>⟨e,log,hs,fun _=>rfl,fun more out ho=>by simpa using ho⟩
 |o::ops,e,h,nx,K,ρ,hs,log=>by
  simp only[qAr]at hs;obtain⟨s,h1,h2⟩:=qjg hc hs;cases s with
  |pan r v out=>cases h2
  |skip=>
   obtain⟨e',log',h3,h4,h5⟩:=qmx (c:=c) (d:=d) hc h2 (log++[.skip]);refine⟨e',log',h3,fun ha=>?_,fun more out ho=>?_⟩
   ·simp only[jAw,jA1]at ha;rw[h4 ha.2,qwp ha.1 _ _ (fun _ _ _ h=>by cases h)]
   ·simp only[jAk,qcT,h1];refine h5 more out ?_;rw[<-ho];congr 1;simp;omega
  |did r w v out0=>
   simp only at h2;split at h2
   ·rename_i hall;rw[qtS,qtU,qtT]at h2;obtain⟨e',log',h3,h4,h5⟩:=qmx (c:=c) (d:=d) hc h2 (log++[.did r false v out0]);refine⟨e',log',h3,fun ha=>?_,fun more out ho=>?_⟩
    ·simp only[jAw,jA1]at ha;rw[h4 ha.2,<-qwQ (r:=r) (w:=false) (out:=out0),qwp ha.1 _ _ (fun _ _ _ h=>by cases h)]
    ·simp only[jAk,qcT,h1];have hh:qa6 h (.did r false v out0)=h:=by simp[qa6,qz9 hall]
     rw[hh];refine h5 more out ?_;rw[<-ho];congr 1;simp;omega
   ·cases h2
theorem qtY{t:Nat}:∀{os g r:List IOper} {p:IOper},qxh t os=some (g,p,r)->os=g++p::r/\ ∃a b,p.op= .pick (.t t) a b
 | [],g,r,p,h=>by simp[qxh]at h
 |o::os,g,r,p,h=>by
  simp only[qxh]at h;split at h
  ·rename_i c a b ho;split at h
   ·rename_i hb;cases h;have:c=t:=Nat.eq_of_beq_eq_true hb;subst this;exact⟨rfl,a,b,ho⟩
   ·split at h
    ·rename_i q;cases h;obtain⟨h1,h2⟩:=qtY q;exact⟨by rw[h1];rfl,h2⟩
    ·cases h
  ·split at h
   ·rename_i q;cases h;obtain⟨h1,h2⟩:=qtY q;exact⟨by rw[h1];rfl,h2⟩
   ·cases h
theorem qlb{cK:(R:Type)->qjF R}(hc:∀R,qsr call (cK R)):∀{n:Nat} {ops:List IOper} {e:Env} {h:Heap} {nx:Nat} {K:X->Env->Heap->Option R} {ρ:R},zf1 P cK n ops e h nx K=some ρ-> ∀log,∃x e' h' log',qcT P call ops e h nx log=some (x,e',h',log')/\K x e' h'=some ρ
 |0,ops,e,h,nx,K,ρ,hs,log=>by simp[zf1]at hs
 |n+1,[],e,h,nx,K,ρ,hs,log=>⟨_,_,_,_,rfl,hs⟩
 |n+1,o::ops,e,h,nx,K,ρ,hs,log=>by
  simp only[zf1]at hs;split at hs
  ·rename_i t d g p rest hg;obtain⟨hb,hs⟩:=qiG hs;rw[qtU,qtT]at hs;simp only[zld]at hg;split at hg
   ·cases hg
   ·split at hg
    ·cases hg
    ·rename_i g0 p0 r0 he;split at hg
     ·rename_i hpg hpd;split at hg
      ·rename_i hall;rw[jA1]at hall
       replace hall:=hall.1
       cases hg;obtain⟨hops,a,b,hpo⟩:=qtY he;have hv:=q6h hb;generalize gv (qAr P (cK Bool) (o::g0) e h nx fun e1=>qAr P (cK Bool) [p] e1 h (nx+16*(o::g0).length) (q4E d))=bv at hv hs;obtain⟨e1,log1,h3,h4,h5⟩:=qmx (c:=t) (d:=d) (hc Bool) hv log;have hkill:=h4 hall;simp only[qAr]at h3;obtain⟨s,k1,k2⟩:=qjg (hc Bool) h3;have htrim:∀e2,qlE p e2=qee t d e2:=fun e2=>by unfold qlE;rw[hpo,hpd]
       have hself:∀(v:AV) (e2:Env),qee t d ((d,v)::e2)=(d,v)::qee t d e2:=fun v e2=>by
        have hb:(Nat.blt t d&&Nat.blt d d)=false:=by
         have:Nat.blt d d=false:=by
          cases hq:Nat.blt d d with
          |false=>rfl
          |true=>exact absurd (Nat.blt_eq▸hq) (Nat.lt_irrefl d)
         rw[this,Bool.and_false]
        simp only[qee,hb]
       cases s with
       |pan r v out=>cases k2
       |skip=>
        exfalso;rw[htrim,hpd,show qbC e1 (some d) Step.skip=(d,q2i)::e1 from rfl,hself]at k2;simp[q4E,qb1,q2i]at k2
       |did r w v out=>
        simp only at k2;split at k2
        ·rename_i hall2;rw[qtS,qtU,qtT,htrim,hpd,show qH7 e1 (some d) v=(d,v)::e1 from rfl,hself]at k2;simp only[q4E,qb1,jB2]at k2;split at k2
         ·rename_i b0;cases k2;have hh:qa6 h (.did r false (.bool bv) out)=h:=by simp[qa6,qz9 hall2]
          obtain⟨x,e',h',log',q1,q2⟩:=qlb hc hs (log1++[.did r false (.bool bv) out]);refine⟨x,e',h',log',?_,q2⟩;have hsplit:o::ops=(o::g0)++p::rest:=by rw[hops];rfl
          rw[hsplit];refine h5 (p::rest) _ ?_;simp only[qcT,k1,hh];rw[htrim,qwQ,hpd,show qH7 e1 (some d) (AV.bool bv)=(d,.bool bv)::e1 from rfl,hself,hkill];rw[<-q1];congr 1
         ·cases k2
        ·cases k2
      ·cases hg
     ·cases hg
  ·obtain⟨s,h1,h2⟩:=qjg (hc R) hs;simp only[qcT,h1];cases s with
   |pan r v out=>exact⟨_,_,_,_,rfl,h2⟩
   |skip=>exact qlb hc h2 _
   |did r w v out=>
    simp only at h2;rw[qtS,qVg,qtU,qtT]at h2;exact qlb hc h2 _
theorem qn3(hc:qsr call cK){base:Nat}:∀{ops:List IOper} {i:Nat} {e:Env} {h:Heap} {log:List Step} {K:Option AV->Env->Heap->List Step->Option R} {ρ:R},zjG P cK base i ops e h log K=some ρ-> ∃pv e' h' log',qd0 P call base i ops e h log=some (pv,e',h',log')/\K pv e' h' log'=some ρ
 | [],i,e,h,log,K,ρ,hs=>⟨_,_,_,_,rfl,hs⟩
 |o::ops,i,e,h,log,K,ρ,hs=>by
  simp only[zjG]at hs;obtain⟨s,h1,h2⟩:=qjg hc hs;split at h2
  ·rename_i v hp;exact⟨_,_,_,_,by simp only[qd0,h1,hp],h2⟩
  ·rename_i hp;split at h2
   ·rename_i ht;split at h2
    ·rename_i hl;obtain⟨pv,e',h',log',h3,h4⟩:=qn3 hc h2;exact⟨pv,e',h',log',by simp only[qd0,h1,hp,ht,jB2,hl];exact h3,h4⟩
    ·rename_i q g hl;obtain⟨pv,e',h',log',h3,h4⟩:=qn3 hc h2;exact⟨pv,e',h',log',by simp only[qd0,h1,hp,ht,jB2,hl];exact h3,h4⟩
   ·cases h2
theorem qcg{cK:(R:Type)->qjF R}(hc:∀R,qsr call (cK R)):∀{c:ICode},qyS loop lK c-> ∀{s:St} {K:X->St->Option R} {ρ:R},qjA P cK lK c s K=some ρ-> ∃x s',qce P call loop c s=some (x,s')/\K x s'=some ρ:=by
 intro c
 induction c with
 |skip=>intro _ s K ρ h;exact⟨_,_,rfl,h⟩
 |region ops d=>
  intro _ s K ρ h;simp only[qjA]at h;cases d with
  |none=>
   obtain⟨x,e',h',log',h1,h2⟩:=qlb hc h [];exact⟨x,_,by simp only[qce,qbx,h1],h2⟩
  |some befs=>
   obtain⟨pv,e',h',log',h1,h2⟩:=qn3 (hc R) h;cases pv with
   |none=>
    simp only at h2;split at h2
    ·rename_i hcalm;exact⟨_,_,by simp only[qce,qbx,h1,hcalm,jB2],h2⟩
    ·cases h2
   |some v=>
    simp only at h2;split at h2
    ·rename_i hcalm;exact⟨_,_,by simp only[qce,qbx,h1,hcalm,jB2],h2⟩
    ·cases h2
 |seq a b iha ihb=>
  intro hl s K ρ h;simp only[qjA]at h;obtain⟨x,s1,h1,h2⟩:=iha hl.1 h;cases x with
  |normal=>
   obtain⟨x2,s2,h3,h4⟩:=ihb hl.2 h2;exact⟨x2,s2,by simp only[qce,h1];exact h3,h4⟩
  |_=>exact⟨_,_,by simp only[qce,h1],h2⟩
 |cond c a b iha ihb=>
  intro hl s K ρ h;simp only[qjA]at h;split at h
  ·rename_i t ht;cases t with
   |true=>
    obtain⟨x,s1,h1,h2⟩:=iha hl.1 h;exact⟨x,s1,by simp only[qce,ht];exact h1,h2⟩
   |false=>
    obtain⟨x,s1,h1,h2⟩:=ihb hl.2 h;exact⟨x,s1,by simp only[qce,ht];exact h1,h2⟩
  ·cases h
 |block id a ih=>
  intro hl s K ρ h;simp only[qjA]at h;obtain⟨x,s1,h1,h2⟩:=ih hl h;cases x with
  |exit j=>
   simp only at h2;split at h2
   ·rename_i hj;exact⟨_,_,by simp only[qce,h1,hj,jB2],h2⟩
   ·rename_i hj;exact⟨_,_,by simp only[qce,h1,hj,jBg],h2⟩
  |_=>exact⟨_,_,by simp only[qce,h1],h2⟩
 |loop k a ih=>intro hl s K ρ h;exact hl _ _ _ h
 |exit id=>intro _ s K ρ h;exact⟨_,_,rfl,h⟩
 |ret=>intro _ s K ρ h;exact⟨_,_,rfl,h⟩
def qKF(P:Prog)(f k:Nat)(v:AV)(h:Heap)(K:AV->Heap->Option R):Option R:=
 let rest (v:AV) (h:Heap):Option R:=match qcf qhH h (idsA v++brought h k) (List.range k)with
  |none=>none
  |some r=>K (ren (place r) v) (qkj (place r) (sub h r))
 if P.fresh f then rest v h else match idsA v with
  | []=>rest (nz v) h
  |ids=>br (qqe h qhH v) (match qcf qhH h ids []with
   |some r=>rest (qvz h qhH v) (freeze h r)
   |none=>none) none
theorem qj5{f k:Nat}{v:AV}{h:Heap}{K:AV->Heap->Option R}{ρ:R}(hs:qKF P f k v h K=some ρ):∃v' h',qwB P f k v h=some (v',h')/\K v' h'=some ρ:=by
 simp only[qKF]at hs;split at hs
 ·rename_i hf;split at hs
  ·cases hs
  ·rename_i r hr;exact⟨_,_,by simp only[qwB,hf,jB2,hr],hs⟩
 ·rename_i hf;split at hs
  ·rename_i hi;split at hs
   ·cases hs
   ·rename_i r hr;exact⟨_,_,by simp only[qwB,jAm hf,still,hi,hr],hs⟩
  ·rename_i ids hi;obtain⟨hb,hs⟩:=qiG hs;split at hs
   ·rename_i r0 hr0;split at hs
    ·cases hs
    ·rename_i r hr;refine⟨_,_,?_,hs⟩;simp only[qwB,jAm hf,still,qvA _ _ hb,hr0,hr]
   ·cases hs
def qTx(P:Prog)(cK:(R:Type)->qjF R)(lK:qFl R)(f:Nat)(F:Fun)(args:List AV)(h:Heap)(K:Res->Heap->Option R):Option R:=
 qjA P cK lK F.body ⟨params 0 args,wH P f h,h.length,h.length⟩ fun x s=>
  let fin (_:Unit):Option R:=match qkk s F.results with
   |some vs=>qKF P f h.length (one vs) s.hp fun v h=>K (.ret (wV P f v)) h
   |none=>none
  match x with
  | .normal=>fin ()
  | .ret=>fin ()
  | .pan v=>qKF P f h.length v s.hp fun v h=>K (.pan v) h
  | .exit _=>none
theorem qsJ{cK:(R:Type)->qjF R}(hc:∀R,qsr call (cK R)){f:Nat}{F:Fun}(hl:qyS loop lK F.body){args:List AV}{h:Heap}{K:Res->Heap->Option R}{ρ:R}(hs:qTx P cK lK f F args h K=some ρ):∃r h',body P call loop f F args h=some (r,h')/\K r h'=some ρ:=by
 obtain⟨x,s,h1,h2⟩:=qcg hc hl hs;simp only[body,h1];cases x with
 |exit j=>cases h2
 |pan v=>
  simp only at h2 ⊢;obtain⟨v',h',hv,h2⟩:=qj5 h2;exact⟨_,_,by simp only[hv],h2⟩
 |normal=>
  simp only at h2 ⊢;split at h2
  ·rename_i hv;obtain⟨v',h',hw,h2⟩:=qj5 h2;exact⟨_,_,by simp only[hv,hw],h2⟩
  ·cases h2
 |ret=>
  simp only at h2 ⊢;split at h2
  ·rename_i hv;obtain⟨v',h',hw,h2⟩:=qj5 h2;exact⟨_,_,by simp only[hv,hw],h2⟩
  ·cases h2
def zsK(K:Res->Heap->Option R):List (Bool×Res×Heap)->Option R
 | []=>none
 |(b,r,h)::l=>br b (K r h) (zsK K l)
theorem qyD{K:Res->Heap->Option R}{ρ:R}:∀{l:List (Bool×Res×Heap)},zsK K l=some ρ-> ∃r h,(true,r,h)∈l/\K r h=some ρ
 | [],h=>by cases h
 |(b,r,h)::l,hs=>by
  cases b with
  |true=>exact⟨r,h,by simp,hs⟩
  |false=>
   obtain⟨r',h',h1,h2⟩:=qyD (l:=l) hs;exact⟨r',h',by simp[h1],h2⟩
def zsJ(K:X->St->Option R):List (Bool×X×St)->Option R
 | []=>none
 |(b,x,s)::l=>br b (K x s) (zsJ K l)
theorem qyC{K:X->St->Option R}{ρ:R}:∀{l:List (Bool×X×St)},zsJ K l=some ρ-> ∃x s,(true,x,s)∈l/\K x s=some ρ
 | [],h=>by cases h
 |(b,x,s)::l,hs=>by
  cases b with
  |true=>exact⟨x,s,by simp,hs⟩
  |false=>
   obtain⟨x',s',h1,h2⟩:=qyC (l:=l) hs;exact⟨x',s',by simp[h1],h2⟩
end
end Go.Eng
namespace Go.Eng
theorem qxZ{IP:Prog}{keep:List Nat}{c:ICode}{s s':St}(h:norm (hk keep) s=norm (hk keep) s'){r:X×St}(hr:qmw IP keep c s'=some r):qmw IP keep c s=some r:=by
 obtain⟨n,hn⟩:=qh4.1 hr;refine qh4.2 ⟨n,?_⟩;cases n with
 |zero=>simp[qaI]at hn
 |succ n=>simp only[qaI]at hn ⊢;rw[h];exact hn
@[simp] theorem br_true {R:Type} (x y:R):br true x y=x:=rfl
@[simp] theorem br_false {R:Type} (x y:R):br false x y=y:=rfl
theorem getD_some{α:Type}{l:List α}{i:Nat}{d:α}(h:i<l.length):l[i]?.getD d=l[i]:=by simp[h]
theorem qMK(s:List UInt8)(i:Nat):qak s (i:Int)=((s[i]?.getD 0).toNat:Int):=by simp[qak,qhp]
end Go.Eng
namespace Go.Eng
inductive Rd (τ:Type) where
 |next (v:τ)
 |done (j:Nat)
inductive Rx (τ:Type) where
 |next (v:τ)
 |out (x:X) (s:St)
def qj0{τ:Type}(st:τ->Option (Rd τ)):Nat->τ->Option (Nat×τ)
 |0,_=>none
 |n+1,v=>match st v with
  |some (.next v')=>qj0 st n v'
  |some (.done j)=>some (j,v)
  |none=>none
theorem qxk{τ:Type}{st:τ->Option (Rd τ)}:∀{n:Nat} {v:τ} {r:Nat×τ},qj0 st n v=some r->qj0 st (n+1) v=some r
 |0,v,r,h=>by simp[qj0]at h
 |n+1,v,r,h=>by
  simp only[qj0]at h ⊢;cases hs:st v with
  |none=>rw[hs]at h;cases h
  |some q=>
   rw[hs]at h;cases q with
   |next v'=>exact qxk h
   |done j=>exact h
theorem qxj{τ:Type}{st:τ->Option (Rd τ)}{n m:Nat}(hnm:n<=m){v:τ}{r:Nat×τ}(h:qj0 st n v=some r):qj0 st m v=some r:=by
 induction hnm with
 |refl=>exact h
 |step _ ih=>exact qxk ih
open Classical in
noncomputable def qaf{τ:Type}(st:τ->Option (Rd τ))(v:τ):Option (Nat×τ):=
 if h:∃r n,qj0 st n v=some r then some h.choose else none
theorem qgy{τ:Type}{st:τ->Option (Rd τ)}{v:τ}{r:Nat×τ}:qaf st v=some r ↔ ∃n,qj0 st n v=some r:=by
 unfold qaf;split
 ·rename_i h;obtain⟨n,hn⟩:=h.choose_spec;constructor
  ·intro hr;cases hr;exact⟨n,hn⟩
  ·rintro⟨m,hm⟩;have h1:=qxj (Nat.le_max_left n m) hn;have h2:=qxj (jCq n m) hm;rw[h1]at h2;exact h2
 ·rename_i h;constructor
  ·intro hr;cases hr
  ·rintro⟨n,hn⟩;exact absurd ⟨r,n,hn⟩ h
theorem qxl{τ:Type}(st:τ->Option (Rd τ))(v:τ):qaf st v=match st v with
  |some (.next v')=>qaf st v'
  |some (.done j)=>some (j,v)
  |none=>none:=by
 cases hs:st v with
 |none=>
  simp only;cases hi:qaf st v with
  |none=>rfl
  |some r=>
   obtain⟨n,hn⟩:=qgy.1 hi;cases n with
   |zero=>simp[qj0]at hn
   |succ n=>simp[qj0,hs]at hn
 |some q=>
  cases q with
  |done j=>exact qgy.2 ⟨1,by simp[qj0,hs]⟩
  |next v'=>
   simp only;cases hi:qaf st v' with
   |some r=>
    obtain⟨n,hn⟩:=qgy.1 hi;exact qgy.2 ⟨n+1,by simp[qj0,hs,hn]⟩
   |none=>
    cases hj:qaf st v with
    |none=>rfl
    |some r=>
     obtain⟨n,hn⟩:=qgy.1 hj;cases n with
     |zero=>simp[qj0]at hn
     |succ n=>
      simp only[qj0,hs]at hn;rw[qgy.2 ⟨n,hn⟩]at hi;cases hi
theorem qao{τ:Type}{st:τ->Option (Rd τ)}{v v':τ}(h:st v=some (.next v')):qaf st v=qaf st v':=by rw[qxl,h]
theorem qag{τ:Type}{st:τ->Option (Rd τ)}{v:τ}{j:Nat}(h:st v=some (.done j)):qaf st v=some (j,v):=by rw[qxl,h]
def zeN{τ:Type}(keep:List Nat)(dec:St->Option τ)(x:X)(s:St):Option (Rx τ):=match x with
 | .normal=>match norm (hk keep) s with
  |some s=>match dec s with
   |some v=>some (.next v)
   |none=>none
  |none=>none
 |x=>match qCi keep x s with
  |some (x,s)=>some (.out x s)
  |none=>none
def cv{τ:Type}(ex:Nat->X×St):Option (Rd τ)->Option (Rx τ)
 |some (.next v)=>some (.next v)
 |some (.done j)=>some (.out (ex j).1 (ex j).2)
 |none=>none
section
variable {IP:Prog} {τ:Type} {cK:(R:Type)->qjF R} {lK:qFl (Rx τ)} {keep:List Nat} {c:ICode}
end
def Told(IP:Prog)(keep:List Nat)(c:ICode)(g:St->List (Bool×X×St)):Prop:=
 (∀s x s',(true,x,s')∈g s->qmw IP keep c s=some (x,s'))/\ ∀s,g s≠ []->norm (hk keep) s=some s
theorem qDK{IP:Prog}{keep:List Nat}{c:ICode}{g:St->List (Bool×X×St)}(h:Told IP keep c g){s s1:St}(hn:norm (hk keep) s=some s1){x:X}{s':St}(hm:(true,x,s')∈g s1):qmw IP keep c s=some (x,s'):=
 qxZ (by rw[hn,h.2 s1 (fun he=>by rw[he]at hm;cases hm)]) (h.1 s1 x s' hm)
end Go.Eng
namespace Go.Eng
inductive Lf where
 |i (n:Int)
 |b (x:Bool)
 |s (s:List UInt8)
 |l (es:List AV)
 |n (k:Nat)
 |m (kvs:List (AV×AV))
inductive PA where
 |int (k:IntKind)
 |bool
 |str
 |nilp|nilm|nilf|nili|junk
 |nils (q:NilS)
 |agg (ps:List PA)
 |tup (ps:List PA)
 |view (sz:Nat)
 |ptr (ps:List PA)
 |own (id off:Nat)
 |ownn (id off:Nat)
 |ref (id idx off:Nat)
 |mref (id:Nat)
 |fn (f:FnId) (ps:List PA)
 |iface (t:Nat) (p:PA)
def q4B:Option (List Lf)->Option (List Lf)->Option (List Lf)
 |some a,some b=>some (a++b)
 |_,_=>none
def mA:PA->AV->Option (List Lf)
 | .int k,.int k' n=>if k'=k then some [.i n]else none
 | .bool,.bool x=>some [.b x]
 | .str,.str x=>some [.s x]
 | .nilp,.nilp=>some []
 | .nilm,.nilm=>some []
 | .nilf,.nilf=>some []
 | .nili,.nili=>some []
 | .junk,.junk=>some []
 | .nils q,.nils q'=>if q'=q then some []else none
 | .agg ps,.agg cs=>mAs ps cs
 | .tup ps,.tup cs=>mAs ps cs
 | .view sz,.view sz' es=>if sz'=sz then some [.l es]else none
 | .ptr ps,.ptr cs=>mAs ps cs
 | .own id off,.own id' off' none=>if id'=id/\off'=off then some []else none
 | .ownn id off,.own id' off' (some k)=>if id'=id/\off'=off then some [.n k]else none
 | .ref id idx off,.ref id' idx' off'=>if id'=id/\idx'=idx/\off'=off then some []else none
 | .mref id,.mref id'=>if id'=id then some []else none
 | .fn f ps,.fn f' cs=>if f'=f then mAs ps cs else none
 | .iface t p,.iface t' v=>if t'=t then mA p v else none
 |_,_=>none
where mAs:List PA->List AV->Option (List Lf)
 | [],[]=>some []
 |p::ps,v::vs=>q4B (mA p v) (mAs ps vs)
 |_,_=>none
def lfI:List Lf->Int
 | .i n::_=>n
 |_=>0
def lfB:List Lf->Bool
 | .b n::_=>n
 |_=>false
def lfS:List Lf->List UInt8
 | .s n::_=>n
 |_=>[]
def lfL:List Lf->List AV
 | .l n::_=>n
 |_=>[]
def lfN:List Lf->Nat
 | .n n::_=>n
 |_=>0
def lfM:List Lf->List (AV×AV)
 | .m n::_=>n
 |_=>[]
def szA:PA->Nat
 | .int _ | .bool | .str | .view _ | .ownn _ _=>1
 | .agg ps | .tup ps | .ptr ps | .fn _ ps=>szAs ps
 | .iface _ p=>szA p
 |_=>0
where szAs:List PA->Nat
 | []=>0
 |p::ps=>szA p+szAs ps
def fA:PA->List Lf->AV
 | .int k,ls=>.int k (lfI ls)
 | .bool,ls=>.bool (lfB ls)
 | .str,ls=>.str (lfS ls)
 | .nilp,_=>.nilp
 | .nilm,_=>.nilm
 | .nilf,_=>.nilf
 | .nili,_=>.nili
 | .junk,_=>.junk
 | .nils sz,_=>.nils sz
 | .agg ps,ls=>.agg (fAs ps ls)
 | .tup ps,ls=>.tup (fAs ps ls)
 | .view sz,ls=>.view sz (lfL ls)
 | .ptr ps,ls=>.ptr (fAs ps ls)
 | .own id off,_=>.own id off none
 | .ownn id off,ls=>.own id off (some (lfN ls))
 | .ref id idx off,_=>.ref id idx off
 | .mref id,_=>.mref id
 | .fn f ps,ls=>.fn f (fAs ps ls)
 | .iface t p,ls=>.iface t (fA p ls)
where fAs:List PA->List Lf->List AV
 | [],_=>[]
 |p::ps,ls=>fA p ls::fAs ps (ls.drop (szA p))
theorem qhO{a b:Option (List Lf)}{r:List Lf}(h:q4B a b=some r):∃x y,a=some x/\b=some y/\r=x++y:=by
 cases a<;>cases b<;>simp[q4B]at h;exact⟨_,_,rfl,rfl,h.symm⟩
mutual
theorem q5r:∀(p:PA) {v:AV} {ls:List Lf},mA p v=some ls->ls.length=szA p/\ ∀r,fA p (ls++r)=v
 | .int k,v,ls,h=>by
  cases v<;>simp only[mA,reduceCtorEq]at h;split at h
  ·rename_i hk;subst hk;simp at h;subst h;exact⟨rfl,fun r=>rfl⟩
  ·cases h
 | .bool,v,ls,h=>by cases v<;>simp[mA]at h;subst h;exact⟨rfl,fun r=>rfl⟩
 | .str,v,ls,h=>by cases v<;>simp[mA]at h;subst h;exact⟨rfl,fun r=>rfl⟩
 | .nilp,v,ls,h=>by cases v<;>simp[mA]at h;subst h;exact⟨rfl,fun r=>rfl⟩
 | .nilm,v,ls,h=>by cases v<;>simp[mA]at h;subst h;exact⟨rfl,fun r=>rfl⟩
 | .nilf,v,ls,h=>by cases v<;>simp[mA]at h;subst h;exact⟨rfl,fun r=>rfl⟩
 | .nili,v,ls,h=>by cases v<;>simp[mA]at h;subst h;exact⟨rfl,fun r=>rfl⟩
 | .junk,v,ls,h=>by cases v<;>simp[mA]at h;subst h;exact⟨rfl,fun r=>rfl⟩
 | .nils sz,v,ls,h=>by
  cases v<;>simp only[mA,reduceCtorEq]at h;split at h
  ·rename_i hk;subst hk;simp at h;subst h;exact⟨rfl,fun r=>rfl⟩
  ·cases h
 | .agg ps,v,ls,h=>by
  cases v<;>simp only[mA,reduceCtorEq]at h;obtain⟨h1,h2⟩:=qut ps h;exact⟨h1,fun r=>by simp only[fA,h2]⟩
 | .tup ps,v,ls,h=>by
  cases v<;>simp only[mA,reduceCtorEq]at h;obtain⟨h1,h2⟩:=qut ps h;exact⟨h1,fun r=>by simp only[fA,h2]⟩
 | .view sz,v,ls,h=>by
  cases v<;>simp only[mA,reduceCtorEq]at h;split at h
  ·rename_i hk;subst hk;simp at h;subst h;exact⟨rfl,fun r=>rfl⟩
  ·cases h
 | .ptr ps,v,ls,h=>by
  cases v<;>simp only[mA,reduceCtorEq]at h;obtain⟨h1,h2⟩:=qut ps h;exact⟨h1,fun r=>by simp only[fA,h2]⟩
 | .own id off,v,ls,h=>by
  cases v<;>first|(exfalso;revert h;simp[mA];done)|skip
  rename_i a b lo;cases lo<;>first|(exfalso;revert h;simp[mA];done)|skip
  simp only[mA]at h;split at h
  ·rename_i hk;obtain⟨rfl,rfl⟩:=hk;simp at h;subst h;exact⟨rfl,fun r=>rfl⟩
  ·cases h
 | .ownn id off,v,ls,h=>by
  cases v<;>first|(exfalso;revert h;simp[mA];done)|skip
  rename_i a b lo;cases lo<;>first|(exfalso;revert h;simp[mA];done)|skip
  simp only[mA]at h;split at h
  ·rename_i hk;obtain⟨rfl,rfl⟩:=hk;simp at h;subst h;exact⟨rfl,fun r=>rfl⟩
  ·cases h
 | .ref id idx off,v,ls,h=>by
  cases v<;>simp only[mA,reduceCtorEq]at h;split at h
  ·rename_i hk;obtain⟨rfl,rfl,rfl⟩:=hk;simp at h;subst h;exact⟨rfl,fun r=>rfl⟩
  ·cases h
 | .mref id,v,ls,h=>by
  cases v<;>simp only[mA,reduceCtorEq]at h;split at h
  ·rename_i hk;subst hk;simp at h;subst h;exact⟨rfl,fun r=>rfl⟩
  ·cases h
 | .fn f ps,v,ls,h=>by
  cases v<;>simp only[mA,reduceCtorEq]at h;split at h
  ·rename_i hk;subst hk;obtain⟨h1,h2⟩:=qut ps h;exact⟨h1,fun r=>by simp only[fA,h2]⟩
  ·cases h
 | .iface t p,v,ls,h=>by
  cases v<;>simp only[mA,reduceCtorEq]at h;split at h
  ·rename_i hk;subst hk;obtain⟨h1,h2⟩:=q5r p h;exact⟨h1,fun r=>by simp only[fA,h2]⟩
  ·cases h
theorem qut:∀(ps:List PA) {vs:List AV} {ls:List Lf},mA.mAs ps vs=some ls->ls.length=szA.szAs ps/\ ∀r,fA.fAs ps (ls++r)=vs
 | [],vs,ls,h=>by cases vs<;>simp[mA.mAs]at h;subst h;exact⟨rfl,fun r=>rfl⟩
 |p::ps,vs,ls,h=>by
  cases vs<;>simp only[mA.mAs,reduceCtorEq]at h;obtain⟨x,y,h1,h2,rfl⟩:=qhO h;obtain⟨g1,g2⟩:=q5r p h1;obtain⟨g3,g4⟩:=qut ps h2;refine⟨by simp[szA.szAs,g1,g3],fun r=>?_⟩;simp only[fA.fAs];rw[jAf,g2]
  congr 1
  rw[<-g1,List.drop_left];exact g4 r
end
inductive PB where
 |box (ps:List PA) (fz:Bool)
 |arr (sz:Nat) (fz:Bool)
 |mp
def mB:PB->Blk->Option (List Lf)
 | .box ps fz,.box cs fz'=>if fz'=fz then mA.mAs ps cs else none
 | .arr sz fz,.arr sz' es fz'=>if sz'=sz/\fz'=fz then some [.l es]else none
 | .mp,.mp kvs=>some [.m kvs]
 |_,_=>none
def szB:PB->Nat
 | .box ps _=>szA.szAs ps
 |_=>1
def fB:PB->List Lf->Blk
 | .box ps fz,ls=>.box (fA.fAs ps ls) fz
 | .arr sz fz,ls=>.arr sz (lfL ls) fz
 | .mp,ls=>.mp (lfM ls)
theorem zqc{p:PB}{v:Blk}{ls:List Lf}(h:mB p v=some ls):ls.length=szB p/\ ∀r,fB p (ls++r)=v:=by
 cases p<;>cases v<;>simp only[mB,reduceCtorEq]at h
 ·split at h
  ·rename_i hk;subst hk;obtain⟨h1,h2⟩:=qut _ h;exact⟨h1,fun r=>by simp only[fB,h2]⟩
  ·cases h
 ·split at h
  ·rename_i hk;obtain⟨rfl,rfl⟩:=hk;simp at h;subst h;exact⟨rfl,fun r=>rfl⟩
  ·cases h
 ·simp at h;subst h;exact⟨rfl,fun r=>rfl⟩
def mH:List (Nat×PB)->Heap->Option (List Lf)
 | [],[]=>some []
 |(i,p)::ps,(j,b)::h=>if j=i then q4B (mB p b) (mH ps h)else none
 |_,_=>none
def szH:List (Nat×PB)->Nat
 | []=>0
 |(_,p)::ps=>szB p+szH ps
def fH:List (Nat×PB)->List Lf->Heap
 | [],_=>[]
 |(i,p)::ps,ls=>(i,fB p ls)::fH ps (ls.drop (szB p))
theorem q5t:∀{ps:List (Nat×PB)} {h:Heap} {ls:List Lf},mH ps h=some ls->ls.length=szH ps/\ ∀r,fH ps (ls++r)=h
 | [],h,ls,hh=>by cases h<;>simp[mH]at hh;subst hh;exact⟨rfl,fun r=>rfl⟩
 |(i,p)::ps,h,ls,hh=>by
  cases h with
  |nil=>simp[mH]at hh
  |cons jb h=>
   obtain⟨j,b⟩:=jb;simp only[mH]at hh;split at hh
   ·rename_i hk;subst hk;obtain⟨x,y,h1,h2,rfl⟩:=qhO hh;obtain⟨g1,g2⟩:=zqc h1;obtain⟨g3,g4⟩:=q5t h2;refine⟨by simp[szH,g1,g3],fun r=>?_⟩;simp only[fH];rw[jAf,g2,<-g1,List.drop_left,g4]
   ·cases hh
def mE:List (Nat×PA)->Env->Option (List Lf)
 | [],[]=>some []
 |(i,p)::ps,(j,b)::h=>if j=i then q4B (mA p b) (mE ps h)else none
 |_,_=>none
def szE:List (Nat×PA)->Nat
 | []=>0
 |(_,p)::ps=>szA p+szE ps
def fE:List (Nat×PA)->List Lf->Env
 | [],_=>[]
 |(i,p)::ps,ls=>(i,fA p ls)::fE ps (ls.drop (szA p))
theorem zlx:∀{ps:List (Nat×PA)} {h:Env} {ls:List Lf},mE ps h=some ls->ls.length=szE ps/\ ∀r,fE ps (ls++r)=h
 | [],h,ls,hh=>by cases h<;>simp[mE]at hh;subst hh;exact⟨rfl,fun r=>rfl⟩
 |(i,p)::ps,h,ls,hh=>by
  cases h with
  |nil=>simp[mE]at hh
  |cons jb h=>
   obtain⟨j,b⟩:=jb;simp only[mE]at hh;split at hh
   ·rename_i hk;subst hk;obtain⟨x,y,h1,h2,rfl⟩:=qhO hh;obtain⟨g1,g2⟩:=q5r p h1;obtain⟨g3,g4⟩:=zlx h2;refine⟨by simp[szE,g1,g3],fun r=>?_⟩;simp only[fE];rw[jAf,g2,<-g1,List.drop_left,g4]
   ·cases hh
structure PSt where
 tm:List (Nat×PA)
 hp:List (Nat×PB)
 nx:Nat
 k:Nat
def mSt(p:PSt)(s:St):Option (List Lf):=if s.nx=p.nx/\s.k=p.k then q4B (mE p.tm s.tm) (mH p.hp s.hp)else none
def fSt(p:PSt)(ls:List Lf):St:=⟨fE p.tm ls,fH p.hp (ls.drop (szE p.tm)),p.nx,p.k⟩
theorem q9U{p:PSt}{s:St}{ls:List Lf}(h:mSt p s=some ls):fSt p ls=s:=by
 simp only[mSt]at h;split at h
 ·rename_i hk;obtain⟨x,y,h1,h2,rfl⟩:=qhO h;obtain⟨g1,g2⟩:=zlx h1;obtain⟨g3,g4⟩:=q5t h2;have:=g4 [];rw[jC6]at this;obtain⟨tm,hp,nx,k⟩:=s;simp only at hk;simp only[fSt,g2,<-g1,List.drop_left,this,hk.1,hk.2]
 ·cases h
structure PArgs where
 as:List PA
 hp:List (Nat×PB)
def zlw(p:PArgs)(a:List AV)(h:Heap):Option (List Lf):=q4B (mA.mAs p.as a) (mH p.hp h)
def q4T(p:PArgs)(ls:List Lf):List AV×Heap:=(fA.fAs p.as ls,fH p.hp (ls.drop (szA.szAs p.as)))
theorem q5s{p:PArgs}{a:List AV}{h:Heap}{ls:List Lf}(hh:zlw p a h=some ls):(a,h)=q4T p ls:=by
 obtain⟨x,y,h1,h2,rfl⟩:=qhO hh;obtain⟨g1,g2⟩:=qut _ h1;obtain⟨g3,g4⟩:=q5t h2;have:=g4 [];rw[jC6]at this;simp only[q4T,g2,<-g1,List.drop_left,this]
structure PRes where
 pan:Bool
 v:PA
 hp:List (Nat×PB)
def znV(p:PRes)(r:Res)(h:Heap):Option (List Lf):=match p.pan,r with
 |false,.ret v=>q4B (mA p.v v) (mH p.hp h)
 |true,.pan v=>q4B (mA p.v v) (mH p.hp h)
 |_,_=>none
def ziO(p:PRes)(ls:List Lf):Res×Heap:=((match p.pan with|false=>.ret (fA p.v ls)|true=>.pan (fA p.v ls)),fH p.hp (ls.drop (szA p.v)))
theorem qWz{p:PRes}{r:Res}{h:Heap}{ls:List Lf}(hh:znV p r h=some ls):(r,h)=ziO p ls:=by
 obtain⟨pan,pv,php⟩:=p;cases pan<;>cases r<;>simp only[znV,reduceCtorEq]at hh
 all_goals
  obtain⟨x,y,h1,h2,rfl⟩:=qhO hh;obtain⟨g1,g2⟩:=q5r _ h1;obtain⟨g3,g4⟩:=q5t h2;have:=g4 [];rw[jC6]at this;simp only[ziO,g2,<-g1,List.drop_left,this]
end Go.Eng
namespace Go.Eng
instance instSumInh {α β:Type} [Inhabited α]:Inhabited (α⊕β):=⟨.inl default⟩
inductive DT (α:Type) where
 |no
 |at (a:α)
 |br (b:Bool) (x y:DT α)
def DT.ev{α:Type}:DT α->Option α
 | .no=>none
 | .at a=>some a
 | .br b x y=>Go.Eng.br b x.ev y.ev
@[simp] theorem ev_no {α:Type}:(DT.no:DT α).ev=none:=rfl
@[simp] theorem ev_at {α:Type} (a:α):(DT.at a).ev=some a:=rfl
@[simp] theorem ev_br {α:Type} (b:Bool) (x y:DT α):(DT.br b x y).ev=bif b then x.ev else y.ev:=by cases b<;>rfl
noncomputable def DT.bi{α β:Type}[Inhabited β](o:Option β)(k:β->DT α)(e:DT α):DT α:=.br (sm o) (k (gv o)) e
@[simp] theorem ev_bi_some {α β:Type} [Inhabited β] (y:β) (k:β->DT α) (e:DT α):(DT.bi (some y) k e).ev=(k y).ev:=rfl
@[simp] theorem ev_bi_none {α β:Type} [Inhabited β] (k:β->DT α) (e:DT α):(DT.bi (none:Option β) k e).ev=e.ev:=rfl
@[simp] theorem br_eq {R:Type} (b:Bool) (x y:R):Go.Eng.br b x y=bif b then x else y:=by cases b<;>rfl
@[simp] theorem cond_some {α:Type} (b:Bool) (x y:α):(bif b then some x else some y)=some (bif b then x else y):=by cases b<;>rfl
noncomputable def qaz{α:Type}(x:α):α:=Classical.choose (⟨x,rfl⟩:∃y,y=x)
theorem qaa{α:Type}(x:α):qaz x=x:=Classical.choose_spec (⟨x,rfl⟩:∃y,y=x)
def pl{α β:Type}(o:Option (α⊕β)):Option α:=match o with
 |some (.inl x)=>some x
 |_=>none
def pr{α β:Type}(o:Option (α⊕β)):Option β:=match o with
 |some (.inr x)=>some x
 |_=>none
def sl{α β:Type}[Inhabited α](o:α⊕β):α:=match o with
 | .inl x=>x
 |_=>default
def sr{α β:Type}[Inhabited β](o:α⊕β):β:=match o with
 | .inr x=>x
 |_=>default
def pj{τ:Type}(j:Nat)(o:Option (Nat×τ)):Option τ:=match o with
 |some (k,w)=>if k=j then some w else none
 |none=>none
@[simp] theorem pl_inl {α β:Type} (x:α):pl (some (Sum.inl x):Option (α⊕β))=some x:=rfl
@[simp] theorem pl_inr {α β:Type} (x:β):pl (some (Sum.inr x):Option (α⊕β))=none:=rfl
@[simp] theorem pl_none {α β:Type}:pl (none:Option (α⊕β))=none:=rfl
@[simp] theorem pr_inl {α β:Type} (x:α):pr (some (Sum.inl x):Option (α⊕β))=none:=rfl
@[simp] theorem pr_inr {α β:Type} (x:β):pr (some (Sum.inr x):Option (α⊕β))=some x:=rfl
@[simp] theorem pr_none {α β:Type}:pr (none:Option (α⊕β))=none:=rfl
@[simp] theorem sl_inl {α β:Type} [Inhabited α] (x:α):sl (Sum.inl x:α⊕β)=x:=rfl
@[simp] theorem sr_inr {α β:Type} [Inhabited β] (x:β):sr (Sum.inr x:α⊕β)=x:=rfl
@[simp] theorem pj_some {τ:Type} (j k:Nat) (w:τ):pj j (some (k,w))=if k=j then some w else none:=rfl
@[simp] theorem pj_none {τ:Type} (j:Nat):pj j (none:Option (Nat×τ))=none:=rfl
theorem zfJ{α β:Type}{o:Option (α⊕β)}{x:α}(h:pl o=some x):o=some (.inl x):=by
 unfold pl at h;split at h
 ·cases h;rfl
 ·cases h
theorem zfK{α β:Type}{o:Option (α⊕β)}{x:β}(h:pr o=some x):o=some (.inr x):=by
 unfold pr at h;split at h
 ·cases h;rfl
 ·cases h
theorem zsd{τ:Type}{j:Nat}{o:Option (Nat×τ)}{w:τ}(h:pj j o=some w):o=some (j,w):=by
 unfold pj at h;split at h
 ·split at h
  ·rename_i hk;cases h;rw[hk]
  ·cases h
 ·cases h
abbrev Ent:=List AV->Heap->List (Bool×Res×Heap)
abbrev Tab:=List (Nat×Ent)
def zjg:Tab->Nat->List AV->Heap->List (Bool×Res×Heap)
 | [],_,_,_=>[]
 |(i,g)::t,f,a,h=>if f=i then g a h++zjg t f a h else zjg t f a h
def Snd(IP:Prog)(f:Nat)(g:Ent):Prop:=∀a h r h',(true,r,h')∈g a h->qbJ IP f a h=some (r,h')
def qan(IP:Prog):Tab->Prop
 | []=>True
 |(i,g)::t=>Snd IP i g/\qan IP t
def qF6(T:Tab)(R:Type):qjF R:=fun f a h K=>zsK K (zjg T f a h)
theorem qIw{IP:Prog}:∀{T:Tab},qan IP T-> ∀{f:Nat} {a:List AV} {h:Heap} {r:Res} {h':Heap},(true,r,h')∈zjg T f a h->qbJ IP f a h=some (r,h')
 | [],_,f,a,h,r,h',hm=>by simp[zjg]at hm
 |(i,g)::t,hT,f,a,h,r,h',hm=>by
  simp only[zjg]at hm;split at hm
  ·rename_i hf;subst hf;rcases jAo.1 hm with hm|hm
   ·exact hT.1 _ _ _ _ hm
   ·exact qIw hT.2 hm
  ·exact qIw hT.2 hm
theorem qy8{IP:Prog}{T:Tab}(h:qan IP T){R:Type}:qsr (qbJ IP) (qF6 T R):=by
 intro f a hp K ρ hs;obtain⟨r,h',h1,h2⟩:=qyD hs;exact⟨r,h',qIw h h1,h2⟩
abbrev qbQ:=St->List (Bool×X×St)
abbrev qMB:=List (Nat×qbQ)
def zjf:qMB->Nat->St->List (Bool×X×St)
 | [],_,_=>[]
 |(i,g)::t,id,s=>if id=i then g s++zjf t id s else zjf t id s
def qzZ{R:Type}(T:qMB):qFl R:=fun k _ s K=>match k with
 | []=>none
 |id::_=>match norm (hk k) s with
  |none=>none
  |some s1=>zsJ K (zjf T id s1)
def q1C:qMB->List Nat->List qbQ
 | [],_=>[]
 |(i,g)::t,k=>match k with
  | []=>[]
  |id::_=>if id=i then g::q1C t k else q1C t k
def LOk(IP:Prog)(T:qMB):List (List Nat×ICode)->Prop
 | []=>True
 |p::r=>(∀g∈q1C T p.1,Told IP p.1 p.2 g)/\LOk IP T r
theorem qAR{id:Nat}{rest:List Nat}{s:St}{e:Bool×X×St}:∀{T:qMB},e∈zjf T id s-> ∃g∈q1C T (id::rest),e∈g s
 | [],h=>by simp[zjf]at h
 |(i,g)::t,h=>by
  simp only[zjf]at h;split at h
  ·rename_i hi;rcases jAo.1 h with h|h
   ·exact⟨g,by simp[q1C,hi],h⟩
   ·obtain⟨g',h1,h2⟩:=qAR h;exact⟨g',by simp[q1C,hi];exact Or.inr (by rw[<-hi];exact h1),h2⟩
  ·rename_i hi;obtain⟨g',h1,h2⟩:=qAR h;exact⟨g',by simp[q1C,hi];exact h1,h2⟩
theorem qn0{IP:Prog}{T:qMB}:∀{a b:List (List Nat×ICode)},LOk IP T (a++b)->LOk IP T a/\LOk IP T b
 | [],_,h=>⟨trivial,h⟩
 |_::_,_,h=>⟨⟨h.1,(qn0 h.2).1⟩,(qn0 h.2).2⟩
theorem qz0{IP:Prog}{T:qMB}{R:Type}:∀{c:ICode},LOk IP T (loops c)->qyS (R:=R) (qmw IP) (qzZ T) c:=by
 intro c
 induction c with
 |seq a b iha ihb=>intro h;exact⟨iha (qn0 h).1,ihb (qn0 h).2⟩
 |cond x a b iha ihb=>intro h;exact⟨iha (qn0 h).1,ihb (qn0 h).2⟩
 |block id a ih=>intro h;exact ih h
 |loop k a ih=>
  intro h s K ρ hs;have hk:=h.1;cases k with
  |nil=>simp[qzZ]at hs
  |cons id rest=>
   simp only[qzZ]at hs;split at hs
   ·cases hs
   ·rename_i s1 hn;obtain⟨x,s',h1,h2⟩:=qyC hs;obtain⟨g,h3,h4⟩:=qAR (rest:=rest) h1;exact⟨x,s',qDK (hk g h3) hn h4,h2⟩
 |_=>intro _;exact trivial
theorem qac{IP:Prog}{T:qMB}{c:ICode}{l:List (List Nat×ICode)}(h:loops c=l)(hl:LOk IP T l):LOk IP T (loops c):=h▸hl
theorem qau{IP:Prog}{T:qMB}{p:List Nat×ICode}{g:qbQ}(h:q1C T p.1= [g])(t:Told IP p.1 p.2 g):∀g∈q1C T p.1,Told IP p.1 p.2 g:=by
 rw[h];intro g' hg';rw[jAt]at hg';subst hg';exact t
theorem qMh{IP:Prog}{T:qMB}{p:List Nat×ICode}(h:q1C T p.1= []):∀g∈q1C T p.1,Told IP p.1 p.2 g:=by
 rw[h];intro g' hg';cases hg'
section
variable {R:Type} {ls:List Lf} {v:R}
end
def E1{α:Type}[Inhabited α](e:α->Res×Heap)(o:Option α):List (Bool×Res×Heap):=[(sm o,(e (gv o)).1,(e (gv o)).2)]
def E2{α β:Type}[Inhabited α](e:α->Res×Heap)(E:Option β->List (Bool×Res×Heap))(o:Option (α⊕β)):List (Bool×Res×Heap):=(sm (pl o),(e (gv (pl o))).1,(e (gv (pl o))).2)::E (pr o)
theorem zk6{IP:Prog}{T:Tab}{L:qMB}{f:Nat}{F:Fun}{args:List AV}{h:Heap}{β:Type}{dec:Res->Heap->Option β}{er:β->Res×Heap}{t:DT β}{y:β}(hT:qan IP T)(hF:IP.fn f=some F)(hL:LOk IP L (loops F.body))
  (hdec:∀r h y,dec r h=some y->(r,h)=er y) (hb:qTx (R:=β) IP (qF6 T) (qzZ L) f F args h dec=t.ev) (ht:t.ev=some y):qbJ IP f args h=some (er y):=by
 rw[ht]at hb;obtain⟨r,h',h1,h2⟩:=qsJ (fun R=>qy8 hT) (qz0 hL) hb;rw[<-hdec _ _ _ h2];exact q4F hF h1
def cvR{τ:Type}(ex:Nat->X×St):Rd τ->Rx τ
 | .next v=>.next v
 | .done j=>.out (ex j).1 (ex j).2
def cvD{τ:Type}(ex:Nat->X×St):DT (Rd τ)->DT (Rx τ)
 | .no=>.no
 | .at r=>.at (cvR ex r)
 | .br b x y=>.br b (cvD ex x) (cvD ex y)
theorem qTO{τ:Type}{ex:Nat->X×St}:∀{t:DT (Rd τ)},(cvD ex t).ev=cv ex t.ev
 | .no=>rfl
 | .at r=>by cases r<;>rfl
 | .br b x y=>by
  cases b
  ·exact qTO (t:=y)
  ·exact qTO (t:=x)
def zr4:X->Bool
 | .normal=>false
 |_=>true
open Classical in
noncomputable def qjC{β:Type}(s:Nat->Option β):Option β:=if h:∃r n,∀m,n<=m->s m=some r then some h.choose else none
theorem qV0{β:Type}{s:Nat->Option β}{r:β}(h:qjC s=some r):∃n,s n=some r:=by
 unfold qjC at h;split at h
 ·rename_i hx;obtain⟨n,hn⟩:=hx.choose_spec;cases h;exact⟨n,hn n (jAj n)⟩
 ·cases h
theorem qdQ{β:Type}{s:Nat->Option β}{r:β}{n:Nat}(h:∀m,n<=m->s m=some r):qjC s=some r:=by
 unfold qjC;have hx:∃r n,∀m,n<=m->s m=some r:=⟨r,n,h⟩;rw[dif_pos hx];obtain⟨k,hk⟩:=hx.choose_spec;have h1:=hk (max n k) (jCq _ _);rw[h _ (Nat.le_max_left _ _)]at h1;exact h1.symm
end Go.Eng
namespace Go.Eng
set_option linter.unusedSectionVars false
variable [Globs]
def noC:qba:=fun _ _ _=>none
def noL:qhh:=fun _ _ _=>none
def qCH(sz bytes:Nat):List AV->Heap->Option (Res×Heap)
 | [.view sz' es],[]=>if sz'=sz then
   if es.length=0 then some (.ret (.nils ⟨sz,.any⟩),[])
   else if es.length*bytes<=lim then some (.ret (.own 0 0 none),[(0,.arr sz es false)])else none
  else none
 |_,_=>none
theorem qMO{P:Program}{w:World}{I:Imm}{m:Names}{h:Heap}{f:Nat}{vs:Array Value}{v v':AV}{h':Heap}(hc:Calls P f vs w (qMD w I m h (.ret v) h'))(hw:∀{w I m u},Rel w I v m u->Rel w I v' m u) :
  Calls P f vs w (qMD w I m h (.ret v') h'):=by
 refine hc.mono ?_;rintro e w' ⟨I',m',ha,u,he,hu⟩;exact⟨I',m',ha,u,he,hw hu⟩
theorem qMU{P:Program}{IP:Prog}{f:Nat}{F:Fun}{sz bytes:Nat}(hF:qas P f F)
  (h1:body IP noC noL f F [.nils ⟨sz,.nil⟩] []=some (.ret (.nils ⟨sz,.nil⟩),[]))
  (h2:body IP noC noL f F [.nils ⟨sz,.non⟩] []=some (.ret (.nils ⟨sz,.any⟩),[]))
  (h3:∀es:List AV,es.length≠0->es.length*bytes<=lim->body IP noC noL f F [.view sz es] []=some (.ret (.own 0 0 none),[(0,.arr sz es false)])):qdW P f (qCH sz bytes):=by
 have hC:qdV P noC:=fun _ _ _ _ _ h=>by cases h
 have hL:qmK P noL:=fun _ _ _ _ _ h=>by cases h
 intro args h r h' hg;unfold qCH at hg;split at hg
 ·rename_i sz' es;split at hg
  ·rename_i hsz;subst hsz;split at hg
   ·rename_i h0;cases hg;refine fun w I m vs H hm hr=>.inl ⟨(qds hC hL hF h1).1,?_⟩
    obtain⟨v,vs',rfl,hv,hvs⟩:=by simpa only[qaU]using hr
    obtain⟨a,cap,rfl,hcap,_,hz⟩:=by simpa only[Rel]using hv
    subst hvs;cases a with
    |none=>
     have hc0:=hz rfl;subst hc0;refine qMO ((qds hC hL hF h1).2 w I m _ H hm ?_) ?_
     ·simp only[qaU,Rel];exact⟨_,_,rfl,⟨none,0,by rw[h0],by simp,by simp,by simp⟩,rfl⟩
     ·intro w I m u hu;simp only[Rel]at hu ⊢;obtain⟨b,cap,rfl,g1,_,_⟩:=hu;exact⟨b,cap,rfl,fun _=>g1 (by simp),by simp,by simp⟩
    |some ad=>
     refine(qds hC hL hF h2).2 w I m _ H hm ?_;simp only[qaU,Rel];exact⟨_,_,rfl,⟨some ad,cap,by rw[h0],by simp,by simp,fun _=>⟨_,rfl⟩⟩,rfl⟩
   ·rename_i h0;split at hg
    ·rename_i hb;cases hg;exact fun w I m vs H hm hr=>.inl ⟨(qds hC hL hF (h3 es h0 hb)).1,(qds hC hL hF (h3 es h0 hb)).2 w I m vs H hm hr⟩
    ·cases hg
  ·cases hg
 ·cases hg
theorem qdd{R:Type}{loop:qhh}:∀c:ICode,qyS (R:=R) loop (fun _ _ _ _=>none) c
 | .seq a b=>⟨qdd a,qdd b⟩
 | .cond _ a b=>⟨qdd a,qdd b⟩
 | .block _ a=>qdd a
 | .loop _ _=>fun _ _ _ h=>by cases h
 | .skip | .region _ _ | .exit _ | .ret=>trivial
theorem qMT{IP:Prog}{f:Nat}{F:Fun}{sz bytes:Nat}{b c:Bool}{x:Res×Heap}
  (hb:∀ es:List AV,qTx (R:=Res × Heap) IP (fun _ _ _ _ _=>none) (fun _ _ _ _=>none) f F [.view sz es] [] (fun r h=>some (r,h)) =
   br (decide (es.length≠0)) (br (decide (es.length=0)&&b) (some x) (br (decide (es.length≠0)&&(c&&room es.length bytes)) (some (.ret (.own 0 0 none),[(0,.arr sz es false)])) none)) none) (hc:c=true) (es:List AV)
  (h0:es.length≠0) (h1:es.length*bytes<=lim):body IP noC noL f F [.view sz es] []=some (.ret (.own 0 0 none),[(0,.arr sz es false)]):=by
 have hq:=hb es;have e1:decide (es.length≠0)=true:=jA8 h0;have e2:decide (es.length=0)=false:=jAe h0;have e3:room es.length bytes=true:=jA8 h1;rw[e1,e2,e3,hc]at hq;obtain⟨r,h',h2,h3⟩:=qsJ (call:=noC) (loop:=noL) (fun R f a h K ρ hs=>by cases hs) (qdd _) hq;rw[h2];exact h3
end Go.Eng
namespace Go.Eng
def big:Nat:=9223372036854775807
theorem wrap64{n:Int}(h1:-9223372036854775808<=n)(h2:n<=9223372036854775807):IntKind.i64.wrap n=n:=by
 simp[IntKind.wrap,IntKind.signed,IntKind.bits];split<;>omega
theorem qar{n m:Nat}(h:n<m)(hm:m<=big):IntKind.i64.wrap ((n:Int)+1)=((n+1:Nat):Int):=by
 simp only[big]at hm;rw[wrap64 (by omega) (by omega)];simp
theorem qwq{n:Nat}(h:0<n)(hm:n<=big):IntKind.i64.wrap ((n:Int)-1)=((n-1:Nat):Int):=by
 simp only[big]at hm;rw[wrap64 (by omega) (by omega)];omega
section
variable {τ:Type} {av:τ->AV} {ks:List CS}
theorem qCw(l:List τ)(n:Nat):qhp (l.map av) (n:Int)=(l[n]?).map av:=by simp[qhp]
theorem q5A(hk:∀x,qqc ks (qai (av x))=true)(l:List τ)(n:Nat):qaH ks (l.map av) (n:Int)=decide (n<l.length):=by
 simp only[qaH,qCw];by_cases h:n<l.length
 ·simp[h,hk]
 ·simp[h]
theorem qgF(hk:∀x,qqc ks (qai (av x))=true){l:List τ}{n:Nat}(h:n<l.length):qaH ks (l.map av) (n:Int)=true:=by
 rw[q5A hk,jA8 h]
theorem qaF{l:List τ}{n:Nat}(h:n<l.length)(j:Nat):cellAt (l.map av) (n:Int) j=((qai (av l[n]))[j]?).getD .junk:=by
 simp[cellAt,qCw,h]
theorem qhR{l:List τ}{n:Nat}(h:n<l.length)(j:Nat):qfP (l.map av) n j=((qai (av l[n]))[j]?).getD .junk:=by
 simp[qfP,h]
theorem qH2{l:List τ}{n off:Nat}(h:n<l.length):okP ks (l.map av) n off=qqc ks (((qai (av l[n])).drop off).take ks.length):=by
 simp[okP,h]
theorem zfy{l:List τ}{n off m:Nat}(h:n<l.length):okS (l.map av) n off m=decide (off+m<=(qai (av l[n])).length):=by
 simp[okS,h]
theorem q6e{l:List τ}{n off:Nat}{vs:List AV}(h:n<l.length){y:τ}(hy:elemOf (av l[n]) (splice (qai (av l[n])) off vs)=av y):zmc (l.map av) n off vs=(l.set n y).map av:=by
 simp[zmc,h,hy,List.map_set]
theorem qa4{l n:Nat}(h:n<l):inB l (n:Int)=true:=by simp[inB,h]
theorem qaZ{s:List UInt8}{n:Nat}(h:n<s.length):qak s (n:Int)=((s[n]).toNat:Int):=by
 simp[qak,qhp,h]
theorem qaV{n m:Nat}(h:n<m):decide ((n:Int)<(m:Int))=true:=by simp[h]
theorem qLE{n m:Nat}(h:¬n<m):decide ((n:Int)<(m:Int))=false:=by simp;omega
theorem qcY{n b:Nat}(h:n*b<=lim):room n b=true:=jA8 h
end
theorem drop_at{τ:Type}{l:List τ}{n:Nat}(h:n<l.length):l.drop n=l[n]::l.drop (n+1):=List.drop_eq_getElem_cons h
theorem q4Q{τ:Type}{l:List τ}{n:Nat}(h:¬n<l.length):l.drop n= []:=List.drop_eq_nil_of_le (by omega)
theorem qkW{τ:Type}{st:τ->Option (Rd τ)}(hd:Nat->τ)(K j:Nat):∀(n:Nat),n<=K->(∀m,n<=m->m<K->st (hd m)=some (.next (hd (m+1))))->st (hd K)=some (.done j)->qaf st (hd n)=some (j,hd K):=by
 intro n hn hs he;obtain⟨d,rfl⟩:∃d,K=n+d:=⟨K-n,by omega⟩;clear hn
 induction d generalizing n with
 |zero=>exact qag he
 |succ d ih=>
  rw[qao (hs n (jAj _) (by omega))];have:=ih (n+1) (fun m h1 h2=>hs m (by omega) (by omega)) (by rw[show n+1+d=n+(d+1) by omega];exact he);rw[this,show n+1+d=n+(d+1) by omega]
def qjD{α:Type}(p:α->Bool)(jx:α->Nat)(je:Nat)(l:List α):Nat:=match l.find? p with
 |some x=>jx x
 |none=>je
theorem qaP{α τ:Type}{st:τ->Option (Rd τ)}{l:List α}(hd:Nat->τ)(p:α->Bool)(jx:α->Nat)(je:Nat)
  (hs:∀n (h:n<l.length),st (hd n)=some (bif p l[n]then .done (jx l[n])else .next (hd (n+1)))) (he:st (hd l.length)=some (.done je)) :
  qaf st (hd 0)=some (qjD p jx je l,hd (l.findIdx p)):=by
 unfold qjD;cases hf:l.find? p with
 |none=>
  have hn:∀x∈l,¬p x=true:=by simpa using List.find?_eq_none.1 hf
  have hi:l.findIdx p=l.length:=List.findIdx_eq_length.2 (by intro x hx;simpa using hn x hx);rw[hi];exact qkW hd l.length je 0 (jBa _) (fun m _ hm=>by rw[hs m hm,Bool.eq_false_iff.2 (hn _ (jAi hm))];rfl) he
 |some x=>
  have hp:p x=true:=jC4 hf;have hlt:l.findIdx p<l.length:=List.findIdx_lt_length.2 ⟨x,jB4 hf,hp⟩;have hx:l[l.findIdx p]=x:=by
   have:=jAh hlt;rw[jCm]at hf;rw[this]at hf;exact jC2 hf
  refine qkW hd (l.findIdx p) (jx x) 0 (jBa _) (fun m _ hm=>?_) ?_
  ·rw[hs m (by omega),List.not_of_lt_findIdx hm];rfl
  ·rw[hs _ hlt,hx,hp];rfl
theorem qg6{τ:Type}{st:τ->Option (Rd τ)}(N:Nat)(hd:Nat->τ)(p:Nat->Bool)(jx:Nat->Nat)(je:Nat)
  (hs:∀n,n<N->st (hd n)=some (bif p n then .done (jx n)else .next (hd (n+1)))) (he:st (hd N)=some (.done je)) :
  qaf st (hd 0)=some (qjD p jx je (List.range N),hd ((List.range N).findIdx p)):=
 qaP (l:=List.range N) hd p jx je (fun n h=>by rw[List.getElem_range];exact hs n (by simpa using h)) (by simpa using he)
theorem qvy{α:Type}{p:α->Bool}{jx:α->Nat}{je:Nat}{l:List α}(h:l.any p=false):qjD p jx je l=je:=by
 unfold qjD;rw[List.find?_eq_none.2 (by simpa using h)]
theorem qaY{α:Type}{p:α->Bool}{j je:Nat}{l:List α}:qjD p (fun _=>j) je l=bif l.any p then j else je:=by
 unfold qjD;cases hf:l.find? p with
 |none=>
  have:l.any p=false:=by simpa using hf
  rw[this];rfl
 |some x=>
  have:l.any p=true:=List.any_eq_true.2 ⟨x,jB4 hf,jC4 hf⟩;rw[this];rfl
def qC3{α σ:Type}(f:Nat->σ->α->σ):Nat->σ->List α->σ
 |_,a,[]=>a
 |n,a,x::l=>qC3 f (n+1) (f n a x) l
theorem qtR{α σ:Type}{f:σ->α->σ}:∀{l:List α} {n:Nat} {a:σ},qC3 (fun _=>f) n a l=l.foldl f a
 | [],_,_=>rfl
 |x::l,n,a=>by simp only[qC3,jC3];exact qtR
theorem qO9{α σ τ:Type}{st:τ->Option (Rd τ)}{l:List α}(hd:Nat->σ->τ)(f:Nat->σ->α->σ)(jx:σ->Nat)(inv:Nat->σ->Prop){a:σ}(h0:inv 0 a)
  (hi:∀n a (h:n<l.length),inv n a->inv (n+1) (f n a l[n]))
  (hs:∀n a (h:n<l.length),inv n a->st (hd n a)=some (.next (hd (n+1) (f n a l[n])))) (he:∀a,inv l.length a->st (hd l.length a)=some (.done (jx a))) :
  qaf st (hd 0 a)=some (jx (qC3 f 0 a l),hd l.length (qC3 f 0 a l)):=by
 have key:∀(k n:Nat) (a:σ),n+k=l.length->inv n a->qaf st (hd n a)=some (jx (qC3 f n a (l.drop n)),hd l.length (qC3 f n a (l.drop n))):=by
  intro k
  induction k with
  |zero=>
   intro n a hn ha;have:n=l.length:=by omega
   subst this;rw[qag (he a ha)];simp[qC3]
  |succ k ih=>
   intro n a hn ha;have h:n<l.length:=by omega
   rw[qao (hs n a h ha),ih (n+1) _ (by omega) (hi n a h ha),drop_at h];rfl
 have:=key l.length 0 a (by omega) h0;simpa using this
theorem qus{α σ τ:Type}{st:τ->Option (Rd τ)}{l:List α}(hd:Nat->σ->τ)(f:σ->α->σ)(jx:σ->Nat)(inv:Nat->σ->Prop){a:σ}(h0:inv 0 a)
  (hi:∀n a (h:n<l.length),inv n a->inv (n+1) (f a l[n]))
  (hs:∀n a (h:n<l.length),inv n a->st (hd n a)=some (.next (hd (n+1) (f a l[n])))) (he:∀a,inv l.length a->st (hd l.length a)=some (.done (jx a))) :
  qaf st (hd 0 a)=some (jx (l.foldl f a),hd l.length (l.foldl f a)):=by
 have:=qO9 (st:=st) (l:=l) hd (fun _=>f) jx inv h0 hi hs he;rwa[qtR]at this
end Go.Eng
namespace Go.Eng
inductive LKd where
 |i|b|s|l|n|m
def kdA:PA->List LKd
 | .int _=>[.i]
 | .bool=>[.b]
 | .str=>[.s]
 | .view _=>[.l]
 | .ownn _ _=>[.n]
 | .agg ps=>kdAs ps
 | .tup ps=>kdAs ps
 | .ptr ps=>kdAs ps
 | .fn _ ps=>kdAs ps
 | .iface _ p=>kdA p
 |_=>[]
where kdAs:List PA->List LKd
 | []=>[]
 |p::ps=>kdA p++kdAs ps
def kdB:PB->List LKd
 | .box ps _=>kdA.kdAs ps
 | .arr _ _=>[.l]
 | .mp=>[.m]
def kdH:List (Nat×PB)->List LKd
 | []=>[]
 |(_,b)::r=>kdB b++kdH r
def kdE:List (Nat×PA)->List LKd
 | []=>[]
 |(_,b)::r=>kdA b++kdE r
def qey(p:PArgs):List LKd:=kdA.kdAs p.as++kdH p.hp
def qzC(p:PRes):List LKd:=kdA p.v++kdH p.hp
def qzD(p:PSt):List LKd:=kdE p.tm++kdH p.hp
abbrev TyK:LKd->Type
 | .i=>Int
 | .b=>Bool
 | .s=>List UInt8
 | .l=>List AV
 | .n=>Nat
 | .m=>List (AV×AV)
abbrev Tup:List LKd->Type
 | []=>Unit
 | [k]=>TyK k
 |k::ks=>TyK k×Tup ks
abbrev qCr:List (List LKd)->Type
 | []=>Empty
 | [k]=>Tup k
 |k::ks=>Tup k⊕qCr ks
def zsH:(k:LKd)->TyK k->Lf
 | .i,x=>.i x
 | .b,x=>.b x
 | .s,x=>.s x
 | .l,x=>.l x
 | .n,x=>.n x
 | .m,x=>.m x
def znY:(k:LKd)->Lf->Option (TyK k)
 | .i,.i x=>some x
 | .b,.b x=>some x
 | .s,.s x=>some x
 | .l,.l x=>some x
 | .n,.n x=>some x
 | .m,.m x=>some x
 |_,_=>none
theorem qWV:∀{k:LKd} {x:Lf} {v:TyK k},znY k x=some v->x=zsH k v:=by
 intro k x v h;cases k<;>cases x<;>simp only[znY,jA7,reduceCtorEq]at h<;>subst h<;>rfl
def toL:(ks:List LKd)->Tup ks->List Lf
 | [],_=>[]
 | [k],v=>[zsH k v]
 |k::k'::ks,v=>zsH k v.1::toL (k'::ks) v.2
def ofL:(ks:List LKd)->List Lf->Option (Tup ks)
 | [],[]=>some ()
 | [k],[x]=>znY k x
 |k::k'::ks,x::ls=>match znY k x with
  |some y=>match ofL (k'::ks) ls with
   |some ys=>some (y,ys)
   |none=>none
  |none=>none
 |_,_=>none
theorem qx8:∀{ks:List LKd} {ls:List Lf} {v:Tup ks},ofL ks ls=some v->ls=toL ks v
 | [],[],v,_=>rfl
 | [],_::_,v,h=>by simp[ofL]at h
 | [k],[],v,h=>by simp[ofL]at h
 | [k],[x],v,h=>by simp only[ofL]at h;rw[qWV h];rfl
 | [k],_::_::_,v,h=>by simp[ofL]at h
 |k::k'::ks,[],v,h=>by simp[ofL]at h
 |k::k'::ks,x::ls,v,h=>by
  simp only[ofL]at h;split at h
  ·rename_i y hy;split at h
   ·rename_i ys hys;cases h;rw[qWV hy,qx8 hys];rfl
   ·cases h
  ·cases h
def aE(p:PArgs)(v:Tup (qey p)):List AV:=(q4T p (toL (qey p) v)).1
def aH(p:PArgs)(v:Tup (qey p)):Heap:=(q4T p (toL (qey p) v)).2
def aD(p:PArgs)(a:List AV)(h:Heap):Option (Tup (qey p)):=match zlw p a h with
 |some ls=>ofL (qey p) ls
 |none=>none
theorem zpl{p:PArgs}{a:List AV}{h:Heap}{v:Tup (qey p)}(hh:aD p a h=some v):a=aE p v/\h=aH p v:=by
 unfold aD at hh;split at hh
 ·rename_i ls hm;have h1:=q5s hm;rw[qx8 hh]at h1;exact⟨congrArg Prod.fst h1,congrArg Prod.snd h1⟩
 ·cases hh
abbrev RT(rs:List PRes):Type:=qCr (rs.map qzC)
def rE:(rs:List PRes)->RT rs->Res×Heap
 | [],v=>nomatch v
 | [r],v=>ziO r (toL (qzC r) v)
 |r::_::_,.inl v=>ziO r (toL (qzC r) v)
 |_::r'::rs,.inr v=>rE (r'::rs) v
def rD:(rs:List PRes)->Res->Heap->Option (RT rs)
 | [],_,_=>none
 | [r],x,h=>match znV r x h with
  |some ls=>ofL (qzC r) ls
  |none=>none
 |r::r'::rs,x,h=>match znV r x h with
  |some ls=>match ofL (qzC r) ls with
   |some v=>some (.inl v)
   |none=>none
  |none=>match rD (r'::rs) x h with
   |some v=>some (.inr v)
   |none=>none
theorem zlX:∀{rs:List PRes} {x:Res} {h:Heap} {v:RT rs},rD rs x h=some v->(x,h)=rE rs v
 | [],x,h,v,hh=>by simp[rD]at hh
 | [r],x,h,v,hh=>by
  simp only[rD]at hh;split at hh
  ·rename_i ls hm;rw[qWz hm,qx8 hh];rfl
  ·cases hh
 |r::r'::rs,x,h,v,hh=>by
  simp only[rD]at hh;split at hh
  ·rename_i ls hm;split at hh
   ·rename_i w hw;cases hh;rw[qWz hm,qx8 hw];rfl
   ·cases hh
  ·split at hh
   ·rename_i w hw;cases hh;exact(zlX hw).trans rfl
   ·cases hh
instance instTupI:∀ks:List LKd,Inhabited (Tup ks)
 | []=>⟨()⟩
 | [.i]=>⟨0⟩ | [.b]=>⟨false⟩ | [.s]=>⟨[]⟩ | [.l]=>⟨[]⟩ | [.n]=>⟨0⟩ | [.m]=>⟨[]⟩
 | .i::k::ks=>⟨(0,(instTupI (k::ks)).default)⟩
 | .b::k::ks=>⟨(false,(instTupI (k::ks)).default)⟩
 | .s::k::ks=>⟨([],(instTupI (k::ks)).default)⟩
 | .l::k::ks=>⟨([],(instTupI (k::ks)).default)⟩
 | .n::k::ks=>⟨(0,(instTupI (k::ks)).default)⟩
 | .m::k::ks=>⟨([],(instTupI (k::ks)).default)⟩
def rL:(rs:List PRes)->Option (RT rs)->List (Bool×Res×Heap)
 | [],_=>[]
 | [r],o=>[(sm o,ziO r (toL (qzC r) (@gv _ (instTupI _) o)))]
 |r::r'::rs,o=>(sm (pl o),ziO r (toL (qzC r) (@gv _ (instTupI _) (pl o))))::rL (r'::rs) (pr o)
end Go.Eng
namespace Go.Eng
def FE(p:PArgs)(rs:List PRes)(G:Tup (qey p)->Option (RT rs)):Ent:=fun a h=>match aD p a h with
 |some v=>rL rs (G v)
 |none=>[]
def FH(IP:Prog)(f:Nat)(p:PArgs)(rs:List PRes)(G:Tup (qey p)->Option (RT rs)):Prop:=∀v y,G v=some y->qbJ IP f (aE p v) (aH p v)=some (rE rs y)
theorem zlY:∀{rs:List PRes} {o:Option (RT rs)} {r:Res} {h:Heap},(true,r,h)∈rL rs o-> ∃y,o=some y/\rE rs y=(r,h)
 | [],o,r,h,hm=>by cases hm
 | [a],o,r,h,hm=>by
  simp only[rL,jAt,jAd]at hm;obtain⟨hb,hr⟩:=hm;exact⟨_,@q6h _ (instTupI (qzC a)) o hb.symm,hr.symm⟩
 |a::b::rs,o,r,h,hm=>by
  simp only[rL,jAc,jAd]at hm;rcases hm with⟨hb,hr⟩|hm
  ·exact⟨_,zfJ (@q6h _ (instTupI (qzC a)) (pl o) hb.symm),hr.symm⟩
  ·obtain⟨y,h1,h2⟩:=zlY hm;exact⟨_,zfK h1,h2⟩
theorem qam{IP:Prog}{f:Nat}{p:PArgs}{rs:List PRes}{G:Tup (qey p)->Option (RT rs)}(hG:FH IP f p rs G):Snd IP f (FE p rs G):=by
 intro a h r h' hm;unfold FE at hm;split at hm
 ·rename_i v hv;obtain⟨y,h1,h2⟩:=zlY hm;obtain⟨rfl,rfl⟩:=zpl hv;rw[hG _ _ h1,h2]
 ·cases hm
theorem qah{IP:Prog}{T:Tab}{L:qMB}{f:Nat}{F:Fun}{p:PArgs}{rs:List PRes}{G:Tup (qey p)->Option (RT rs)}{t:Tup (qey p)->DT (RT rs)}(hT:qan IP T)(hL:LOk IP L (loops F.body))(hF:IP.fn f=some F)
  (hb:∀v,qTx (R:=RT rs) IP (qF6 T) (qzZ L) f F (aE p v) (aH p v) (rD rs)=(t v).ev) (hG:∀v,G v=(t v).ev):FH IP f p rs G:=
 fun v _ h=>zk6 hT hF hL (fun _ _ _ h=>zlX h) (hb v) ((hG v).symm.trans h)
theorem qbL{IP:Prog}{f:Nat}{p:PArgs}{rs:List PRes}{s:Nat->Tup (qey p)->Option (RT rs)}(h:∀n,FH IP f p rs (s n)):FH IP f p rs (fun v=>qjC fun n=>s n v):=
 fun v y hv=>(qV0 hv).elim fun n hn=>h n v y hn
def hE:(hs:List PSt)->qCr (hs.map qzD)->St
 | [],v=>nomatch v
 | [r],v=>fSt r (toL (qzD r) v)
 |r::_::_,.inl v=>fSt r (toL (qzD r) v)
 |_::r'::rs,.inr v=>hE (r'::rs) v
def hD:(hs:List PSt)->St->Option (qCr (hs.map qzD))
 | [],_=>none
 | [r],s=>match mSt r s with
  |some ls=>ofL (qzD r) ls
  |none=>none
 |r::r'::rs,s=>match mSt r s with
  |some ls=>match ofL (qzD r) ls with
   |some v=>some (.inl v)
   |none=>none
  |none=>match hD (r'::rs) s with
   |some v=>some (.inr v)
   |none=>none
theorem q5a:∀{hs:List PSt} {s:St} {v:qCr (hs.map qzD)},hD hs s=some v->s=hE hs v
 | [],s,v,hh=>by simp[hD]at hh
 | [r],s,v,hh=>by
  simp only[hD]at hh;split at hh
  ·rename_i ls hm;rw[<-q9U hm,qx8 hh];rfl
  ·cases hh
 |r::r'::rs,s,v,hh=>by
  simp only[hD]at hh;split at hh
  ·rename_i ls hm;split at hh
   ·rename_i w hw;cases hh;rw[<-q9U hm,qx8 hw];rfl
   ·cases hh
  ·split at hh
   ·rename_i w hw;cases hh;exact(q5a hw).trans rfl
   ·cases hh
def exN{τ:Type}(l:List (τ->X×St))(j:Nat)(v:τ):X×St:=match l[j]? with
 |some g=>g v
 |none=>(.ret,⟨[],[],0,0⟩)
def exB{τ:Type}(l:List (τ->X×St))(j:Nat)(v:τ):Bool:=zr4 (exN l j v).1
def zkP{τ:Type}[Inhabited τ](o:Option (Nat×τ))(l:List (τ->X×St)):Nat->Nat->List (Bool×X×St)
 |_,0=>[]
 |j,n+1=>((match exB l j (gv (pj j o))with|true=>sm (pj j o)|false=>false),(exN l j (gv (pj j o))).1,(exN l j (gv (pj j o))).2)::zkP o l (j+1) n
theorem qT0{τ:Type}[Inhabited τ]{o:Option (Nat×τ)}{l:List (τ->X×St)}{x:X}{s:St}:∀{j n:Nat},(true,x,s)∈zkP o l j n-> ∃k w,o=some (k,w)/\(x,s)=exN l k w/\zr4 (exN l k w).1=true
 |j,0,h=>by simp[zkP]at h
 |j,n+1,h=>by
  simp only[zkP,jAc,jAd]at h;rcases h with⟨hb,hx,hs⟩|h
  ·cases hq:exB l j (gv (pj j o))with
   |false=>rw[hq]at hb;cases hb
   |true=>
    rw[hq]at hb;exact⟨j,_,zsd (q6h hb.symm),by rw[hx,hs],hq⟩
  ·exact qT0 h
def LE{τ:Type}[Inhabited τ](dec:St->Option τ)(lo:τ->Option (Nat×τ))(l:List (τ->X×St)):qbQ:=fun s=>match dec s with
 |some v=>zkP (lo v) l 0 l.length
 |none=>[]
def cvX{τ:Type}(l:List (τ->X×St))(v:τ):DT (Rd τ)->DT (Rx τ)
 | .no=>.no
 | .at (.next w)=>.at (.next w)
 | .at (.done j)=>.at (.out (exN l j v).1 (exN l j v).2)
 | .br b x y=>.br b (cvX l v x) (cvX l v y)
theorem qTP{τ:Type}{l:List (τ->X×St)}{v:τ}:∀{t:DT (Rd τ)},cvX l v t=cvD (fun j=>exN l j v) t
 | .no=>rfl
 | .at (.next w)=>rfl
 | .at (.done j)=>rfl
 | .br b x y=>by simp only[cvX,cvD,qTP (t:=x),qTP (t:=y)]
theorem qav{IP:Prog}{T:Tab}{L:qMB}{keep:List Nat}{c:ICode}{hs:List PSt}(I:Inhabited (qCr (hs.map qzD))){ex:List (qCr (hs.map qzD)->X×St)}{st:qCr (hs.map qzD)->DT (Rd (qCr (hs.map qzD)))}{lo:qCr (hs.map qzD)->Option (Nat×qCr (hs.map qzD))}(hT:qan IP T)(hL:LOk IP L (loops c))
  (hlo:∀v,lo v=qaf (fun v=>(st v).ev) v) (hn:∀v,norm (hk keep) (hE hs v)=some (hE hs v))
  (hst:∀v,qjA IP (qF6 T) (qzZ L) c (hE hs v) (zeN keep (hD hs))=(cvX ex v (st v)).ev):Told IP keep c (LE (hD hs) lo ex):=by
 have key:∀v j w,lo v=some (j,w)->zr4 (exN ex j w).1=true->qmw IP keep c (hE hs v)=some (exN ex j w):=by
  intro v j w h ho;rw[hlo]at h;have h2:∀v,qjA IP (qF6 T) (qzZ L) c (hE hs v) (zeN keep (hD hs))=cv (fun j=>exN ex j v) ((st v).ev):=fun v=>(hst v).trans (by rw[qTP,qTO])
  replace h:=qgy.1 h
  obtain⟨n,h⟩:=h
  induction n generalizing v with
  |zero=>simp[qj0]at h
  |succ n ih=>
   simp only[qj0]at h;split at h
   ·rename_i v' hs';have hx:=h2 v;rw[hs']at hx;obtain⟨x,s',h3,h4⟩:=qcg (fun R=>qy8 hT) (qz0 hL) hx;cases x with
    |normal=>
     simp only[zeN]at h4;split at h4
     ·rename_i s1 hs1;split at h4
      ·rename_i v2 hv2;cases h4;have:=q5a hv2;subst this;exact qLD (hn v) h3 (qxZ (by rw[hs1,hn v']) (ih v' h))
      ·cases h4
     ·cases h4
    |_=>
     simp only[zeN]at h4;split at h4<;>cases h4
   ·rename_i j' hs';cases h;have hx:=h2 w;rw[hs']at hx;obtain⟨x,s',h3,h4⟩:=qcg (fun R=>qy8 hT) (qz0 hL) hx;cases x with
    |normal=>
     simp only[zeN]at h4;split at h4
     ·split at h4<;>cases h4
     ·cases h4
    |_=>
     simp only[zeN]at h4;split at h4
     ·rename_i x2 s2 ho;simp only[jA7,Rx.out.injEq]at h4;obtain⟨h5,h6⟩:=h4;exact qLD (hn w) h3 (by simp only[ho,h5,h6])
     ·cases h4
   ·cases h
 refine⟨fun s x s' hm=>?_,fun s hne=>?_⟩
 ·unfold LE at hm;split at hm
  ·rename_i v hv;obtain⟨k,w,h1,h2,h3⟩:=qT0 hm;rw[q5a hv,key v k w h1 h3,<-h2]
  ·cases hm
 ·unfold LE at hne;split at hne
  ·rename_i v hv;rw[q5a hv];exact hn v
  ·exact absurd rfl hne
end Go.Eng
namespace Go.Eng
section
variable {T:TypeId->List Sh}
theorem qb6{d:Nat}{k:IntKind}{x:AV}(h:Fit maxLen T d (.int k) x):∃n,x= .int k n/\(Lit.int k n).wf=true:=by
 cases d with
 |zero=>exact h.elim
 |succ d=>exact h
theorem qqn{d:Nat}{x:AV}(h:Fit maxLen T d .bool x):∃b,x= .bool b:=by
 cases d with
 |zero=>exact h.elim
 |succ d=>exact h
theorem qgw{d:Nat}{x:AV}(h:Fit maxLen T d .str x):∃s,x= .str s/\s.length<=big:=by
 cases d with
 |zero=>exact h.elim
 |succ d=>obtain⟨n,h,hl⟩:=h;exact⟨n,h,jAz hl (by decide)⟩
theorem qHS{α τ:Type}{f:τ->α}{p:τ->Prop}:∀{l:List α},(∀e∈l,∃x,e=f x/\p x)-> ∃m:List τ,l=m.map f/\ ∀x∈m,p x
 | [],_=>⟨[],rfl,by simp⟩
 |e::l,h=>by
  obtain⟨x,rfl,hx⟩:=h e (by simp);obtain⟨m,rfl,hm⟩:=qHS (l:=l) fun e he=>h e (by simp[he])
  refine⟨x::m,rfl,fun y hy=>?_⟩;rcases jAc.1 hy with rfl|hy
  ·exact hx
  ·exact hm y hy
theorem qqo{d sz:Nat}{t:TypeId}{x:AV}{τ:Type}{av:τ->AV}{p:τ->Prop}(h:Fit maxLen T d (.slice sz true t) x)
  (he:∀d xs,qkG (Fit maxLen T d) (T t) xs-> ∃y:τ,.agg xs=av y/\p y):∃l:List τ,x= .view sz (l.map av)/\l.length<=big/\ ∀y∈l,p y:=by
 cases d with
 |zero=>exact h.elim
 |succ d=>
  obtain⟨es,rfl,hl,hx⟩:=h;obtain⟨m,rfl,hm⟩:=qHS (f:=av) (p:=p) (l:=es) fun e hx'=>by
   obtain⟨xs,rfl,hf⟩:=hx e hx';exact he d xs hf
  exact⟨m,rfl,jAz (by simpa using hl) (by decide),hm⟩
end
end Go.Eng

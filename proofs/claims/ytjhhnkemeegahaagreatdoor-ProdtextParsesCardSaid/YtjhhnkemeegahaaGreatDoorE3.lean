/- A machine of plain values, and that what it says holds of the program. -/
import Derived.Test.YtjhhnkemeegahaaGreatDoorE2
import Derived.ProofKit
import Derived.Deep.Slices
import Derived.OpenShut
import Derived.KernelRfl
set_option linter.all false
namespace Go.Eng
set_option linter.unusedSectionVars false
variable [Globs]
inductive Sh where
 |int (k:IntKind)
 |bool
 |str
 |slice (sz:Nat) (agg:Bool) (t:TypeId)
def qZO(P:Program)(sh:TypeId->Option (List Sh)):List Field->Nat->Option (List Sh)
 | [],_=>some []
 |f::fs,off=>if f.offset=off then match sh f.type with
   |some cs=>if cs.length=P.cellsOf f.type then match qZO P sh fs (off+cs.length)with
    |some r=>some (cs++r)
    |none=>none
    else none
   |none=>none
  else none
def zkA(cs:List Sh):Nat->List Sh
 |0=>[]
 |n+1=>cs++zkA cs n
def shS(P:Program):Nat->TypeId->Option (List Sh)
 |0,_=>none
 |n+1,t=>match P.underlying t with
  |some .bool=>some [.bool]
  |some (.int k)=>some [.int k]
  |some .string=>some [.str]
  |some (.slice e)=>(qb1 P e).map fun g=>[.slice (P.cellsOf e) g e]
  |some (.struct fs)=>match qZO P (shS P n) fs.toList 0 with
   |some cs=>if cs.length=P.cellsOf t then some cs else none
   |none=>none
  |some (.array k e)=>match shS P n e with
   |some cs=>if cs.length=P.cellsOf e/\k*cs.length=P.cellsOf t then some (zkA cs k)else none
   |none=>none
  |_=>none
def shT(P:Program)(t:TypeId):List Sh:=(shS P 12 t).getD []
def qes:List Sh->List TypeId
 | []=>[]
 | .slice _ _ t::cs=>t::qes cs
 |_::cs=>qes cs
def zs3(P:Program)(ts:List TypeId):Bool:=ts.all fun t=>match shS P 12 t with
 |some cs=>decide (cs.length=P.cellsOf t)&&decide (0<cs.length)&&(match qb1 P t with|some g=>g||decide (cs.length=1)|none=>false)&&(qes cs).all fun e=>ts.contains e
 |none=>false
def qla(f:Sh->AV->Prop):List Sh->List AV->Prop
 | [],xs=>xs= []
 |c::cs,xs=>∃x r,xs=x::r/\f c x/\qla f cs r
def Fit(N:Nat)(T:TypeId->List Sh):Nat->Sh->AV->Prop
 |0,_,_=>False
 |d+1,c,v=>match c with
  | .int k=>∃n,v= .int k n/\(Lit.int k n).wf=true
  | .bool=>∃b,v= .bool b
  | .str=>∃s,v= .str s/\s.length<=N
  | .slice sz true t=>∃es,v= .view sz es/\es.length<=N/\ ∀e,e∈es-> ∃xs,e= .agg xs/\qla (Fit N T d) (T t) xs
  | .slice sz false t=>∃es,v= .view sz es/\es.length<=N/\ ∀e,e∈es->qla (Fit N T d) (T t) [e]
theorem qmi{f:Sh->AV->Prop}:∀{cs:List Sh} {xs:List AV},qla f cs xs->xs.length=cs.length
 | [],xs,h=>by simp[qla]at h;subst h;rfl
 |c::cs,xs,h=>by
  simp only[qla]at h;obtain⟨x,r,rfl,_,h⟩:=h;simp[qmi h]
theorem qd9{f g:Sh->AV->Prop}(hfg:∀c x,f c x->g c x):∀{cs:List Sh} {xs:List AV},qla f cs xs->qla g cs xs
 | [],xs,h=>h
 |c::cs,xs,h=>by
  simp only[qla]at h ⊢;obtain⟨x,r,he,hx,h⟩:=h;exact⟨x,r,he,hfg _ _ hx,qd9 hfg h⟩
theorem qmj{N:Nat}{T:TypeId->List Sh}:∀(d:Nat) (c:Sh) (x:AV),Fit N T d c x->Fit N T (d+1) c x
 |0,c,x,h=>by simp[Fit]at h
 |d+1,c,x,h=>by
  cases c with
  |slice sz g t=>
   cases g
   ·simp only[Fit]at h ⊢;obtain⟨es,he,hl,h⟩:=h;exact⟨es,he,hl,fun e hm=>qd9 (qmj d) (h e hm)⟩
   ·simp only[Fit]at h ⊢;obtain⟨es,he,hl,h⟩:=h;exact⟨es,he,hl,fun e hm=>by obtain⟨xs,h1,h2⟩:=h e hm;exact⟨xs,h1,qd9 (qmj d) h2⟩⟩
  |_=>simpa only[Fit]using h
theorem qMG{N:Nat}{T:TypeId->List Sh}{d:Nat}{c:Sh}{x:AV}(h:Fit N T d c x):qbn x=true:=by
 cases d with
 |zero=>simp[Fit]at h
 |succ d=>
  cases c with
  |slice sz g t=>
   cases g<;>simp only[Fit]at h<;>obtain⟨es,rfl,_⟩:=h<;>rfl
  |_=>
   simp only[Fit]at h;obtain⟨n,h⟩:=h
   first
    |(subst h;rfl)
    |(obtain⟨rfl,_⟩:=h;rfl)
theorem qlK{N:Nat}{T:TypeId->List Sh}{d:Nat}:∀{cs:List Sh} {xs:List AV},qla (Fit N T d) cs xs-> ∀x∈xs,qbn x=true
 | [],xs,h,x,hx=>by simp[qla]at h;subst h;simp at hx
 |c::cs,xs,h,x,hx=>by
  simp only[qla]at h;obtain⟨y,r,rfl,hy,h⟩:=h;rcases jAc.1 hx with rfl|hx
  ·exact qMG hy
  ·exact qlK h x hx
theorem qlJ{f:Sh->AV->Prop}:∀{cs ds:List Sh} {xs ys:List AV},qla f cs xs->qla f ds ys->qla f (cs++ds) (xs++ys)
 | [],ds,xs,ys,h,h'=>by simp[qla]at h;subst h;simpa using h'
 |c::cs,ds,xs,ys,h,h'=>by
  simp only[qla]at h;obtain⟨x,r,rfl,hx,h⟩:=h;simp only[jAk,qla];exact⟨x,r++ys,rfl,hx,qlJ h h'⟩
theorem qkW(a b:List Sh):qes (a++b)=qes a++qes b:=by
 induction a with
 |nil=>rfl
 |cons c a ih=>cases c<;>simp[qes,ih]
section
variable {H:Type} {enc:TypeId×Value->H} {P:Program} {w:World} {base:Nat} {spare:Nat->Bool} {held:Bool} {I:Imm}
theorem q2K{b o n:Nat}{xs:List AV}{cs:List Value}(hr:qaQ w I xs m0 cs)(hok:∀x∈xs,qbn x=true)(hc:∀i,i<n->w.cell? (ad b (o+i))=cs[i]?)(hl:xs.length=n)(hI:∀i,i<n->I b (o+i)):At w I xs b o:=by
 intro i c hi;have hlt:i<xs.length:=(jAg.1 hi).1;obtain⟨v,hv,hrel⟩:=qcr hr i c hi;exact⟨hI i (by omega),hok c (jAl hi),v,by rw[hc i (by omega)];exact hv,hrel⟩
theorem qZP{a:Addr}{v:Value}(h:w.cell? a=some v):a=ad a.block a.off:=by
 obtain⟨b,o,s⟩:=a;cases s with
 |none=>rfl
 |some s=>
  simp only[World.cell?]at h;split at h<;>simp at h
theorem zhI(a:Addr)(n:Nat)(h:a=ad a.block a.off):a.add n=ad a.block (a.off+n):=by
 rw[h];exact qiN _ _ _
theorem zei{a:Addr}{n i:Nat}(h:i<n):MemPlace.cell a.block (a.off+i)∈MemPlace.row a n:=by
 simp only[MemPlace.row,jCd,jBq];exact⟨i,h,rfl⟩
theorem qio{ts:List TypeId}(hT:zs3 P ts=true):∀(fuel:Nat) {n:Nat} {t:TypeId} {sh:List Sh},shS P n t=some sh->(∀e∈qes sh,e∈ts)-> ∀{cs:List Value} {x:DataW H×List MemPlace},DataW.trod enc P w base spare held fuel t cs=some x->(∀b o,.cell b o∈x.2->I b o) ->
  ∃xs,qla (Fit maxLen (shT P) fuel) sh xs/\qaQ w I xs m0 cs
 |0,n,t,sh,hs,he,cs,x,hx,hI=>by simp[DataW.trod]at hx
 |fuel+1,0,t,sh,hs,he,cs,x,hx,hI=>by simp[shS]at hs
 |fuel+1,n+1,t,sh,hs,he,cs,x,hx,hI=>by
  simp only[shS]at hs;split at hs
  ·rename_i hu;cases hs;obtain⟨b,rfl,rfl⟩:=DataW.trod_bool hu hx;exact⟨[.bool b],by simp[qla,Fit],by simp[qaQ,Rel]⟩
  ·rename_i k hu;cases hs;obtain⟨i,rfl,rfl,hw⟩:=DataW.trod_int hu hx;exact⟨[.int k i],by simp[qla,Fit,hw],by simp[qaQ,Rel]⟩
  ·rename_i hu;cases hs;obtain⟨s,rfl,rfl,hw⟩:=DataW.trod_string hu hx;refine⟨[.str s.data.toList],?_,?_⟩
   ·simp only[qla,Fit];exact⟨_,[],rfl,⟨_,rfl,by simpa using hw⟩,rfl⟩
   ·simp[qaQ,Rel]
  ·rename_i e hu;simp only[jA3]at hs;obtain⟨g,hg,rfl⟩:=hs;have hem:e∈ts:=he e (by simp[qes]);have hok:=jAb.1 hT e hem;split at hok
   ·rename_i ec hec;simp only[jA1,jA6,hg]at hok;obtain⟨⟨⟨hlen,hpos⟩,hg1⟩,hel⟩:=hok;have hsh:shT P e=ec:=by simp[shT,hec]
    have hsub:∀t∈qes ec,t∈ts:=fun t ht=>by simpa using jAb.1 hel t ht
    ·rcases DataW.trod_slice hu hx with⟨rfl,rfl⟩|⟨a,len,cap,elems,rest,fu,hfu,rfl,rfl,hb,hle,hcap,hlen',hels,_,_⟩
     ·refine⟨[.view (P.cellsOf e) []],?_,?_⟩
      ·cases g<;>simp[qla,Fit]
      ·simp only[qaQ,Rel];exact⟨_,[],rfl,⟨none,0,by simp,by simp,.inl rfl,fun _=>rfl⟩,rfl⟩
     ·obtain rfl:fuel=fu:=by omega
      have hlm:len<=elems.length+rest.length:=by omega
      generalize hm:elems.length+rest.length=m at *;have each:∀i,i<len-> ∃xs:List AV,qla (Fit maxLen (shT P) fuel) ec xs/\ ∃cs',w.cells? base (a.add (i*P.cellsOf e)) (P.cellsOf e)=some cs'/\qaQ w I xs m0 cs':=by
       intro i hi;have key:=hels i hi;rw[jAh (by omega)]at key;obtain⟨cs',hc',hd⟩:=Option.bind_eq_some_iff.1 key;obtain⟨xs,h1,h2⟩:=qio hT fuel hec hsub hd fun b o hp=>hI b o (List.mem_append_right _ (jBu.2 ⟨_,jBo _ (jAi (show i<elems.length by omega)),hp⟩))
       exact⟨xs,h1,cs',hc',h2⟩
      obtain⟨F,hF⟩:=Deep.choose_lt each
      let pk:List AV->AV:=fun xs=>if g then .agg xs else xs.headD .junk
      have hpk:∀i,i<len->qai (pk (F i))=F i/\(g=true\/(F i).length=1):=by
       intro i hi;obtain⟨h1,cs',hc',h2⟩:=hF i hi;have hln:=qmi h1;cases g with
       |true=>exact⟨rfl,.inl rfl⟩
       |false=>
        have h1c:ec.length=1:=by simpa using hg1
        have hx1:(F i).length=1:=by omega
        refine⟨?_,.inr hx1⟩
        match hFi:F i,hx1 with
        | [y],_=>
         simp only[pk];have hy:=qlK h1 y (by rw[hFi];simp);cases y<;>first|rfl|simp[qbn]at hy
      have hspot:0<len->a=ad a.block a.off:=by
       intro h0;obtain⟨_,cs',hc',_⟩:=hF 0 h0;obtain⟨_,hcl,hcc⟩:=World.cells?_some hc';have h0c:0<P.cellsOf e:=by omega
       have:=hcc 0 h0c;have hlt:0<cs'.length:=by omega
       rw[jAh hlt]at this;have:=qZP this;simpa[Addr.add]using this
      have hflat:∀k,k<=len-> ∀o,(∀i,i<k->At w I (F i) a.block (o+i*P.cellsOf e))->At w I (flat ((List.range k).map fun i=>pk (F i))) a.block o:=by
       intro k
       induction k with
       |zero=>intro _ o _;intro i c hc;simp[flat]at hc
       |succ k ih=>
        intro hk o hall;rw[List.range_succ,jCi,qdR,qrt];refine⟨ih (by omega) o fun i hi=>hall i (by omega),?_⟩;have hfl:(flat ((List.range k).map fun i=>pk (F i))).length=k*P.cellsOf e:=by
         rw[qcb (sz:=P.cellsOf e) fun x hx=>?_]
         ·simp
         ·obtain⟨i,hi,rfl⟩:=jCd.1 hx;have hi':i<k:=by simpa using hi
          rw[(hpk i (by omega)).1,qmi (hF i (by omega)).1,hlen]
        rw[hfl];have:flat ([k].map fun i=>pk (F i))=F k:=by simp[flat,(hpk k (by omega)).1]
        rw[this];exact hall k (by omega)
      refine⟨[.view (P.cellsOf e) ((List.range len).map fun i=>pk (F i))],?_,?_⟩
      ·simp only[qla];refine⟨_,[],rfl,?_,rfl⟩;cases g with
       |true=>
        simp only[Fit];refine⟨_,rfl,by simp;omega,fun x hx=>?_⟩;obtain⟨i,hi,rfl⟩:=jCd.1 hx;exact⟨F i,rfl,by rw[hsh];exact(hF i (by simpa using hi)).1⟩
       |false=>
        simp only[Fit];refine⟨_,rfl,by simp;omega,fun x hx=>?_⟩;obtain⟨i,hi,rfl⟩:=jCd.1 hx;have hi':i<len:=by simpa using hi
        have h1:=(hpk i hi').2;have hg:=(hF i hi').1;rw[hsh]
        match hFi:F i,h1.resolve_left (by simp)with
        | [y],_=>rw[hFi]at hg;simpa[pk,hFi]using hg
      ·simp only[qaQ,Rel];refine⟨_,[],rfl,⟨some a,cap,by simp,by simp;omega,?_,fun hn=>by cases hn⟩,rfl⟩;rcases Nat.eq_zero_or_pos len with h0|h0
       ·exact .inl (by simp[h0])
       ·refine .inr ⟨a.block,a.off,by rw[<-hspot h0],qko.2 ⟨fun x hx=>?_,hflat len (jAj _) a.off fun i hi=>?_⟩⟩
        ·obtain⟨i,hi,rfl⟩:=jCd.1 hx;have hi':i<len:=by simpa using hi
         rw[(hpk i hi').1,qmi (hF i hi').1,hlen]
        ·obtain⟨hg,cs',hc',hr⟩:=hF i hi;obtain⟨_,hcl,hcc⟩:=World.cells?_some hc';refine q2K hr (qlK hg) (n:=P.cellsOf e) (fun j hj=>?_) (by rw[qmi hg,hlen]) fun j hj=>?_
         ·rw[<-hcc j hj,zhI a _ (hspot h0),qiN]
         ·have hlt:i*P.cellsOf e+j<m*P.cellsOf e:=by
           calc i*P.cellsOf e+j<i*P.cellsOf e+P.cellsOf e:=by omega
            _=(i+1)*P.cellsOf e:=by rw[jBe,Nat.one_mul]
            _<=m*P.cellsOf e:=jBc _ (by omega)
          have:=hI a.block (a.off+(i*P.cellsOf e+j)) (jBo _ (zei hlt));rwa[<-jCn]at this
   ·cases hok
  ·rename_i fs hu;split at hs
   ·rename_i sc hsc;split at hs
    ·rename_i hl;cases hs;obtain⟨ys,fu,hfu,rfl,hcl,hyl,hf⟩:=DataW.trod_struct hu hx;obtain rfl:fuel=fu:=by omega
     have key:∀(fl:List Field) (k off:Nat) (sc:List Sh),fs.toList.drop k=fl->qZO P (shS P n) fl off=some sc->(∀e∈qes sc,e∈ts)->off+sc.length=cs.length-> ∃xs,qla (Fit maxLen (shT P) (fuel+1)) sc xs/\qaQ w I xs m0 (cs.drop off):=by
      intro fl
      induction fl with
      |nil=>
       intro k off sc _ h1 _ h2;simp[qZO]at h1;subst h1;refine⟨[],by simp[qla],?_⟩;have:cs.drop off= []:=by apply List.drop_of_length_le;simp at h2;omega
       rw[this];simp[qaQ]
      |cons f fl ih=>
       intro k off sc hk h1 hel h2;simp only[qZO]at h1;split at h1
       ·rename_i hoff;split at h1
        ·rename_i c1 hc1;split at h1
         ·rename_i hl1;split at h1
          ·rename_i r hr;cases h1;have hfk:fs[k]? = some f:=by
            have h0:=congrArg (·[0]?) hk;simpa using h0
           have hdrop:fs.toList.drop (k+1)=fl:=by
            have h0:=congrArg (List.drop 1) hk;simpa using h0
           have hlt:k<ys.length:=by rw[hyl];exact(jBf.1 hfk).1
           have hd:=hf k f hfk;rw[jAh hlt]at hd;rw[qkW]at hel;obtain⟨xs,g1,g2⟩:=qio hT fuel hc1 (fun e he=>hel e (jBo _ he)) hd fun b o hp=>hI b o (jBu.2 ⟨_,jAi hlt,hp⟩)
           obtain⟨xs',g3,g4⟩:=ih (k+1) _ _ hdrop hr (fun e he=>hel e (List.mem_append_right _ he)) (by simp at h2;omega);refine⟨xs++xs',qlJ (qd9 (qmj _) g1) g3,?_⟩;have hsplit:cs.drop off=(cs.drop off).take c1.length++cs.drop (off+c1.length):=by
            rw[<-List.drop_drop,jCc]
           rw[hsplit];rw[<-hl1,hoff]at g2;exact qdX g2 g4
          ·cases h1
         ·cases h1
        ·cases h1
       ·cases h1
     have:=key fs.toList 0 0 _ rfl hsc he (by omega);simpa using this
    ·cases hs
   ·cases hs
  ·rename_i k e hu;split at hs
   ·rename_i ec hec;split at hs
    ·rename_i hl;cases hs;obtain⟨hl1,hl2⟩:=hl;obtain⟨ys,fu,hfu,rfl,hcl,hyl,hf⟩:=DataW.trod_array hu hx;obtain rfl:fuel=fu:=by omega
     have hzero:k=0\/ ∀e∈qes ec,e∈ts:=by
      cases k with
      |zero=>exact .inl rfl
      |succ k=>exact .inr fun e h=>he e (by simp only[zkA,qkW,jAo];exact .inl h)
     have key:∀(j i:Nat),i+j=k-> ∃xs,qla (Fit maxLen (shT P) (fuel+1)) (zkA ec j) xs/\qaQ w I xs m0 (cs.drop (i*ec.length)):=by
      intro j
      induction j with
      |zero=>
       intro i hi;refine⟨[],by simp[zkA,qla],?_⟩;have hik:i=k:=by omega
       have:cs.drop (i*ec.length)= []:=by apply List.drop_of_length_le;rw[hik,hl2];omega
       rw[this];simp[qaQ]
      |succ j ih=>
       intro i hi;have hlt:i<ys.length:=by omega
       have hd:=hf i (by omega);rw[jAh hlt]at hd;obtain⟨xs,g1,g2⟩:=qio hT fuel hec (hzero.resolve_left (by omega)) hd fun b o hp=>hI b o (jBu.2 ⟨_,jAi hlt,hp⟩)
       obtain⟨xs',g3,g4⟩:=ih (i+1) (by omega);refine⟨xs++xs',qlJ (qd9 (qmj _) g1) g3,?_⟩;have hsplit:cs.drop (i*ec.length)=(cs.drop (i*ec.length)).take ec.length++cs.drop ((i+1)*ec.length):=by
        rw[jBe,Nat.one_mul,<-List.drop_drop,jCc]
       rw[hsplit];rw[<-hl1]at g2;exact qdX g2 g4
     have:=key k 0 (by omega);simpa using this
    ·cases hs
   ·cases hs
  ·cases hs
end
end Go.Eng
namespace Go.Eng
set_option linter.unusedSectionVars false
variable [Globs]
def qKa(P:Program):List TypeId->Option (List (Bool×List Sh))
 | []=>some []
 |t::ts=>match qb1 P t,qKa P ts with
  |some g,some r=>if g=true\/(shT P t).length=1 then some ((g,shT P t)::r)else none
  |_,_=>none
def FitP(f:Sh->AV->Prop):List (Bool×List Sh)->List AV->Prop
 | [],avs=>avs= []
 |(true,cs)::ps,avs=>∃xs r,avs= .agg xs::r/\qla f cs xs/\FitP f ps r
 |(false,cs)::ps,avs=>∃x r,avs=x::r/\qla f cs [x]/\FitP f ps r
theorem qsF{f g:Sh->AV->Prop}(hfg:∀c x,f c x->g c x):∀{ps:List (Bool×List Sh)} {xs:List AV},FitP f ps xs->FitP g ps xs
 | [],xs,h=>h
 |(true,cs)::ps,xs,h=>by
  obtain⟨ys,r,he,h1,h2⟩:=h;exact⟨ys,r,he,qd9 hfg h1,qsF hfg h2⟩
 |(false,cs)::ps,xs,h=>by
  obtain⟨y,r,he,h1,h2⟩:=h;exact⟨y,r,he,qd9 hfg h1,qsF hfg h2⟩
theorem q7E{N:Nat}{T:TypeId->List Sh}{a b:Nat}(h:a<=b){c:Sh}{x:AV}(hx:Fit N T a c x):Fit N T b c x:=by
 induction h with
 |refl=>exact hx
 |step _ ih=>exact qmj _ _ _ ih
section
variable {H:Type} {enc:TypeId×Value->H} {P:Program} {w:World} {base:Nat} {spare:Nat->Bool} {held:Bool} {I:Imm}
theorem zdX{W:World}{r:Reach}{b:Nat}{t:TypeId}{v:Value}(hg:qb1 P t=some false)(hv:Value.okWide P W r b t v):v.cells= #[v]:=by
 simp only[qb1,jA3]at hg;obtain⟨d,hd,hda⟩:=hg;cases v with
 |agg cs=>cases d<;>simp_all[Value.okWide,Cell.okWide,Cell.ok]
 |_=>rfl
theorem zjE{W:World}{r:Reach}{b:Nat}{t:TypeId}{v:Value}(hg:qb1 P t=some true)(hv:Value.okWide P W r b t v):∃cs:Array Value,v= .agg cs:=by
 simp only[qb1,jA3]at hg;obtain⟨d,hd,hda⟩:=hg;cases d<;>simp at hda
 ·simp only[Value.okWide,hd]at hv;obtain⟨cs,h,_⟩:=hv;exact⟨cs,h⟩
 ·simp only[Value.okWide,hd]at hv;obtain⟨cs,h,_⟩:=hv;exact⟨cs,h⟩
theorem qHa{qs:List TypeId}(hT:zs3 P qs=true){W:World}{r:Reach}{b0:Nat}:∀{ts:List TypeId} {ps:List (Bool×List Sh)} {vs:List Value} {ds:List (DataW H)} {pl:List MemPlace},(∀t∈ts,t∈qs)->qKa P ts=some ps->DataW.TrodAll enc P w base spare held ts vs ds pl ->
  (∀(j:Nat) t v,ts[j]? = some t->vs[j]? = some v->Value.okWide P W r b0 t v)->(∀b o,.cell b o∈pl->I b o)-> ∃d avs,FitP (Fit maxLen (shT P) d) ps avs/\qaQ w I avs m0 vs
 | [],ps,[],[],pl,_,hp,_,_,_=>by
  simp[qKa]at hp;subst hp;exact⟨0,[],rfl,by simp[qaQ]⟩
 | [],ps,_::_,_,pl,_,_,h,_,_=>by simp[DataW.TrodAll]at h
 | [],ps,[],_::_,pl,_,_,h,_,_=>by simp[DataW.TrodAll]at h
 |_::_,ps,[],_,pl,_,_,h,_,_=>by simp[DataW.TrodAll]at h
 |_::_,ps,_::_,[],pl,_,_,h,_,_=>by simp[DataW.TrodAll]at h
 |t::ts,ps,v::vs,d::ds,pl,hq,hp,h,hv,hI=>by
  simp only[DataW.TrodAll]at h;obtain⟨p,q,⟨fu,hd⟩,hrest,rfl⟩:=h;simp only[qKa]at hp;split at hp
  ·rename_i g rr hg hr;split at hp
   ·cases hp;have hok:=jAb.1 hT t (hq t (by simp));split at hok
    ·rename_i cs hcs;have hsh:shT P t=cs:=by simp[shT,hcs]
     simp only[jA1]at hok;obtain⟨_,hel⟩:=hok;obtain⟨xs,h1,h2⟩:=qio hT fu hcs (fun e he=>by simpa using jAb.1 hel e he) hd fun b o hm=>hI b o (jBo _ hm)
     obtain⟨d',avs,h3,h4⟩:=qHa hT (fun t ht=>hq t (by simp[ht])) hr hrest (fun j t v ht hv'=>hv (j+1) t v (by simpa using ht) (by simpa using hv')) fun b o hm=>hI b o (List.mem_append_right _ hm)
     have h1':=qd9 (fun c x=>q7E (Nat.le_max_left fu d')) h1;have h3':=qsF (fun c x=>q7E (jCq fu d')) h3;have hok:=hv 0 t v rfl rfl;rw[hsh];refine⟨max fu d',?_⟩;cases g with
     |true=>
      obtain⟨ca,rfl⟩:=zjE hg hok;refine⟨.agg xs::avs,⟨xs,avs,rfl,h1',h3'⟩,?_⟩;simp only[qaQ,Rel];exact⟨_,vs,rfl,⟨ca.toList,by simp,h2⟩,h4⟩
     |false=>
      have hcell:=zdX hg hok;rw[hcell]at h2
      match xs,h2 with
      | [x],h2=>
       simp only[qaQ]at h2;obtain⟨v',vs',he,h2,_⟩:=h2;cases he;refine⟨x::avs,⟨x,avs,rfl,h1',h3'⟩,?_⟩;simp only[qaQ];exact⟨v,vs,rfl,h2,h4⟩
      | [],h2=>simp[qaQ]at h2
      |_::_::_,h2=>
       have:=qa7 h2;simp at this
    ·cases hok
   ·cases hp
  ·cases hp
theorem qT2{IP:Prog}(hP:qP4 P IP){f:FuncId}{avs:List AV}{W:World}{vs:List Value}(hI:∀b o,I b o->b<W.heap.size)(hg:GlobAt W I)(hr:qaQ W I avs m0 vs){n:Nat}(hn:(qaF IP n).1 f avs []=some (.ret (.bool true),[]))(hf:(IP.fn f).isSome=true:=by kernel_rfl) :
  Calls P f vs.toArray W fun e W'=>e= .returned (.bool true)/\RowKit.Below W.heap.size W W':=by
 have H0:HeapAt W I m0 []:=⟨fun i b hb=>by simp[qak]at hb,fun i j a b L L' hi=>by simp[qak]at hi,hI,hg⟩;have hC:Calls P f vs.toArray W (qKN W I m0 [] (.ret (.bool true)) []):=by
  cases n with
  |zero=>simp[qaF]at hn
  |succ n=>
   simp only[qaF]at hn;obtain⟨F,hF⟩:=jCh.1 hf;rw[hF]at hn;exact(qdb (qtm hP n).1 (qtm hP n).2 (hP.1 f F hF) hn).2 W I m0 vs H0 (fun _ _=>rfl) hr
 refine hC.mono ?_;rintro e W' ⟨I',m',hA,u,rfl,hu⟩;simp only[Rel]at hu;subst hu;refine⟨rfl,hA.stays.out.1,hA.stays.out.2.2,hA.stays.out.2.1,hA.stays.size,fun k hk=>hA.frame k hk ?_⟩;rintro⟨i,a,L,hi,_⟩;simp[qak]at hi
theorem qm9(hl:laidOutB P=true){W W':World}{sp':Nat->Bool}:∀{ts:List TypeId} {vs:List Value} {ds:List (DataW H)} {ps:List MemPlace},(∀t∈ts,P.readableRec t=true/\t<P.types.size) ->
  DataW.TrodAll enc P W base (fun _=>true) true ts vs ds ps->(∀p∈ps,W.sameAt W' p)->(∀p∈ps,sp' p.block=true)->DataW.TrodAll enc P W' base sp' true ts vs ds ps
 | [],[],[],ps,_,h,_,_=>h
 | [],_::_,_,ps,_,h,_,_=>by simp[DataW.TrodAll]at h
 | [],[],_::_,ps,_,h,_,_=>by simp[DataW.TrodAll]at h
 |_::_,[],_,ps,_,h,_,_=>by simp[DataW.TrodAll]at h
 |_::_,_::_,[],ps,_,h,_,_=>by simp[DataW.TrodAll]at h
 |t::ts,v::vs,d::ds,ps,ht,h,hs,hsp=>by
  simp only[DataW.TrodAll]at h ⊢;obtain⟨p,q,hd,hrest,rfl⟩:=h;exact⟨p,q,WideElems.Trod_stays hl (ht t (by simp)).1 (ht t (by simp)).2 hd (fun x hx=>hs x (jBo _ hx)) fun x hx=>hsp x (jBo _ hx),
   qm9 hl (fun t' h'=>ht t' (by simp[h'])) hrest (fun x hx=>hs x (List.mem_append_right _ hx)) fun x hx=>hsp x (List.mem_append_right _ hx),rfl⟩
theorem q3o{f:Func}{s:ChangeSpec}{fresh handsOn again:Bool}{W W':World}{args:Array Value}{ds gs:List (DataW H)}{before:List MemPlace}{tb:TypeId}(hl:laidOutB P=true)(hread:∀t∈f.params.toList,P.readableRec t=true/\t<P.types.size)
  (hvars:s.vars= []) (hres:f.resultTypes= #[tb]) (htb:P.underlying tb=some .bool) (hs1:(s.fn H (ds++gs)).results= [.lit (.bool true)]) (hs2:(s.fn H (ds++gs)).args=ds) (hs3:(s.fn H (ds++gs)).vars= [])
  (hW:DataW.Whole enc P f.params.toList s.vars false W args.toList ds gs before) (hb:RowKit.Below W.heap.size W W'):s.post enc P f false fresh handsOn again W args (.bool true) W':=by
 have hlt:=hW.lt;have hW0:=hW;obtain⟨p,q,hA,hV,rfl,hz,hn⟩:=hW;rw[hvars]at hV;have hq:q= []:=by
  cases gs with
  |nil=>simpa[DataW.TrodVars]using hV
  |cons=>simp[DataW.TrodVars]at hV
 subst hq;have hsame:∀x∈p,W.sameAt W' x:=fun x hx=>hb.same (by have:=hlt x (jBo _ hx);simpa using this)
 have hr1:∀(b:Nat) (sp:Nat->Bool) (hd:Bool),DataW.TrodAll enc P W' b sp hd f.resultTypes.toList ((Value.bool true).resultList f.resultTypes.size) (s.fn H (ds++gs)).results []:=by
  intro b sp hd;rw[hres,hs1];exact⟨[],[],⟨1,by simp[Value.resultList,Value.cells,DataW.trod,htb]⟩,rfl,rfl⟩
 have hr2:∀sp:Nat->Bool,(∀x∈p,sp x.block=true)->DataW.TrodAll enc P W' 0 sp true f.params.toList args.toList (s.fn H (ds++gs)).args p:=by
  intro sp hsp;rw[hs2];exact qm9 hl hread hA hsame hsp
 have hr3:∀sp:Nat->Bool,DataW.TrodVars enc P W' sp s.vars (s.fn H (ds++gs)).vars []:=by
  intro sp;rw[hvars,hs3];rfl
 have hold:∀x∈p,decide (x.block<W.heap.size)=true:=fun x hx=>by simpa using hlt x (jBo _ hx)
 refine⟨ds,gs,p++[],[],p,[],hW0,hr1 _ _ _,hr2 _ hold,hr3 _,hb.frame _,fun _=>⟨?_,_,_,([]++p)++[],⟨[]++p,[],ChangeShapes.trodAll_append (hr2 _ fun _ _=>rfl) (hr1 _ _ _),hr3 _,rfl,?_,fun h=>by cases h⟩,?_⟩⟩
 ·intro j t r hj hr;rw[hres]at hj hr
  match j,hj,hr with
  |0,hj,hr=>
   simp[Value.resultList]at hj hr;subst hj;subst hr;simp[Value.okWide,htb,Cell.okWide,Cell.ok]
 ·intro b off hp;have hp':MemPlace.cell b off∈p++[]:=by simpa using hp
  rw[hb.frozen (p:=⟨b,off,none⟩) (hlt _ hp')];exact hz b off hp'
 ·intro x hx _;simpa using hx
end
end Go.Eng
namespace Go.Eng
section
variable {IP:Prog}
def LeC(c c':qa2):Prop:=∀f a h r,c f a h=some r->c' f a h=some r
def LeL(l l':qgp):Prop:=∀k c s r,l k c s=some r->l' k c s=some r
theorem qvp{c c':qa2}(hc:LeC c c'){h:Heap}{nx f:Nat}{args:List AV}{r:Res×Heap×Bool}(hs:qkP IP c h nx f args=some r):qkP IP c' h nx f args=some r:=by
 simp only[qkP]at hs ⊢;split at hs
 ·cases hs
 ·rename_i args' roots hp;split at hs
  ·rename_i moved shwn h1 h2;split at hs
   ·rename_i hd;split at hs
    ·cases hs
    ·rename_i r0 h0 hcl;simp only[h1,h2,hd,jB2,hc _ _ _ _ hcl];exact hs
   ·cases hs
  ·cases hs
theorem qyL{c c':qa2}(hc:LeC c c'){nx:Nat}{ev:Opd->AV}{h:Heap}{io:IOp}{r:Res×Heap×Bool}(hs:opS IP c nx ev h io=some r):opS IP c' nx ev h io=some r:=by
 cases io<;>try exact hs
 case call f xs=>exact qvp hc hs
 case callv x xs=>
  simp only[opS]at hs ⊢;split at hs
  ·exact qvp hc hs
  ·cases hs
theorem qwV{c c':qa2}(hc:LeC c c'){nx:Nat}{o:IOper}{e:Env}{h:Heap}{s:Step}(hs:qcU IP c nx o e h=some s):qcU IP c' nx o e h=some s:=by
 simp only[qcU]at hs ⊢;split at hs
 ·cases hs
 ·exact hs
 ·split at hs
  ·cases hs
  ·rename_i r hr;split at hs
   ·cases hs
   ·rename_i v out w ho;simp only[qyL hc ho];exact hs
   ·rename_i v out w ho;simp only[qyL hc ho];exact hs
theorem qlT{c c':qa2}(hc:LeC c c'):∀{ops:List IOper} {e:Env} {h:Heap} {nx:Nat} {log:List Step} {r:X×Env×Heap×List Step},qcL IP c ops e h nx log=some r->qcL IP c' ops e h nx log=some r
 | [],e,h,nx,log,r,hs=>hs
 |o::ops,e,h,nx,log,r,hs=>by
  simp only[qcL]at hs ⊢;cases hq:qcU IP c nx o e h with
  |none=>simp[hq]at hs
  |some s=>
   rw[qwV hc hq];rw[hq]at hs;cases s with
   |pan a b d=>exact hs
   |skip=>exact qlT hc hs
   |did a b d f=>exact qlT hc hs
theorem qlS{c c':qa2}(hc:LeC c c'){base:Nat}:∀{ops:List IOper} {i:Nat} {e:Env} {h:Heap} {log:List Step} {r:Option AV×Env×Heap×List Step},qdI IP c base i ops e h log=some r->qdI IP c' base i ops e h log=some r
 | [],i,e,h,log,r,hs=>hs
 |o::ops,i,e,h,log,r,hs=>by
  simp only[qdI]at hs ⊢;cases hq:qcU IP c (base+16*i) o e h with
  |none=>simp[hq]at hs
  |some s=>
   rw[qwV hc hq];rw[hq]at hs;simp only at hs ⊢;split at hs
   ·exact hs
   ·split at hs
    ·rename_i ht;rw[jAr ht];exact qlS hc hs
    ·cases hs
theorem qvb{c c':qa2}(hc:LeC c c'){ops:List IOper}{d:Option (List (List Nat))}{s:St}{r:X×St}(hs:qbv IP c ops d s=some r):qbv IP c' ops d s=some r:=by
 simp only[qbv]at hs ⊢;split at hs
 ·split at hs
  ·cases hs
  ·rename_i q;rw[qlT hc q];exact hs
 ·split at hs
  ·cases hs
  ·rename_i q;simp only[qlS hc q];exact hs
  ·rename_i q;simp only[qlS hc q];exact hs
theorem qjd{c c':qa2}(hc:LeC c c'){l l':qgp}(hl:LeL l l'):∀{ic:ICode} {s:St} {r:X×St},qbY IP c l ic s=some r->qbY IP c' l' ic s=some r:=by
 intro ic
 induction ic with
 |skip=>intro s r h;exact h
 |region ops d=>intro s r h;exact qvb hc h
 |seq a b iha ihb=>
  intro s r h;simp only[qbY]at h ⊢;split at h
  ·rename_i s1 h1;rw[iha h1];exact ihb h
  ·rename_i hne;rw[iha h];split
   ·rename_i s1 he;cases he;exact absurd h (hne s1)
   ·rfl
 |cond x a b iha ihb=>
  intro s r h;simp only[qbY]at h ⊢;split at h
  ·exact iha h
  ·exact ihb h
  ·cases h
 |block id a ih=>
  intro s r h;simp only[qbY]at h ⊢;split at h
  ·rename_i j s1 h1;rw[ih h1];exact h
  ·rename_i hne;rw[ih h];split
   ·rename_i j s1 he;cases he;exact absurd h (hne j s1)
   ·rfl
 |loop k a ih=>intro s r h;exact hl _ _ _ _ h
 |exit id=>intro s r h;exact h
 |ret=>intro s r h;exact h
theorem qAN{c c':qa2}(hc:LeC c c'){l l':qgp}(hl:LeL l l'){f:Nat}{F:Fun}{args:List AV}{h:Heap}{r:Res×Heap}(hs:body IP c l f F args h=some r):body IP c' l' f F args h=some r:=by
 simp only[body]at hs ⊢;cases hq:qbY IP c l F.body ⟨params 0 args,wH IP f h,h.length,h.length⟩with
 |none=>simp[hq]at hs
 |some q=>rw[qjd hc hl hq];rw[hq]at hs;exact hs
theorem qo1:∀n,LeC (qaF IP n).1 (qaF IP (n+1)).1/\LeL (qaF IP n).2 (qaF IP (n+1)).2
 |0=>⟨fun f a h r hr=>by simp[qaF]at hr,fun k c s r hr=>by simp[qaF]at hr⟩
 |n+1=>by
  obtain⟨h1,h2⟩:=qo1 n;constructor
  ·intro f a h r hr;have e1:(qaF IP (n+1)).1 f a h=match IP.fn f with
    |some F=>body IP (qaF IP n).1 (qaF IP n).2 f F a h
    |none=>match IP.spec f with
     |some g=>g a h
     |none=>match IP.seen f with
      |some s=>s.g (qaF IP n).1 a h
      |none=>none:=rfl
   have e2:(qaF IP (n+1+1)).1 f a h=match IP.fn f with
    |some F=>body IP (qaF IP (n+1)).1 (qaF IP (n+1)).2 f F a h
    |none=>match IP.spec f with
     |some g=>g a h
     |none=>match IP.seen f with
      |some s=>s.g (qaF IP (n+1)).1 a h
      |none=>none:=rfl
   rw[e1]at hr;rw[e2];split at hr
   ·exact qAN h1 h2 hr
   ·split at hr
    ·exact hr
    ·split at hr
     ·rename_i s hs;exact s.mono _ _ h1 _ _ _ hr
     ·cases hr
  ·intro k c s r hr;have e1:∀m,(qaF IP (m+1)).2 k c s=match norm (hk k) s with
    |none=>none
    |some s=>match qbY IP (qaF IP m).1 (qaF IP m).2 c s with
     |some (.normal,s)=>(qaF IP m).2 k c s
     |some (x,s)=>qyM k x s
     |none=>none:=fun _=>rfl
   rw[e1]at hr ⊢;split at hr
   ·cases hr
   ·rename_i s1 hn;split at hr
    ·rename_i s2 hx;simp only[qjd h1 h2 hx];exact h2 _ _ _ _ hr
    ·rename_i x s2 hne hx;simp only[qjd h1 h2 hx];cases x with
     |normal=>exact absurd rfl (hne)
     |_=>exact hr
    ·cases hr
theorem qbI{n m:Nat}(h:n<=m):LeC (qaF IP n).1 (qaF IP m).1/\LeL (qaF IP n).2 (qaF IP m).2:=by
 induction h with
 |refl=>exact⟨fun _ _ _ _ h=>h,fun _ _ _ _ h=>h⟩
 |step _ ih=>
  obtain⟨h1,h2⟩:=qo1 (IP:=IP) _;exact⟨fun f a h r hr=>h1 _ _ _ _ (ih.1 _ _ _ _ hr),fun k c s r hr=>h2 _ _ _ _ (ih.2 _ _ _ _ hr)⟩
open Classical in
noncomputable def qba(IP:Prog):qa2:=fun f a h=>if hx:∃n r,(qaF IP n).1 f a h=some r then(qaF IP (Classical.choose hx)).1 f a h else none
open Classical in
noncomputable def qkR(IP:Prog):qgp:=fun k c s=>if hx:∃n r,(qaF IP n).2 k c s=some r then(qaF IP (Classical.choose hx)).2 k c s else none
theorem qcd{f:Nat}{a:List AV}{h:Heap}{r:Res×Heap}:qba IP f a h=some r ↔ ∃n,(qaF IP n).1 f a h=some r:=by
 constructor
 ·intro hr;simp only[qba]at hr;split at hr
  ·exact⟨_,hr⟩
  ·cases hr
 ·rintro⟨n,hn⟩;have hx:∃n r,(qaF IP n).1 f a h=some r:=⟨n,r,hn⟩;simp only[qba,dif_pos hx];obtain⟨r',hr'⟩:=Classical.choose_spec hx;rw[hr'];rcases Nat.le_total n (Classical.choose hx)with hle|hle
  ·rw[(qbI hle).1 _ _ _ _ hn]at hr';exact hr'.symm
  ·have:=(qbI hle).1 _ _ _ _ hr';rw[hn]at this;exact this.symm
theorem qhv{k:List Nat}{c:ICode}{s:St}{r:X×St}:qkR IP k c s=some r ↔ ∃n,(qaF IP n).2 k c s=some r:=by
 constructor
 ·intro hr;simp only[qkR]at hr;split at hr
  ·exact⟨_,hr⟩
  ·cases hr
 ·rintro⟨n,hn⟩;have hx:∃n r,(qaF IP n).2 k c s=some r:=⟨n,r,hn⟩;simp only[qkR,dif_pos hx];obtain⟨r',hr'⟩:=Classical.choose_spec hx;rw[hr'];rcases Nat.le_total n (Classical.choose hx)with hle|hle
  ·rw[(qbI hle).2 _ _ _ _ hn]at hr';exact hr'.symm
  ·have:=(qbI hle).2 _ _ _ _ hr';rw[hn]at this;exact this.symm
theorem qAR{h:Heap}{nx f:Nat}{args:List AV}{r:Res×Heap×Bool}(hs:qkP IP (qba IP) h nx f args=some r):∃n0,∀n,n0<=n->qkP IP (qaF IP n).1 h nx f args=some r:=by
 have hs0:=hs;simp only[qkP]at hs;split at hs
 ·cases hs
 ·rename_i args' roots hp;split at hs
  ·rename_i moved shwn h1 h2;split at hs
   ·rename_i hd;split at hs
    ·cases hs
    ·rename_i r0 h0 hcl;obtain⟨n0,hn0⟩:=qcd.1 hcl;refine⟨n0,fun n hn=>?_⟩;have:=(qbI hn).1 _ _ _ _ hn0;simp only[qkP,hp,h1,h2,hd,jB2,this];exact hs
   ·cases hs
  ·cases hs
theorem qVb{nx:Nat}{ev:Opd->AV}{h:Heap}{io:IOp}{r:Res×Heap×Bool}(hs:opS IP (qba IP) nx ev h io=some r):∃n0,∀n,n0<=n->opS IP (qaF IP n).1 nx ev h io=some r:=by
 cases io<;>try exact⟨0,fun n _=>hs⟩
 case call f xs=>exact qAR hs
 case callv x xs=>
  simp only[opS]at hs ⊢;split at hs
  ·exact qAR hs
  ·cases hs
theorem qCA{nx:Nat}{o:IOper}{e:Env}{h:Heap}{s:Step}(hs:qcU IP (qba IP) nx o e h=some s):∃n0,∀n,n0<=n->qcU IP (qaF IP n).1 nx o e h=some s:=by
 simp only[qcU]at hs ⊢;split at hs
 ·cases hs
 ·exact⟨0,fun n _=>hs⟩
 ·split at hs
  ·cases hs
  ·rename_i r hr;split at hs
   ·cases hs
   ·rename_i v out w ho;obtain⟨n0,h0⟩:=qVb ho;exact⟨n0,fun n hn=>by simp only[h0 n hn];exact hs⟩
   ·rename_i v out w ho;obtain⟨n0,h0⟩:=qVb ho;exact⟨n0,fun n hn=>by simp only[h0 n hn];exact hs⟩
theorem qn4:∀{ops:List IOper} {e:Env} {h:Heap} {nx:Nat} {log:List Step} {r:X×Env×Heap×List Step},qcL IP (qba IP) ops e h nx log=some r-> ∃n0,∀n,n0<=n->qcL IP (qaF IP n).1 ops e h nx log=some r
 | [],e,h,nx,log,r,hs=>⟨0,fun n _=>hs⟩
 |o::ops,e,h,nx,log,r,hs=>by
  simp only[qcL]at hs ⊢;cases hq:qcU IP (qba IP) nx o e h with
  |none=>simp[hq]at hs
  |some s=>
   obtain⟨n0,h0⟩:=qCA hq;rw[hq]at hs;cases s with
   |pan a b d=>exact⟨n0,fun n hn=>by rw[h0 n hn];exact hs⟩
   |skip=>
    obtain⟨n1,h1⟩:=qn4 hs;exact⟨max n0 n1,fun n hn=>by rw[h0 n (by omega)];exact h1 n (by omega)⟩
   |did a b d f=>
    obtain⟨n1,h1⟩:=qn4 hs;exact⟨max n0 n1,fun n hn=>by rw[h0 n (by omega)];exact h1 n (by omega)⟩
theorem qn3{base:Nat}:∀{ops:List IOper} {i:Nat} {e:Env} {h:Heap} {log:List Step} {r:Option AV×Env×Heap×List Step},qdI IP (qba IP) base i ops e h log=some r-> ∃n0,∀n,n0<=n->qdI IP (qaF IP n).1 base i ops e h log=some r
 | [],i,e,h,log,r,hs=>⟨0,fun n _=>hs⟩
 |o::ops,i,e,h,log,r,hs=>by
  simp only[qdI]at hs ⊢;cases hq:qcU IP (qba IP) (base+16*i) o e h with
  |none=>simp[hq]at hs
  |some s=>
   obtain⟨n0,h0⟩:=qCA hq;rw[hq]at hs;simp only at hs;split at hs
   ·rename_i hp;exact⟨n0,fun n hn=>by rw[h0 n hn];simp only[hp];exact hs⟩
   ·rename_i hp;split at hs
    ·rename_i ht;obtain⟨n1,h1⟩:=qn3 hs;exact⟨max n0 n1,fun n hn=>by rw[h0 n (by omega)];simp only[hp];rw[jAr ht];exact h1 n (by omega)⟩
    ·cases hs
theorem qy0{ops:List IOper}{d:Option (List (List Nat))}{s:St}{r:X×St}(hs:qbv IP (qba IP) ops d s=some r):∃n0,∀n,n0<=n->qbv IP (qaF IP n).1 ops d s=some r:=by
 simp only[qbv]at hs ⊢;cases d with
 |none=>
  simp only at hs ⊢;split at hs
  ·cases hs
  ·rename_i q;obtain⟨n0,h0⟩:=qn4 q;exact⟨n0,fun n hn=>by rw[h0 n hn];exact hs⟩
 |some bf=>
  simp only at hs ⊢;split at hs
  ·cases hs
  ·rename_i q;obtain⟨n0,h0⟩:=qn3 q;exact⟨n0,fun n hn=>by simp only[h0 n hn];exact hs⟩
  ·rename_i q;obtain⟨n0,h0⟩:=qn3 q;exact⟨n0,fun n hn=>by simp only[h0 n hn];exact hs⟩
theorem qHu:∀{ic:ICode} {s:St} {r:X×St},qbY IP (qba IP) (qkR IP) ic s=some r-> ∃n0,∀n,n0<=n->qbY IP (qaF IP n).1 (qaF IP n).2 ic s=some r:=by
 intro ic
 induction ic with
 |skip=>intro s r h;exact⟨0,fun n _=>h⟩
 |region ops d=>intro s r h;exact qy0 h
 |seq a b iha ihb=>
  intro s r h;simp only[qbY]at h ⊢;split at h
  ·rename_i s1 h1;obtain⟨n0,h0⟩:=iha h1;obtain⟨n1,h1⟩:=ihb h;exact⟨max n0 n1,fun n hn=>by rw[h0 n (by omega)];exact h1 n (by omega)⟩
  ·rename_i hne;obtain⟨n0,h0⟩:=iha h;refine⟨n0,fun n hn=>?_⟩;rw[h0 n hn];split
   ·rename_i s1 he;cases he;exact absurd h (hne s1)
   ·rfl
 |cond x a b iha ihb=>
  intro s r h;simp only[qbY]at h ⊢;split at h
  ·exact iha h
  ·exact ihb h
  ·cases h
 |block id a ih=>
  intro s r h;simp only[qbY]at h ⊢;split at h
  ·rename_i j s1 h1;obtain⟨n0,h0⟩:=ih h1;exact⟨n0,fun n hn=>by rw[h0 n hn];exact h⟩
  ·rename_i hne;obtain⟨n0,h0⟩:=ih h;refine⟨n0,fun n hn=>?_⟩;rw[h0 n hn];split
   ·rename_i j s1 he;cases he;exact absurd h (hne j s1)
   ·rfl
 |loop k a ih=>
  intro s r h;obtain⟨n0,h0⟩:=qhv.1 h;exact⟨n0,fun n hn=>(qbI hn).2 _ _ _ _ h0⟩
 |exit id=>intro s r h;exact⟨0,fun n _=>h⟩
 |ret=>intro s r h;exact⟨0,fun n _=>h⟩
theorem qvq{f:Nat}{g:List AV->Heap->Option (Res×Heap)}(hF:IP.fn f=none)(hS:IP.spec f=some g){a:List AV}{h:Heap}{r:Res×Heap}(hr:g a h=some r):qba IP f a h=some r:=
 qcd.2 ⟨1,by simp only[qaF,hF,hS];exact hr⟩
theorem qj1{f:Nat}{s:Seen}(hF:IP.fn f=none)(hS:IP.spec f=none)(hs:IP.seen f=some s){a:List AV}{h:Heap}{r:Res×Heap}{n:Nat}(hr:s.g (qaF IP n).1 a h=some r):qba IP f a h=some r:=
 qcd.2 ⟨n+1,by simp only[qaF,hF,hS,hs];exact hr⟩
theorem qHd{f:Nat}{F:Fun}(hF:IP.fn f=some F){a:List AV}{h:Heap}{r:Res×Heap}(hb:body IP (qba IP) (qkR IP) f F a h=some r):qba IP f a h=some r:=by
 simp only[body]at hb;cases hq:qbY IP (qba IP) (qkR IP) F.body ⟨params 0 a,wH IP f h,h.length,h.length⟩with
 |none=>simp[hq]at hb
 |some q=>
  obtain⟨n0,h0⟩:=qHu hq;refine qcd.2 ⟨n0+1,?_⟩;simp only[qaF,hF,body,h0 n0 (jAj _)];rw[hq]at hb;exact hb
theorem qpt{k:List Nat}{c:ICode}{s s1:St}(hn:norm (hk k) s=some s1){x:X}{s2:St}(hx:qbY IP (qba IP) (qkR IP) c s1=some (x,s2)){r:X×St}(hr:(match x with | .normal=>qkR IP k c s2|x=>qyM k x s2)=some r):qkR IP k c s=some r:=by
 obtain⟨n0,h0⟩:=qHu hx;cases x with
 |normal=>
  obtain⟨n1,h1⟩:=qhv.1 hr;refine qhv.2 ⟨max n0 n1+1,?_⟩;simp only[qaF,hn,h0 (max n0 n1) (by omega)];exact(qbI (by omega)).2 _ _ _ _ h1
 |_=>
  refine qhv.2 ⟨n0+1,?_⟩;simp only[qaF,hn,h0 n0 (jAj _)];exact hr
end
end Go.Eng
namespace Go.Eng
def qal(s:List UInt8)(i:Int):Int:=((qgU s i).getD 0).toNat
def inB(n:Nat)(i:Int):Bool:=decide (0<=i)&&decide (i<n)
theorem qRu{α:Type}{l:List α}{i:Int}(h:inB l.length i=true):∃x,qgU l i=some x:=by
 simp only[inB,jA1,jA6]at h;have:i.toNat<l.length:=by omega
 exact⟨l[i.toNat],by simp[qgU,h.1,this]⟩
def qUE:Option AV->Nat
 |some (.int _ n)=>n.toNat
 |_=>0
def qnH(len:Nat):Option AV->Nat
 |some (.int _ n)=>n.toNat
 |_=>len
def leB(n:Int)(m:Nat):Bool:=decide (0<=n)&&decide (n<=m)
def zgv(len cap:Nat)(lo hi:Option AV):Bool:=
 (match hi with
  |none=>true
  |some (.int _ n)=>leB n cap
  |_=>false) &&
 (match lo with
  |none=>true
  |some (.int _ n)=>leB n (qnH len hi)
  |_=>false)
theorem qmb{len cap:Nat}{lo hi:Option AV}(h:zgv len cap lo hi=true):qgA len cap lo hi=some (qUE lo,qnH len hi):=by
 simp only[zgv,jA1]at h;obtain⟨h1,h2⟩:=h;have e1:qMJ len cap hi=some (qnH len hi):=by
  cases hi with
  |none=>rfl
  |some v=>cases v<;>simp_all[leB,qMJ,qnH]
 simp only[qgA,e1];cases lo with
 |none=>rfl
 |some v=>cases v<;>simp_all[leB,zdP,qUE]
def zgx{α:Type}(es:List α)(lo hi:Option AV):List α:=match lo,hi with
 |none,none=>es
 |none,some h=>es.take (qnH es.length (some h))
 |some l,none=>es.drop (qUE (some l))
 |some l,some h=>(es.drop (qUE (some l))).take (qnH es.length (some h)-qUE (some l))
theorem qRO{α:Type}(es:List α)(lo hi:Option AV):zgx es lo hi=(es.drop (qUE lo)).take (qnH es.length hi-qUE lo):=by
 cases lo<;>cases hi
 ·simp[zgx,qUE,qnH]
 ·simp[zgx,qUE]
 ·rename_i v;simp only[zgx];rw[show qnH es.length none=es.length from rfl,jBb (by simp)]
 ·rfl
abbrev Alt:=Bool×(Res×Heap×Bool)
def room(n bytes:Nat):Bool:=decide (n*bytes<=lim)
def leO(off n:Nat):Bool:=match off with
 |0=>true
 |k+1=>decide (k+1<=n)
theorem zjI{off n:Nat}(h:leO off n=true):off<=n:=by
 cases off
 ·omega
 ·exact jBd h
def zqz(h:Heap)(sz:Nat):AV->Option (Bool×List AV)
 | .nils _=>some (true,[])
 | .view sz' es=>some (decide (sz'=sz),es)
 | .own id off lo=>match qak h id with
  |some (.arr sz' es _)=>match lo with
   |some len=>some (decide (sz'=sz)&&decide (off+len<=es.length),qCG es off (some len))
   |none=>some (decide (sz'=sz),qA0 es off)
  |_=>none
 |_=>none
theorem zes{h:Heap}{sz:Nat}{v:AV}{es:List AV}(hs:zqz h sz v=some (true,es)):qy2 h sz v=some es:=by
 cases v<;>simp only[zqz,qy2]at hs ⊢ <;>try(simp at hs;done)
 case nils=>simpa using hs
 case view sz' es'=>simp at hs;simp[hs]
 case own id off lo=>
  split at hs
  ·rename_i sz' es' fz hl;rw[hl];cases lo with
   |none=>simp at hs;simp[hs]
   |some len=>simp at hs;simp[hs]
  ·cases hs
def qxs(h:Heap)(nx sz bytes:Nat)(s:AV)(b:Bool)(src:List AV):List Alt:=
  match s with
  | .nils ⟨_,.non⟩=>[(decide (src.length=0)&&b,.ret s,h,true)]
  | .nils _=>[(decide (src.length=0)&&b,.ret s,h,true),(decide (src.length≠0)&&(b&&room src.length bytes),.ret (.own nx 0 none),qi3 h nx (.arr sz src false),true)]
  | .own id off lo=>match qak h id with
    |some (.arr sz' es false)=>match lo with
      |none=>
        [(decide (src.length=0)&&(decide (sz'=sz)&&b),.ret s,h,true),
         (decide (src.length≠0)&&(decide (sz'=sz)&&(b&&(leO off es.length&&room (qmq es.length off none+src.length) bytes))),.ret (.own nx 0 none),qi3 (qHI h id) nx (.arr sz (qA0 es off++src) false),true)]
      |some len=>
        [(decide (src.length=0)&&(decide (sz'=sz)&&b),.ret s,h,true),
         (decide (src.length≠0)&&(decide (sz'=sz)&&(decide (off+len+src.length<=es.length)&&b)),.ret (.own id off (some (len+src.length))),qi3 h id (.arr sz (es.take (off+len)++src++es.drop (off+len+src.length)) false),true),
         (decide (src.length≠0)&&(decide (sz'=sz)&&(decide (es.length<off+len+src.length)&&(b&&(decide (off+len<=es.length)&&room (len+src.length) bytes)))),.ret (.own nx 0 none),qi3 (qHI h id) nx (.arr sz (qCG es off (some len)++src) false),true)]
    |_=>[]
  | .view _ _=>[(decide (src.length=0)&&b,.ret s,h,true)]
  |_=>[]
def ownB(num off:Nat)(lo:Option Nat)(i:Int):Bool:=match off,lo with
 |0,none=>inB num i
 |_,_=>inB (qmq num off lo) i&&decide (off+i.toNat<num)
theorem ownB_of{num off:Nat}{lo:Option Nat}{i:Int}(h:ownB num off lo i=true):0<=i/\i<qmq num off lo/\off+i.toNat<num:=by
 unfold ownB at h;split at h
 ·simp only[inB,jA1,jA6]at h;exact⟨h.1,h.2,by omega⟩
 ·simp only[inB,jA1,jA6]at h;exact⟨h.1.1,h.1.2,h.2⟩
def zn6(num off:Nat)(lo:Option Nat)(hi:Option AV):Bool:=match off,lo,hi with
 |0,none,none=>true
 |_,_,_=>decide (off+qnH (qmq num off lo) hi<=num)
theorem zdb{num off:Nat}{lo:Option Nat}{hi:Option AV}(h:zn6 num off lo hi=true):off+qnH (qmq num off lo) hi<=num:=by
 unfold zn6 at h;split at h
 ·simp[qnH,qmq]
 ·exact jBd h
def alts(nx:Nat)(ev:Opd->AV)(h:Heap):IOp->List Alt
 | .idxs x i=>match ev x,ev i with
  | .str s,.int _ j=>[(inB s.length j,.ret (.int .u8 (qal s j)),h,false)]
  |_,_=>[]
 | .slc sz x lo hi=>match ev x with
  | .view sz' es=>[(decide (sz'=sz)&&zgv es.length es.length (qbR ev lo) (qbR ev hi),.ret (.view sz (zgx es (qbR ev lo) (qbR ev hi))),h,false)]
  | .own id off len=>match qak h id with
   |some (.arr sz' es _)=>[(decide (sz'=sz)&&(zgv (qmq es.length off len) (qmq es.length off none) (qbR ev lo) (qbR ev hi)&&zn6 es.length off len (qbR ev hi)),
     .ret (.own id (off+qUE (qbR ev lo)) (zmY len hi (qnH (qmq es.length off len) (qbR ev hi)-qUE (qbR ev lo)))),h,false)]
   |_=>[]
  | .nils z=>[(zgv 0 0 (qbR ev lo) (qbR ev hi),.ret (.nils z),h,false)]
  |_=>[]
 | .slcs x lo hi=>match ev x with
  | .str s=>[(zgv s.length s.length (qbR ev lo) (qbR ev hi),.ret (.str (zgx s (qbR ev lo) (qbR ev hi))),h,false)]
  |_=>[]
 | .iaddr sz _ x i=>match ev x,ev i with
  | .own id off len,.int _ i=>match qak h id with
   |some (.arr sz' es _)=>[(decide (sz'=sz)&&ownB es.length off len i,.ret (.ref id (zm5 off i) 0),h,false)]
   |_=>[]
  |_,_=>[]
 | .eqn k neg x y=>match k,ev x,ev y with
  | .s,.view _ es,.nils ⟨_,.nil⟩=>[(decide (es.length≠0),.ret (.bool neg),h,false)]
  | .s,.nils ⟨_,.nil⟩,.view _ es=>[(decide (es.length≠0),.ret (.bool neg),h,false)]
  |_,_,_=>[]
 | .app sz bytes s x=>match zqz h sz (ev x)with
  |some (b,src)=>qxs h nx sz bytes (ev s) b src
  |none=>[]
 | .mks sz bytes z l c=>match ev l,ev c with
  | .int _ l',.int _ c'=>[(decide (0<=l')&&decide (l'<=c')&&room c'.toNat bytes&&decide (c'<=4611686018427387904),.ret (.own nx 0 (if q4b l c then none else some l'.toNat)),qi3 h nx (.arr sz (List.replicate c'.toNat (nz z)) false),false)]
  |_,_=>[]
 | .bin .quo x y=>match ev x,ev y with
  | .int k a,.int k' b=>[(decide (k=k')&&decide (b≠0),.ret (.int k (k.wrap (a.tdiv b))),h,false)]
  |_,_=>[]
 | .bin .rem x y=>match ev x,ev y with
  | .int k a,.int k' b=>[(decide (k=k')&&decide (b≠0),.ret (.int k (a.tmod b)),h,false)]
  |_,_=>[]
 | .bin .shl x y=>match ev x,ev y with
  | .int k a,.int _ b=>[(decide (0<=b),.ret (.int k (k.wrap (a*2^(min b.toNat k.bits)))),h,false)]
  |_,_=>[]
 | .bin .shr x y=>match ev x,ev y with
  | .int k a,.int _ b=>[(decide (0<=b),.ret (.int k (a.fdiv (2^(min b.toNat k.bits)))),h,false)]
  |_,_=>[]
 | .bin .add x y=>match ev x,ev y with
  | .str a,.str b=>[(decide (a.length+b.length<=4611686018427387904),.ret (.str (a++b)),h,false)]
  |_,_=>[]
 |_=>[]
theorem qKP{h:Heap}{nx sz bytes:Nat}{s:AV}{src:List AV}{b:Bool}{r:Res×Heap×Bool}(hm:(true,r)∈qxs h nx sz bytes s b src):b=true/\ ∃v h',qKO h nx sz bytes s src=some (v,h')/\r=(.ret v,h',true):=by
 cases s<;>simp only[qxs]at hm<;>try(simp at hm;done)
 case nils q=>
  obtain⟨q,k⟩:=q;cases k<;>simp only[qxs]at hm
  case non=>
   simp only[jAc,jAd,jAp,jBp]at hm;obtain⟨hb,rfl⟩:=hm;simp only[jBv (a:=true),jA1,jA6]at hb;exact⟨hb.2,_,_,by simp[qKO,hb.1],rfl⟩
  all_goals
   simp only[jAc,jAd,jAp,jBp]at hm;rcases hm with⟨hb,rfl⟩|⟨hb,rfl⟩<;>simp only[jBv (a:=true),jA1,jA6,room]at hb
   ·exact⟨hb.2,_,_,by simp[qKO,hb.1],rfl⟩
   ·obtain⟨h1,h0,h2⟩:=hb;exact⟨h0,_,_,by simp only[qKO];rw[jAm h1,jAr h2],rfl⟩
 case view sz' es=>
  simp only[jAc,jAd,jAp,jBp]at hm;obtain⟨hb,rfl⟩:=hm;simp only[jBv (a:=true),jA1,jA6]at hb;exact⟨hb.2,_,_,by simp only[qKO];rw[jAr hb.1],rfl⟩
 case own id off lo=>
  split at hm
  ·rename_i sz' es hl;cases lo with
   |none=>
    simp only[jAc,jAd,jAp,jBp]at hm;rcases hm with⟨hb,rfl⟩|⟨hb,rfl⟩<;>simp only[jBv (a:=true),jA1,jA6,room]at hb
    ·obtain⟨h3,h1,h0⟩:=hb;exact⟨h0,_,_,by simp only[qKO,hl];rw[jAr h1,jAr h3],rfl⟩
    ·obtain⟨h3,h1,h0,h2,h5⟩:=hb;exact⟨h0,_,_,by simp only[qKO,hl];rw[jAr h1,jAm h3,jAr ⟨zjI h2,h5⟩],rfl⟩
   |some len=>
    simp only[jAc,jAd,jAp,jBp]at hm;rcases hm with⟨hb,rfl⟩|⟨hb,rfl⟩|⟨hb,rfl⟩<;>simp only[jBv (a:=true),jA1,jA6,room]at hb
    ·obtain⟨h3,h1,h0⟩:=hb;exact⟨h0,_,_,by simp only[qKO,hl];rw[jAr h1,jAr h3],rfl⟩
    ·obtain⟨h3,h1,h4,h0⟩:=hb;exact⟨h0,_,_,by simp only[qKO,hl];rw[jAr h1,jAm h3,jAr (by omega),jAr h4],rfl⟩
    ·obtain⟨h3,h1,h4,h0,h2,h5⟩:=hb;exact⟨h0,_,_,by simp only[qKO,hl];rw[jAr h1,jAm h3,jAr h2,jAm (by omega),jAr h5],rfl⟩
  ·simp at hm
theorem zaF{P:Prog}{call:qa2}{nx:Nat}{ev:Opd->AV}{h:Heap}{io:IOp}{r:Res×Heap×Bool}(hm:(true,r)∈alts nx ev h io):opS P call nx ev h io=some r:=by
 cases io<;>simp only[alts]at hm<;>try(simp at hm;done)
 case idxs x i=>
  split at hm
  ·rename_i s k j hx hi;simp only[jAc,jAd,jAp,jBp]at hm;obtain⟨hb,rfl⟩:=hm;obtain⟨c,hc⟩:=qRu hb.symm;simp[opS,hx,hi,hc,qal,val]
  ·simp at hm
 case slc sz x lo hi=>
  split at hm
  ·rename_i sz' es hx;simp only[jAc,jAd,jAp,jBp]at hm;obtain⟨hb,rfl⟩:=hm;simp only[jBv (a:=true),jA1,jA6]at hb;simp[opS,hx,qmb hb.2,hb.1,val,qRO]
  ·rename_i id off len hx;split at hm
   ·rename_i sz' es fz hl;simp only[jAc,jAd,jAp,jBp]at hm;obtain⟨hb,rfl⟩:=hm;simp only[jBv (a:=true),jA1,jA6]at hb;obtain⟨h1,h2,h3⟩:=hb;rw[qea]at h2;simp[opS,hx,hl,qmb h2,h1,zdb h3,val]
   ·simp at hm
  ·rename_i z hx;simp only[jAc,jAd,jAp,jBp]at hm;obtain⟨hb,rfl⟩:=hm;simp[opS,hx,qmb hb.symm,val]
  ·simp at hm
 case slcs x lo hi=>
  split at hm
  ·rename_i s hx;simp only[jAc,jAd,jAp,jBp]at hm;obtain⟨hb,rfl⟩:=hm;simp[opS,hx,qmb hb.symm,val,qRO]
  ·simp at hm
 case iaddr sz ks x i=>
  split at hm
  ·rename_i id off len k j hx hi;split at hm
   ·rename_i sz' es fz hl;simp only[jAc,jAd,jAp,jBp]at hm;obtain⟨hb,rfl⟩:=hm;simp only[jBv (a:=true),jA1,jA6]at hb;obtain⟨h1,h2,h3⟩:=ownB_of hb.2;simp[opS,hx,hi,hl,hb.1,h1,h2,h3,val]
   ·simp at hm
  ·simp at hm
 case eqn k neg x y=>
  split at hm
  ·rename_i h1 h2;simp only[jAc,jAd,jAp,jBp]at hm;obtain⟨hb,rfl⟩:=hm;simp only[jBv (a:=true),jA6]at hb;simp only[opS,h1,h2,qeC,jAm hb];cases neg<;>simp[val]
  ·rename_i h1 h2;simp only[jAc,jAd,jAp,jBp]at hm;obtain⟨hb,rfl⟩:=hm;simp only[jBv (a:=true),jA6]at hb;simp only[opS,h1,h2,qeC,jAm hb];cases neg<;>simp[val]
  ·simp at hm
 case app sz bytes s x=>
  split at hm
  ·rename_i b src hs;obtain⟨rfl,v,h',h1,rfl⟩:=qKP hm;simp only[opS,zes hs,h1]
  ·simp at hm
 case mks sz bytes z l c=>
  split at hm
  ·rename_i k1 l' k2 c' h1 h2;simp only[jAc,jAd,jAp,jBp]at hm;obtain⟨hb,rfl⟩:=hm;simp only[jBv (a:=true),jA1,jA6,room]at hb;simp[opS,h1,h2,hb]
  ·simp at hm
 case bin op x y=>
  cases op<;>simp only[alts]at hm<;>try(simp at hm;done)
  all_goals
   split at hm
   ·rename_i h1 h2;simp only[jAc,jAd,jAp,jBp]at hm;obtain⟨hb,rfl⟩:=hm;simp only[jBv (a:=true),jA1,jA6]at hb;simp[opS,h1,h2,zmT,znI,znJ,hb,qGV]
   ·simp at hm
def qud(h:Heap):Nat->AV->AV
 |0,v=>v
 |n+1,v=>match v with
  | .nils q=>.view q.sz []
  | .own id off lo=>match qak h id with
   |some (.arr sz es _)=>.view sz (qCG es off lo)
   |_=>.junk
  | .ref id _ off=>match qak h id with
   |some (.box cs _)=>.ptr ((cs.map (qud h n)).drop off)
   |_=>.junk
  | .agg cs=>.agg (cs.map (qud h n))
  | .tup vs=>.tup (vs.map (qud h n))
  | .fn f cap=>.fn f (cap.map (qud h n))
  | .iface t v=>.iface t (qud h n v)
  |v=>v
def qpf(h:Heap):Nat->AV->Bool
 |0,_=>false
 |n+1,v=>match v with
  | .own id off lo=>match qak h id with
   |some (.arr _ es _)=>match lo with
    |some len=>decide (off+len<=es.length)
    |none=>true
   |_=>false
  | .ref id idx off=>match qak h id with
   |some (.box cs _)=>decide (idx=0/\off<=cs.length/\qaW cs=true)&&cs.all (qpf h n)
   |_=>false
  | .mref _=>false
  | .agg cs=>cs.all (qpf h n)
  | .tup vs=>vs.all (qpf h n)
  | .fn _ cap=>cap.all (qpf h n)
  | .iface _ v=>qpf h n v
  |_=>true
theorem que{h:Heap}:∀(n:Nat) (v:AV),qpf h n v=true->snap h n v=some (qud h n v)
 |0,v,hb=>by simp[qpf]at hb
 |n+1,v,hb=>by
  have hl:∀vs:List AV,vs.all (qpf h n)=true->qiX (snap h n) vs=some (vs.map (qud h n)):=by
   intro vs
   induction vs with
   |nil=>intro _;rfl
   |cons v vs ih=>
    intro hb;simp only[jAw,jA1]at hb;simp only[qiX,jAs,que n v hb.1,ih hb.2]
  cases v<;>simp only[qpf,snap,qud]at hb ⊢
  case own id off lo=>
   split at hb
   ·rename_i hk;simp only[hk];cases lo with
    |some len=>simp only at hb ⊢;rw[jAr (jBd hb)]
    |none=>rfl
   ·cases hb
  case ref id idx off=>
   split at hb
   ·rename_i hk;simp only[jA1]at hb;simp only[hk];rw[jAr (jBd hb.1),hl _ hb.2];rfl
   ·cases hb
  case mref=>cases hb
  case agg cs=>rw[hl _ hb];rfl
  case tup cs=>rw[hl _ hb];rfl
  case fn f cs=>rw[hl _ hb];rfl
  case iface t v=>rw[que n v hb];rfl
end Go.Eng
namespace Go.Eng
def br{R:Type}(b:Bool)(x y:R):R:=match b with
 |true=>x
 |false=>y
theorem qib{R:Type}{b:Bool}{x:Option R}{r:R}(h:br b x none=some r):b=true/\x=some r:=by
 cases b with
 |true=>exact⟨rfl,h⟩
 |false=>cases h
def zg8:Env->Nat->AV->Env
 | [],_,_=>[]
 |(j,v)::e,t,u=>if t=j then(j,u)::e else(j,v)::zg8 e t u
theorem qCN:∀{e:Env} {t:Nat} {v:AV},qbV e t=v->v≠ .junk->zg8 e t v=e
 | [],t,v,h,hj=>rfl
 |(j,u)::e,t,v,h,hj=>by
  simp only[qbV]at h;simp only[zg8];split
  ·rename_i he;rw[jAr he]at h;rw[h]
  ·rename_i he;rw[jAm he]at h;rw[qCN h hj]
section
variable {R:Type}
abbrev qi6(R:Type):=Nat->List AV->Heap->(Res->Heap->Option R)->Option R
abbrev qDp(R:Type):=List Nat->ICode->St->(X->St->Option R)->Option R
def intOf:AV->Int
 | .int _ n=>n
 |_=>0
def q7i:AV->Bool
 | .bool b=>b
 |_=>false
def strOf:AV->List UInt8
 | .str s=>s
 |_=>[]
def qap:AV->List AV
 | .view _ es=>es
 |_=>[]
def zki:AV->List AV
 | .ptr cs=>cs
 |_=>[]
def q7O:AV->Bool
 | .nilp=>true
 |_=>false
def okC:CS->AV->Bool
 | .int k,.int k' _=>decide (k'=k)
 | .bool,.bool _=>true
 | .str,.str _=>true
 | .slice k,.view sz _=>decide (sz=k)
 | .ptr _,.nilp=>true
 | .ptr _,.ptr _=>true
 |_,_=>false
def qpd:List CS->List AV->Bool
 | [],[]=>true
 |c::cs,x::xs=>okC c x&&qpd cs xs
 |_,_=>false
def qaG(ks:List CS)(es:List AV)(i:Int):Bool:=match qgU es i with
 |some e=>qpd ks (qai e)
 |none=>false
def cellAt(es:List AV)(i:Int)(j:Nat):AV:=(qai ((qgU es i).getD .junk))[j]?.getD .junk
def q3K(c:CS)(x:AV)(K:AV->Option R):Option R:=match c with
 | .int k=>K (.int k (intOf x))
 | .bool=>K (.bool (q7i x))
 | .str=>K (.str (strOf x))
 | .slice k=>K (.view k (qap x))
 | .ptr _=>br (q7O x) (K .nilp) (K (.ptr (zki x)))
def qJ4(es:List AV)(i:Int):Nat->List CS->(List AV->Option R)->Option R
 |_,[],K=>K []
 |j,c::cs,K=>q3K c (cellAt es i j) fun x=>qJ4 es i (j+1) cs fun r=>K (x::r)
theorem qJ5{c:CS}{x:AV}(h:okC c x=true){K:AV->Option R}:q3K c x K=K x:=by
 cases c<;>cases x<;>simp_all[okC,q3K,intOf,q7i,strOf,q7O,qap,zki,br]
theorem qBV{es:List AV}{i:Int}{e:AV}(he:qgU es i=some e):∀(ks:List CS) (j:Nat) {K:List AV->Option R},qpd ks ((qai e).drop j)=true->qJ4 es i j ks K=K ((qai e).drop j)
 | [],j,K,h=>by
  cases hd:(qai e).drop j with
  |nil=>rfl
  |cons=>rw[hd]at h;simp[qpd]at h
 |c::cs,j,K,h=>by
  cases hd:(qai e).drop j with
  |nil=>rw[hd]at h;simp[qpd]at h
  |cons x xs=>
   rw[hd]at h;simp only[qpd,jA1]at h;have hx:cellAt es i j=x:=by
    have h0:=congrArg (·[0]?) hd;simp only[jBs,Nat.add_zero,List.getElem?_cons_zero]at h0;simp[cellAt,he,h0]
   have hxs:(qai e).drop (j+1)=xs:=by
    have h0:=congrArg (List.drop 1) hd;simpa using h0
   simp only[qJ4,hx,qJ5 h.1];have:=qBV he cs (j+1) (K:=fun r=>K (x::r)) (by rw[hxs];exact h.2);rw[this,hxs]
def qwG(h:Heap)(all:Bool):List AV->(List AV->List Nat->Option R)->Option R
 | [],K=>K [] []
 |v::vs,K=>if q7P v||all then qwG h all vs fun vs b=>K (v::vs) ([]++b)else match idsA v with
  | []=>qwG h all vs fun vs b=>K (nz v::vs) ([]++b)
  |ids=>br (qpf h qg9 v) (qwG h all vs fun vs b=>K (qud h qg9 v::vs) (ids++b)) none
theorem qgJ{h:Heap}{all:Bool}{ρ:R}:∀{vs:List AV} {K:List AV->List Nat->Option R},qwG h all vs K=some ρ-> ∃a b,qyQ h all vs=some (a,b)/\K a b=some ρ
 | [],K,hs=>⟨_,_,rfl,hs⟩
 |v::vs,K,hs=>by
  simp only[qwG]at hs;split at hs
  ·rename_i hc;obtain⟨a,b,h1,h2⟩:=qgJ hs;exact⟨_,_,by simp only[qyQ,zg1,hc,jB2,h1],h2⟩
  ·rename_i hc;split at hs
   ·rename_i hi;obtain⟨a,b,h1,h2⟩:=qgJ hs;refine⟨_,_,?_,h2⟩;simp only[qyQ,zg1,h1];rw[jAm hc,hi]
   ·rename_i ids hi;obtain⟨hb,hs⟩:=qib hs;obtain⟨a,b,h1,h2⟩:=qgJ hs;refine⟨_,_,?_,h2⟩;simp only[qyQ,zg1,h1,jAm hc,que _ _ hb]
def qHc(P:Prog)(cK:qi6 R)(h:Heap)(nx f:Nat)(args:List AV)(K:Res×Heap×Bool->Option R):Option R:=
 qwG h (P.mv f) args fun args' roots=>
  match qb8 qg9 h (idsA.idsL args') [],qb8 qg9 h roots []with
  |some moved,some shown=>
   if q7p moved shown then
    cK f (ren.renL (place moved) args') (qjK (place moved) (sub h moved)) fun r h'=>
     if h'.all (fun p=>decide (p.1<moved.length+16))then
      let touched:=!shown.isEmpty&&(shows (q34 r) || !h'.isEmpty)
      let old:=qa9 h moved
      K (q7Y (ren (back moved nx)) r,qjK (back moved nx) h'++(if touched then freeze old shown else old),!moved.isEmpty||touched)
     else none
   else none
  |_,_=>none
def qUY:qa2:=fun _ _ _=>none
def zqG(K:Res×Heap×Bool->Option R):List Alt->Option R
 | []=>none
 |(b,r)::l=>br b (K r) (zqG K l)
def qxF(P:Prog)(nx:Nat)(ev:Opd->AV)(h:Heap)(io:IOp)(K:Res×Heap×Bool->Option R):Option R:=
 match alts nx ev h io with
 | []=>match opS P qUY nx ev h io with
  |some r=>K r
  |none=>none
 |l=>zqG K l
def zsP(ks:Key)(m:List (AV×AV))(k:AV):AV:=match qNb ks m k with
 |some (some v)=>v
 |_=>.junk
def zsM(ks:Key)(m:List (AV×AV))(k:AV):Bool:=isKey ks k&&match qNb ks m k with
 |some (some _)=>true
 |_=>false
def zsN(ks:Key)(m:List (AV×AV))(k:AV):Bool:=isKey ks k&&match qNb ks m k with
 |some none=>true
 |_=>false
def qfs(es:List AV)(i j:Nat):AV:=(qai (es[i]?.getD .junk))[j]?.getD .junk
def okP(ks:List CS)(es:List AV)(i off:Nat):Bool:=match es[i]? with
 |some e=>qpd ks (((qai e).drop off).take ks.length)
 |none=>false
def qVc(es:List AV)(i:Nat):Nat->List CS->(List AV->Option R)->Option R
 |_,[],K=>K []
 |j,c::cs,K=>q3K c (qfs es i j) fun x=>qVc es i (j+1) cs fun r=>K (x::r)
theorem qJ6{es:List AV}{i:Nat}{e:AV}(he:es[i]? = some e):∀(ks:List CS) (j:Nat) {K:List AV->Option R},qpd ks (((qai e).drop j).take ks.length)=true->qVc es i j ks K=K (((qai e).drop j).take ks.length)
 | [],j,K,h=>by simp[qVc]
 |c::cs,j,K,h=>by
  cases hd:(qai e).drop j with
  |nil=>rw[hd]at h;simp[qpd]at h
  |cons x xs=>
   rw[hd]at h;simp only[jA0,jCo,qpd,jA1]at h;have hx:qfs es i j=x:=by
    have h0:=congrArg (·[0]?) hd;simp only[jBs,Nat.add_zero,List.getElem?_cons_zero]at h0;simp[qfs,he,h0]
   have hxs:(qai e).drop (j+1)=xs:=by
    have h0:=congrArg (List.drop 1) hd;simpa using h0
   simp only[qVc,hx,qJ5 h.1,jA0,jCo];have:=qJ6 he cs (j+1) (K:=fun r=>K (x::r)) (by rw[hxs];exact h.2);rw[this,hxs]
theorem qJ3:∀{ks:List CS} {xs:List AV},qpd ks xs=true->xs.length=ks.length
 | [],[],_=>rfl
 | [],_::_,h=>by simp[qpd]at h
 |_::_,[],h=>by simp[qpd]at h
 |k::ks,x::xs,h=>by
  simp only[qpd,jA1]at h;simp[qJ3 h.2]
def zkx(es:List AV)(i off:Nat)(vs:List AV):List AV:=match es[i]? with
 |some e=>es.set i (elemOf e (splice (qai e) off vs))
 |none=>es
def okS(es:List AV)(i off n:Nat):Bool:=match es[i]? with
 |some e=>decide (off+n<=(qai e).length)
 |none=>false
def qZ5(h:Heap)(v:AV)(K:AV->Heap->Option R):Option R:=match idsA v with
 | []=>K (nz v) h
 |ids=>match qb8 qg9 h ids []with
  |some r=>br (qpf h qg9 v) (K (qud h qg9 v) (freeze h r)) none
  |none=>none
theorem qCB{h:Heap}{v:AV}{K:AV->Heap->Option R}{ρ:R}(hs:qZ5 h v K=some ρ):∃v' h',still h v=some (v',h')/\K v' h'=some ρ:=by
 simp only[qZ5]at hs;split at hs
 ·rename_i hi;exact⟨_,_,by simp only[still,hi],hs⟩
 ·rename_i ids hi;split at hs
  ·rename_i r hr;obtain⟨hb,hs⟩:=qib hs;refine⟨_,_,?_,hs⟩;cases hq:idsA v with
   |nil=>exact absurd hq hi
   |cons i is=>
    rw[hq]at hr;simp only[still,hq,que _ _ hb,hr]
  ·cases hs
def zjJ(F:Nat->Option R)(j:Int):Nat->Nat->Option R
 |0,_=>none
 |r+1,k=>br (decide (j=Int.ofNat k)) (F k) (zjJ F j r (k+1))
def zst(sz:Nat)(v:AV)(h:Heap)(K:Res×Heap×Bool->Option R)(k:Nat):Option R:=match v with
 | .ptr cs=>if k*sz<=cs.length then K (.ret (.ptr (cs.drop (k*sz))),h,false)else none
 | .ref id idx o=>K (.ret (.ref id idx (o+k*sz)),h,false)
 |_=>none
def opK(P:Prog)(cK:qi6 R)(nx:Nat)(ev:Opd->AV)(h:Heap)(io:IOp)(K:Res×Heap×Bool->Option R):Option R:=
 match io with
 | .iaddr sz ks x i=>match ks,ev x,ev i with
  |_::_,.view sz' es,.int _ j=>if sz'=sz then br (qaG ks es j) (qJ4 es j 0 ks fun cs=>K (.ret (.ptr cs),h,false)) none else none
  |_,_,_=>qxF P nx ev h (.iaddr sz ks x i) K
 | .load agg n ks x=>match ev x with
  | .ref id idx off=>match qak h id with
   |some (.arr _ es _)=>if ks.length=n/\0<n/\(agg=true\/n=1)then
     br (okP ks es idx off) (qVc es idx off ks fun cs=>K (.ret (if agg then .agg cs else cs.headD .junk),h,false)) none
    else none
   |_=>qxF P nx ev h (.load agg n ks x) K
  |_=>qxF P nx ev h (.load agg n ks x) K
 | .store n x v=>match ev x with
  | .ref id idx off=>match qak h id with
   |some (.arr _ es false)=>qZ5 h (ev v) fun v h=>match qak h id with
    |some (.arr sz _ false)=>if (qai v).length=n/\qaW (qai v)=true then
      br (okS es idx off n) (K (.ret q0s,qi3 h id (.arr sz (zkx es idx off (qai v)) false),true)) none
     else none
    |_=>none
   |_=>qxF P nx ev h (.store n x v) K
  |_=>qxF P nx ev h (.store n x v) K
 | .pick c a b=>match ev c with
  | .bool t=>br t (K (.ret (ev a),h,false)) (K (.ret (ev b),h,false))
  |_=>none
 | .aaddr n sz x i=>match ev i with
  | .int _ j=>if n<=16 then zjJ (zst sz (ev x) h K) j n 0 else qxF P nx ev h (.aaddr n sz x i) K
  |_=>none
 | .call f args=>qHc P cK h nx f (args.map ev) K
 | .callv fv args=>match ev fv with
  | .fn (.func f) cap=>qHc P cK h nx f (args.map ev++cap) K
  |_=>none
 |io=>qxF P nx ev h io K
def zfw(e:Env)(g:Option (Nat×Bool))(K:Env->Bool->Option R):Option R:=match g with
 |none=>K e true
 |some (t,want)=>match qbV e t with
  | .bool b=>br b (K (zg8 e t (.bool true)) want) (K (zg8 e t (.bool false)) (!want))
  | .tup []=>K e false
  |_=>none
def q4j(P:Prog)(cK:qi6 R)(nx:Nat)(o:IOper)(e:Env)(h:Heap)(K:Env->Step->Option R):Option R:=
 zfw e o.guard fun e b=>match b with
  |false=>K e .skip
  |true=>match qb8 qg9 h (zg2 e o.op) []with
   |none=>none
   |some r=>opK P cK nx (qbo e) (sub h r) o.op fun x=>match x with
    |(.ret v,out,w)=>K e (.did r w v out)
    |(.pan v,out,_)=>K e (.pan r v out)
def sm{α:Type}(o:Option α):Bool:=match o with
 |some _=>true
 |none=>false
def gv{α:Type}[Inhabited α](o:Option α):α:=match o with
 |some x=>x
 |none=>default
@[simp] theorem sm_some {α:Type} (x:α):sm (some x)=true:=rfl
@[simp] theorem sm_none {α:Type}:sm (none:Option α)=false:=rfl
@[simp] theorem gv_some {α:Type} [Inhabited α] (x:α):gv (some x)=x:=rfl
theorem q4h{α:Type}[Inhabited α]{o:Option α}(h:sm o=true):o=some (gv o):=by cases o<;>first|rfl|cases h
def frcA:AV->(AV->Option R)->Option R
 | .int k n,K=>K (.int k n)
 | .bool b,K=>K (.bool b)
 | .str s,K=>K (.str s)
 | .nilp,K=>K .nilp
 | .nilm,K=>K .nilm
 | .nilf,K=>K .nilf
 | .nili,K=>K .nili
 | .nils ⟨n,.nil⟩,K=>K (.nils ⟨n,.nil⟩)
 | .nils ⟨n,.any⟩,K=>K (.nils ⟨n,.any⟩)
 | .nils ⟨n,.non⟩,K=>K (.nils ⟨n,.non⟩)
 | .agg cs,K=>frcL cs fun cs=>K (.agg cs)
 | .tup cs,K=>frcL cs fun cs=>K (.tup cs)
 | .view n es,K=>K (.view n es)
 | .ptr cs,K=>frcL cs fun cs=>K (.ptr cs)
 | .own a b c,K=>K (.own a b c)
 | .ref a b c,K=>K (.ref a b c)
 | .mref a,K=>K (.mref a)
 | .fn f cs,K=>frcL cs fun cs=>K (.fn f cs)
 | .iface t v,K=>frcA v fun v=>K (.iface t v)
 | .junk,K=>K .junk
where frcL:List AV->(List AV->Option R)->Option R
 | [],K=>K []
 |v::vs,K=>frcA v fun v=>frcL vs fun vs=>K (v::vs)
mutual
theorem qsH:∀(v:AV) (K:AV->Option R),frcA v K=K v
 | .nils ⟨_,k⟩,K=>by cases k<;>simp only[frcA]
 | .int ..,K | .bool ..,K | .str ..,K | .nilp,K | .nilm,K | .nilf,K | .nili,K | .view ..,K | .own ..,K | .ref ..,K | .mref _,K | .junk,K=>by simp only[frcA]
 | .agg cs,K=>by simp only[frcA];exact qnG cs _
 | .tup cs,K=>by simp only[frcA];exact qnG cs _
 | .ptr cs,K=>by simp only[frcA];exact qnG cs _
 | .fn f cs,K=>by simp only[frcA];exact qnG cs _
 | .iface t v,K=>by simp only[frcA];exact qsH v _
theorem qnG:∀(vs:List AV) (K:List AV->Option R),frcA.frcL vs K=K vs
 | [],K=>by simp only[frcA.frcL]
 |v::vs,K=>by simp only[frcA.frcL];rw[qsH v];exact qnG vs _
end
def zoa:Blk->(Blk->Option R)->Option R
 | .box cs true,K=>frcA.frcL cs fun cs=>K (.box cs true)
 | .box cs false,K=>frcA.frcL cs fun cs=>K (.box cs false)
 | .arr sz es true,K=>K (.arr sz es true)
 | .arr sz es false,K=>K (.arr sz es false)
 | .mp kvs,K=>K (.mp kvs)
theorem zdr(b:Blk)(K:Blk->Option R):zoa b K=K b:=by
 cases b with
 |box cs fz=>cases fz<;>simp only[zoa]<;>exact qnG _ _
 |arr sz es fz=>cases fz<;>rfl
 |mp kvs=>rfl
def zjq(n:Nat)(K:Nat->Option R):Option R:=match n with
 |0=>K 0
 |n+1=>K (n+1)
theorem qsJ(n:Nat)(K:Nat->Option R):zjq n K=K n:=by cases n<;>rfl
def zm1:Heap->(Heap->Option R)->Option R
 | [],K=>K []
 |(i,b)::h,K=>zjq i fun i=>zoa b fun b=>zm1 h fun h=>K ((i,b)::h)
theorem qS8:∀(h:Heap) (K:Heap->Option R),zm1 h K=K h
 | [],K=>rfl
 |(i,b)::h,K=>by simp only[zm1];rw[qsJ,zdr];exact qS8 h _
def zgX:Env->(Env->Option R)->Option R
 | [],K=>K []
 |(i,v)::h,K=>zgX h fun h=>K ((i,v)::h)
theorem qsI:∀(h:Env) (K:Env->Option R),zgX h K=K h
 | [],K=>rfl
 |(i,v)::h,K=>by simp only[zgX];exact qsI h _
def qyT(P:Prog)(cK:qi6 R):List IOper->Env->Heap->Nat->(Env->Option R)->Option R
 | [],e,_,_,K=>K e
 |o::ops,e,h,nx,K=>q4j P cK nx o e h fun e s=>match s with
  | .skip=>qyT P cK ops (qkU o (qbz e o.dst .skip)) h (nx+16) K
  | .did r w v out=>match w,out.all (fun p=>r.contains p.1)with
   |false,true=>frcA v fun v=>zjq (nx+16) fun nx=>zgX (qkU o (qF6 e o.dst v)) fun e=>qyT P cK ops e h nx K
   |_,_=>none
  | .pan _ _ _=>none
def qvM(t:Nat):List IOper->Option (List IOper×IOper×List IOper)
 | []=>none
 |o::os=>match o.op with
  | .pick (.t c) _ _=>match Nat.beq c t with
   |true=>some ([],o,os)
   |false=>match qvM t os with
    |some (g,p,r)=>some (o::g,p,r)
    |none=>none
  |_=>match qvM t os with
   |some (g,p,r)=>some (o::g,p,r)
   |none=>none
def znX:IOp->Bool
 | .bslice .. | .app .. | .store .. | .mupd .. | .mdel .. | .clr .. | .alloc .. | .box .. | .mkm | .mks .. | .pan ..=>false
 |_=>true
def within(c d:Nat)(o:IOper):Bool:=(match o.dst with
 |some j=>Nat.blt c j&&Nat.blt j d
 |none=>false)&&znX o.op&&match o.op with
 | .pick (.t k) _ _=>Nat.ble c k
 |_=>true
def znW(P:Prog)(o:IOper):Bool:=match o.op with
 | .call f _=>!P.imp f
 |_=>true
def zjy(P:Prog)(o:IOper)(ops:List IOper):Option (Nat×Nat×List IOper×IOper×List IOper):=match o.guard with
 |none=>none
 |some (t,_)=>match qvM t ops with
  |none=>none
  |some (g,p,r)=>match p.guard,p.dst with
   |none,some d=>match (o::g).all (within t d)&&(o::g).all (znW P)with
    |true=>some (t,d,o::g,p,r)
    |false=>none
   |_,_=>none
def q2I(d:Nat)(e:Env):Option Bool:=match qbV e d with
 | .bool b=>some b
 |_=>none
def zen(P:Prog)(cK:(R:Type)->qi6 R):Nat->List IOper->Env->Heap->Nat->(X->Env->Heap->Option R)->Option R
 |0,_,_,_,_,_=>none
 |_+1,[],e,h,_,K=>K .normal e h
 |n+1,o::ops,e,h,nx,K=>match zjy P o ops with
  |some (t,d,g,p,rest)=>
   let v:=qyT P (cK Bool) g e h nx fun e1=>qyT P (cK Bool) [p] e1 h (nx+16*g.length) (q2I d)
   br (sm v) (zjq (nx+16*(g.length+1)) fun nx=>zgX (qdS t d e) fun e=>zen P cK n rest ((d,.bool (gv v))::e) h nx K) none
  |none=>q4j P (cK R) nx o e h fun e s=>match s with
   | .pan r v out=>K (.pan v) e (qaZ h (.pan r v out))
   | .skip=>zen P cK n ops (qkU o (qbz e o.dst .skip)) h (nx+16) K
   | .did r w v out=>frcA v fun v=>zm1 (qaZ h (.did r w v out)) fun h=>zjq (nx+16) fun nx=>zgX (qkU o (qF6 e o.dst v)) fun e=>zen P cK n ops e h nx K
def zhJ(P:Prog)(cK:qi6 R)(base:Nat):Nat->List IOper->Env->Heap->List Step->(Option AV->Env->Heap->List Step->Option R)->Option R
 |_,[],e,h,log,K=>K none e h log
 |i,o::ops,e,h,log,K=>q4j P cK (base+16*i) o e h fun e s=>match zd4 s with
  |some v=>K (some v) e (qaZ h s) log
  |none=>if tidy (base+16*i) (qdw e o) h s then match lost h (qdw e o) s with
    | []=>zhJ P cK base (i+1) ops (qbz e o.dst s) (qaZ h s) (log++[s]) K
    |q::g=>zhJ P cK base (i+1) ops (qbz e o.dst s) (qaZ h s) (log++[mark (q::g) s]) K
   else none
def qi1(P:Prog)(cK:(R:Type)->qi6 R)(lK:qDp R):ICode->St->(X->St->Option R)->Option R
 | .skip,s,K=>K .normal s
 | .region ops d,s,K=>match d with
  |none=>zen P cK (ops.length+1) ops s.tm s.hp s.nx fun x e h=>K x ⟨e,h,s.nx+16*ops.length,s.k⟩
  |some befs=>zhJ P (cK R) s.nx 0 ops s.tm s.hp [] fun pv e h log=>match pv with
   |none=>if calm s.nx befs ops e log then K .normal ⟨e,h,s.nx+16*ops.length,s.k⟩else none
   |some v=>if calm s.nx befs ops e log&&znf befs ops log.length then K (.pan v) ⟨[],h,s.nx+16*ops.length,s.k⟩else none
 | .seq a b,s,K=>qi1 P cK lK a s fun x s=>match x with
  | .normal=>qi1 P cK lK b s K
  |x=>K x s
 | .cond c a b,s,K=>match qbo s.tm c with
  | .bool t=>br t (qi1 P cK lK a s K) (qi1 P cK lK b s K)
  |_=>none
 | .block id c,s,K=>qi1 P cK lK c s fun x s=>match x with
  | .exit j=>if j=id then K .normal s else K (.exit j) s
  |x=>K x s
 | .loop k c,s,K=>lK k c s K
 | .exit id,s,K=>K (.exit id) s
 | .ret,s,K=>K .ret s
def qrf(call:qa2)(cK:qi6 R):Prop:=∀f a h K ρ,cK f a h K=some ρ-> ∃r h',call f a h=some (r,h')/\K r h'=some ρ
def qxk(loop:qgp)(lK:qDp R):ICode->Prop
 | .seq a b=>qxk loop lK a/\qxk loop lK b
 | .cond _ a b=>qxk loop lK a/\qxk loop lK b
 | .block _ a=>qxk loop lK a
 | .loop k c=>∀s K ρ,lK k c s K=some ρ-> ∃x s',loop k c s=some (x,s')/\K x s'=some ρ
 |_=>True
def loops:ICode->List (List Nat×ICode)
 | .seq a b=>loops a++loops b
 | .cond _ a b=>loops a++loops b
 | .block _ a=>loops a
 | .loop k c=>(k,c)::loops c
 |_=>[]
def qad(F:Fun)(i:Nat):List Nat×ICode:=(loops F.body).getD i ([],.skip)
variable {P:Prog} {call:qa2} {cK:qi6 R} {loop:qgp} {lK:qDp R}
theorem qoP(hc:qrf call cK){h:Heap}{nx f:Nat}{args:List AV}{K:Res×Heap×Bool->Option R}{ρ:R}(hs:qHc P cK h nx f args K=some ρ):∃r,qkP P call h nx f args=some r/\K r=some ρ:=by
 simp only[qHc]at hs;obtain⟨args',roots,hp,hs⟩:=qgJ hs;split at hs
 ·rename_i moved shwn h1 h2;split at hs
  ·rename_i hd;obtain⟨r,h',hcl,hK⟩:=hc _ _ _ _ _ hs;split at hK
   ·rename_i hall;refine⟨_,?_,hK⟩;simp only[qkP,hp,h1,h2,hd,jB2,hcl,hall]
   ·cases hK
  ·cases hs
 ·cases hs
theorem qUZ(call:qa2):LeC qUY call:=fun f a h r hr=>by simp[qUY]at hr
theorem qw2{K:Res×Heap×Bool->Option R}{ρ:R}:∀{l:List Alt},zqG K l=some ρ-> ∃r,(true,r)∈l/\K r=some ρ
 | [],h=>by cases h
 |(b,r)::l,h=>by
  cases b with
  |true=>exact⟨r,by simp,h⟩
  |false=>
   obtain⟨r',h1,h2⟩:=qw2 (l:=l) h;exact⟨r',by simp[h1],h2⟩
theorem qcZ{nx:Nat}{ev:Opd->AV}{h:Heap}{io:IOp}{K:Res×Heap×Bool->Option R}{ρ:R}(hs:qxF P nx ev h io K=some ρ):∃r,opS P call nx ev h io=some r/\K r=some ρ:=by
 simp only[qxF]at hs;split at hs
 ·split at hs
  ·rename_i r hr;exact⟨r,qyL (qUZ call) hr,hs⟩
  ·cases hs
 ·obtain⟨r,h1,h2⟩:=qw2 hs;exact⟨r,zaF h1,h2⟩
theorem qS9{h:Heap}{r:List Nat}{id sz sz2:Nat}{es es2:List AV}{f1 f2:Bool}(hl:qak h id=some (.arr sz es f1))(h2:qak (freeze h r) id=some (.arr sz2 es2 f2)):sz=sz2:=by
 have:Globs:=⟨fun _=>none⟩;rw[qcz]at h2;split at h2
 ·rw[hl]at h2;simp[qlL]at h2;exact h2.1
 ·rw[hl]at h2;simp at h2;exact h2.1
theorem q4k{h h':Heap}{v v':AV}{id sz sz2:Nat}{es es2:List AV}{f1 f2:Bool}(hl:qak h id=some (.arr sz es f1))(hst:still h v=some (v',h'))(h2:qak h' id=some (.arr sz2 es2 f2)):sz=sz2:=by
 simp only[still]at hst;split at hst
 ·simp at hst;obtain⟨_,rfl⟩:=hst;rw[hl]at h2;simp at h2;exact h2.1
 ·split at hst
  ·simp at hst;obtain⟨_,rfl⟩:=hst;exact qS9 hl h2
  ·cases hst
theorem qwr{F:Nat->Option R}{j:Int}{ρ:R}:∀{r k:Nat},zjJ F j r k=some ρ-> ∃q,j=Int.ofNat q/\q<k+r/\F q=some ρ
 |0,k,hs=>by simp[zjJ]at hs
 |r+1,k,hs=>by
  simp only[zjJ]at hs;by_cases hj:j=Int.ofNat k
  ·have hd:decide (j=Int.ofNat k)=true:=by simpa using hj
   rw[hd]at hs;exact⟨k,hj,by omega,hs⟩
  ·have hd:decide (j=Int.ofNat k)=false:=by simpa using hj
   rw[hd]at hs;obtain⟨q,h1,h2,h3⟩:=qwr (k:=k+1) hs;exact⟨q,h1,by omega,h3⟩
theorem qVa(hc:qrf call cK){nx:Nat}{ev:Opd->AV}{h:Heap}{io:IOp}{K:Res×Heap×Bool->Option R}{ρ:R}(hs:opK P cK nx ev h io K=some ρ):∃r,opS P call nx ev h io=some r/\K r=some ρ:=by
 cases io<;>simp only[opK]at hs
 case aaddr n sz x i=>
  split at hs
  ·rename_i k j h2;split at hs
   ·obtain⟨q,rfl,hq,hs⟩:=qwr hs;have e1:(0:Int)<=Int.ofNat q:=Int.natCast_nonneg q;have e2:Int.ofNat q<(n:Int):=by show(q:Int)<(n:Int);omega
    have e3:(Int.ofNat q).toNat=q:=rfl;unfold zst at hs;split at hs
    ·rename_i cs h1;split at hs
     ·rename_i hle;refine⟨_,?_,hs⟩;simp only[opS,h1,h2,e3];rw[jAr ⟨e1,e2⟩,jAr hle];rfl
     ·cases hs
    ·rename_i id idx o h1;refine⟨_,?_,hs⟩;simp only[opS,h1,h2,e3];rw[jAr ⟨e1,e2⟩];rfl
    ·cases hs
   ·exact qcZ hs
  ·cases hs
 case iaddr sz ks x i=>
  split at hs
  ·rename_i c ks' sz' es k j h1 h2;split at hs
   ·rename_i hsz;obtain⟨hok,hs⟩:=qib hs;simp only[qaG]at hok;split at hok
    ·rename_i e he;have:=qBV he _ 0 (K:=fun cs=>K (.ret (.ptr cs),h,false)) (by simpa using hok);rw[this]at hs;refine⟨_,?_,hs⟩;simp[opS,h1,h2,he,hsz,val]
    ·cases hok
   ·cases hs
  ·exact qcZ hs
 case load agg n ks x=>
  split at hs
  ·rename_i id idx off hx;split at hs
   ·rename_i sz es fz hl;split at hs
    ·rename_i hcd;obtain⟨hk,hn,ha⟩:=hcd;obtain⟨hok,hs⟩:=qib hs;simp only[okP]at hok;split at hok
     ·rename_i e he;rw[qJ6 he ks off hok]at hs;have hlen:=qJ3 hok;have hle:ks.length<=((qai e).drop off).length:=by
       rw[List.length_take]at hlen;omega
      refine⟨_,?_,hs⟩;have hoff:off<=(qai e).length:=by rw[jB0]at hle;omega
      simp only[opS,hx,qrx,hl,he,jAr hoff,qGV,part];cases agg with
      |true=>
       simp only[jB2];rw[jAr (by omega),hk]
      |false=>
       have h1:n=1:=by simpa using ha
       subst h1;simp only[jAn,jBg,hk];cases hd:(qai e).drop off with
       |nil=>rw[hd]at hle;simp only[jA4]at hle;omega
       |cons y ys=>simp
     ·cases hok
    ·cases hs
   ·exact qcZ hs
  ·exact qcZ hs
 case store n x v=>
  split at hs
  ·rename_i id idx off hx;split at hs
   ·rename_i sz es hl;obtain⟨v',h',hst,hs⟩:=qCB hs;split at hs
    ·rename_i sz2 es2 hl2;split at hs
     ·rename_i hcd;obtain⟨hok,hs⟩:=qib hs;simp only[okS]at hok;split at hok
      ·rename_i e he;refine⟨_,?_,hs⟩;have hsz:sz=sz2:=q4k hl hst hl2;simp only[opS,hx,qZ6,hl,hst,hl2,he];rw[jAr ⟨hcd.1,jBd hok,hcd.2⟩];simp only[zkx,he,hsz]
      ·cases hok
     ·cases hs
    ·cases hs
   ·exact qcZ hs
  ·exact qcZ hs
 case pick c a b=>
  split at hs
  ·rename_i t ht;cases t
   ·exact⟨_,by simp[opS,ht,val],hs⟩
   ·exact⟨_,by simp[opS,ht,val],hs⟩
  ·cases hs
 case call f args=>exact qoP hc hs
 case callv fv args=>
  split at hs
  ·rename_i f cap hf;obtain⟨r,h1,h2⟩:=qoP hc hs;exact⟨r,by simp only[opS,hf];exact h1,h2⟩
  ·cases hs
 all_goals exact qcZ hs
theorem qGX{e:Env}{g:Option (Nat×Bool)}{K:Env->Bool->Option R}{ρ:R}(hs:zfw e g K=some ρ):∃b,ql0 e g=some b/\K e b=some ρ:=by
 cases g with
 |none=>exact⟨true,rfl,hs⟩
 |some tw=>
  obtain⟨t,want⟩:=tw;simp only[zfw]at hs;split at hs
  ·rename_i b hb;have hset:zg8 e t (.bool b)=e:=qCN hb (by simp);cases b with
   |true=>
    simp only[br]at hs;rw[hset]at hs;exact⟨want,by simp[ql0,hb],hs⟩
   |false=>
    simp only[br]at hs;rw[hset]at hs;exact⟨!want,by cases want<;>simp[ql0,hb],hs⟩
  ·rename_i hb;exact⟨false,by simp[ql0,hb],hs⟩
  ·cases hs
theorem qiF(hc:qrf call cK){nx:Nat}{o:IOper}{e:Env}{h:Heap}{K:Env->Step->Option R}{ρ:R}(hs:q4j P cK nx o e h K=some ρ):∃s,qcU P call nx o e h=some s/\K e s=some ρ:=by
 obtain⟨b,hw,hs⟩:=qGX hs;cases b with
 |false=>exact⟨.skip,by simp[qcU,hw],hs⟩
 |true=>
  simp only at hs;split at hs
  ·cases hs
  ·rename_i r hr;obtain⟨⟨x,out,w⟩,h1,h2⟩:=qVa hc hs;cases x with
   |ret v=>exact⟨.did r w v out,by simp only[qcU,hw,hr,h1],h2⟩
   |pan v=>exact⟨.pan r v out,by simp only[qcU,hw,hr,h1],h2⟩
theorem qBo{c d t:Nat}{v:AV}{e:Env}(h:(Nat.blt c t&&Nat.blt t d)=true):qdS c d (qF6 e (some t) v)=qdS c d e:=by
 simp only[qF6,qdS,h]
theorem qj5{c d c' d':Nat}(hc:c<=c')(hd:d'<=d):∀e:Env,qdS c d (qdS c' d' e)=qdS c d e
 | []=>rfl
 |(j,v)::e=>by
  by_cases h:(Nat.blt c' j&&Nat.blt j d')=true
  ·have h2:(Nat.blt c j&&Nat.blt j d)=true:=by
    simp only[jA1,Nat.blt_eq]at h ⊢;omega
   simp only[qdS,h,h2];exact qj5 hc hd e
  ·have h1:(Nat.blt c' j&&Nat.blt j d')=false:=by cases hq:(Nat.blt c' j&&Nat.blt j d')<;>first|rfl|exact absurd hq h
   simp only[qdS,h1];by_cases h2:(Nat.blt c j&&Nat.blt j d)=true
   ·simp only[h2];exact qj5 hc hd e
   ·have h3:(Nat.blt c j&&Nat.blt j d)=false:=by cases hq:(Nat.blt c j&&Nat.blt j d)<;>first|rfl|exact absurd hq h2
    simp only[h3,qj5 hc hd e]
theorem quY{c d:Nat}{o:IOper}(h:within c d o=true)(e:Env)(s:Step)(hs:∀r v out,s≠ .pan r v out):qdS c d (qkU o (qbz e o.dst s))=qdS c d e:=by
 obtain⟨dst,op,g⟩:=o;simp only[within,jA1]at h;obtain⟨⟨h1,_⟩,h2⟩:=h;cases dst with
 |none=>cases h1
 |some j=>
  simp only at h1;have qi3:qdS c d (qbz e (some j) s)=qdS c d e:=by
   cases s with
   |skip=>exact qBo h1
   |did r w v out=>exact qBo h1
   |pan r v out=>exact absurd rfl (hs r v out)
  by_cases hp:∃k a b,op= .pick (.t k) a b
  ·obtain⟨k,a,b,rfl⟩:=hp;simp only at h2;simp only[qkU];rw[qj5 (Nat.le_of_ble_eq_true h2) (by
    have:=(jA1 _ _▸h1).2;simp only[Nat.blt_eq]at this;omega),qi3]
  ·have:∀e2,qkU ⟨some j,op,g⟩ e2=e2:=by
    intro e2;simp only[qkU];split
    ·exact absurd ⟨_,_,_,rfl⟩ hp
    ·rfl
   rw[this];exact qi3
theorem qyD{r:List Nat}:∀{out:Heap},out.all (fun p=>r.contains p.1)=true->news r out= []
 | [],_=>rfl
 |(i,b)::h,hs=>by
  simp only[jAw,jA1]at hs;simp only[news,hs.1,jB2,qyD hs.2]
theorem qvo{e:Env}{dst:Option Nat}{r:List Nat}{w:Bool}{v:AV}{out:Heap}:qbz e dst (.did r w v out)=qF6 e dst v:=rfl
theorem qlQ(hc:qrf call cK){c d:Nat}:∀{ops:List IOper} {e:Env} {h:Heap} {nx:Nat} {K:Env->Option R} {ρ:R},qyT P cK ops e h nx K=some ρ-> ∀log,∃e' log',K e'=some ρ /\
  (ops.all (within c d)=true->qdS c d e'=qdS c d e)/\ ∀more (out:Option (X×Env×Heap×List Step)),qcL P call more e' h (nx+16*ops.length) log'=out->qcL P call (ops++more) e h nx log=out
 | [],e,h,nx,K,ρ,hs,log=>⟨e,log,hs,fun _=>rfl,fun more out ho=>by simpa using ho⟩
 |o::ops,e,h,nx,K,ρ,hs,log=>by
  simp only[qyT]at hs;obtain⟨s,h1,h2⟩:=qiF hc hs;cases s with
  |pan r v out=>cases h2
  |skip=>
   obtain⟨e',log',h3,h4,h5⟩:=qlQ (c:=c) (d:=d) hc h2 (log++[.skip]);refine⟨e',log',h3,fun ha=>?_,fun more out ho=>?_⟩
   ·simp only[jAw,jA1]at ha;rw[h4 ha.2,quY ha.1 _ _ (fun _ _ _ h=>by cases h)]
   ·simp only[jAk,qcL,h1];refine h5 more out ?_;rw[<-ho];congr 1;simp;omega
  |did r w v out0=>
   simp only at h2;split at h2
   ·rename_i hall;rw[qsH,qsJ,qsI]at h2;obtain⟨e',log',h3,h4,h5⟩:=qlQ (c:=c) (d:=d) hc h2 (log++[.did r false v out0]);refine⟨e',log',h3,fun ha=>?_,fun more out ho=>?_⟩
    ·simp only[jAw,jA1]at ha;rw[h4 ha.2,<-qvo (r:=r) (w:=false) (out:=out0),quY ha.1 _ _ (fun _ _ _ h=>by cases h)]
    ·simp only[jAk,qcL,h1];have hh:qaZ h (.did r false v out0)=h:=by simp[qaZ,qyD hall]
     rw[hh];refine h5 more out ?_;rw[<-ho];congr 1;simp;omega
   ·cases h2
theorem qsN{t:Nat}:∀{os g r:List IOper} {p:IOper},qvM t os=some (g,p,r)->os=g++p::r/\ ∃a b,p.op= .pick (.t t) a b
 | [],g,r,p,h=>by simp[qvM]at h
 |o::os,g,r,p,h=>by
  simp only[qvM]at h;split at h
  ·rename_i c a b ho;split at h
   ·rename_i hb;cases h;have:c=t:=Nat.eq_of_beq_eq_true hb;subst this;exact⟨rfl,a,b,ho⟩
   ·split at h
    ·rename_i q;cases h;obtain⟨h1,h2⟩:=qsN q;exact⟨by rw[h1];rfl,h2⟩
    ·cases h
  ·split at h
   ·rename_i q;cases h;obtain⟨h1,h2⟩:=qsN q;exact⟨by rw[h1];rfl,h2⟩
   ·cases h
theorem qkr{cK:(R:Type)->qi6 R}(hc:∀R,qrf call (cK R)):∀{n:Nat} {ops:List IOper} {e:Env} {h:Heap} {nx:Nat} {K:X->Env->Heap->Option R} {ρ:R},zen P cK n ops e h nx K=some ρ-> ∀log,∃x e' h' log',qcL P call ops e h nx log=some (x,e',h',log')/\K x e' h'=some ρ
 |0,ops,e,h,nx,K,ρ,hs,log=>by simp[zen]at hs
 |n+1,[],e,h,nx,K,ρ,hs,log=>⟨_,_,_,_,rfl,hs⟩
 |n+1,o::ops,e,h,nx,K,ρ,hs,log=>by
  simp only[zen]at hs;split at hs
  ·rename_i t d g p rest hg;obtain⟨hb,hs⟩:=qib hs;rw[qsJ,qsI]at hs;simp only[zjy]at hg;split at hg
   ·cases hg
   ·split at hg
    ·cases hg
    ·rename_i g0 p0 r0 he;split at hg
     ·rename_i hpg hpd;split at hg
      ·rename_i hall;rw[jA1]at hall
       replace hall:=hall.1
       cases hg;obtain⟨hops,a,b,hpo⟩:=qsN he;have hv:=q4h hb;generalize gv (qyT P (cK Bool) (o::g0) e h nx fun e1=>qyT P (cK Bool) [p] e1 h (nx+16*(o::g0).length) (q2I d))=bv at hv hs;obtain⟨e1,log1,h3,h4,h5⟩:=qlQ (c:=t) (d:=d) (hc Bool) hv log;have hkill:=h4 hall;simp only[qyT]at h3;obtain⟨s,k1,k2⟩:=qiF (hc Bool) h3;have htrim:∀e2,qkU p e2=qdS t d e2:=fun e2=>by unfold qkU;rw[hpo,hpd]
       have hself:∀(v:AV) (e2:Env),qdS t d ((d,v)::e2)=(d,v)::qdS t d e2:=fun v e2=>by
        have hb:(Nat.blt t d&&Nat.blt d d)=false:=by
         have:Nat.blt d d=false:=by
          cases hq:Nat.blt d d with
          |false=>rfl
          |true=>exact absurd (Nat.blt_eq▸hq) (Nat.lt_irrefl d)
         rw[this,Bool.and_false]
        simp only[qdS,hb]
       cases s with
       |pan r v out=>cases k2
       |skip=>
        exfalso;rw[htrim,hpd,show qbz e1 (some d) Step.skip=(d,q0s)::e1 from rfl,hself]at k2;simp[q2I,qbV,q0s]at k2
       |did r w v out=>
        simp only at k2;split at k2
        ·rename_i hall2;rw[qsH,qsJ,qsI,htrim,hpd,show qF6 e1 (some d) v=(d,v)::e1 from rfl,hself]at k2;simp only[q2I,qbV,jB2]at k2;split at k2
         ·rename_i b0;cases k2;have hh:qaZ h (.did r false (.bool bv) out)=h:=by simp[qaZ,qyD hall2]
          obtain⟨x,e',h',log',q1,q2⟩:=qkr hc hs (log1++[.did r false (.bool bv) out]);refine⟨x,e',h',log',?_,q2⟩;have hsplit:o::ops=(o::g0)++p::rest:=by rw[hops];rfl
          rw[hsplit];refine h5 (p::rest) _ ?_;simp only[qcL,k1,hh];rw[htrim,qvo,hpd,show qF6 e1 (some d) (AV.bool bv)=(d,.bool bv)::e1 from rfl,hself,hkill];rw[<-q1];congr 1
         ·cases k2
        ·cases k2
      ·cases hg
     ·cases hg
  ·obtain⟨s,h1,h2⟩:=qiF (hc R) hs;simp only[qcL,h1];cases s with
   |pan r v out=>exact⟨_,_,_,_,rfl,h2⟩
   |skip=>exact qkr hc h2 _
   |did r w v out=>
    simp only at h2;rw[qsH,qS8,qsJ,qsI]at h2;exact qkr hc h2 _
theorem qnh(hc:qrf call cK){base:Nat}:∀{ops:List IOper} {i:Nat} {e:Env} {h:Heap} {log:List Step} {K:Option AV->Env->Heap->List Step->Option R} {ρ:R},zhJ P cK base i ops e h log K=some ρ-> ∃pv e' h' log',qdI P call base i ops e h log=some (pv,e',h',log')/\K pv e' h' log'=some ρ
 | [],i,e,h,log,K,ρ,hs=>⟨_,_,_,_,rfl,hs⟩
 |o::ops,i,e,h,log,K,ρ,hs=>by
  simp only[zhJ]at hs;obtain⟨s,h1,h2⟩:=qiF hc hs;split at h2
  ·rename_i v hp;exact⟨_,_,_,_,by simp only[qdI,h1,hp],h2⟩
  ·rename_i hp;split at h2
   ·rename_i ht;split at h2
    ·rename_i hl;obtain⟨pv,e',h',log',h3,h4⟩:=qnh hc h2;exact⟨pv,e',h',log',by simp only[qdI,h1,hp,ht,jB2,hl];exact h3,h4⟩
    ·rename_i q g hl;obtain⟨pv,e',h',log',h3,h4⟩:=qnh hc h2;exact⟨pv,e',h',log',by simp only[qdI,h1,hp,ht,jB2,hl];exact h3,h4⟩
   ·cases h2
theorem qb9{cK:(R:Type)->qi6 R}(hc:∀R,qrf call (cK R)):∀{c:ICode},qxk loop lK c-> ∀{s:St} {K:X->St->Option R} {ρ:R},qi1 P cK lK c s K=some ρ-> ∃x s',qbY P call loop c s=some (x,s')/\K x s'=some ρ:=by
 intro c
 induction c with
 |skip=>intro _ s K ρ h;exact⟨_,_,rfl,h⟩
 |region ops d=>
  intro _ s K ρ h;simp only[qi1]at h;cases d with
  |none=>
   obtain⟨x,e',h',log',h1,h2⟩:=qkr hc h [];exact⟨x,_,by simp only[qbY,qbv,h1],h2⟩
  |some befs=>
   obtain⟨pv,e',h',log',h1,h2⟩:=qnh (hc R) h;cases pv with
   |none=>
    simp only at h2;split at h2
    ·rename_i hcalm;exact⟨_,_,by simp only[qbY,qbv,h1,hcalm,jB2],h2⟩
    ·cases h2
   |some v=>
    simp only at h2;split at h2
    ·rename_i hcalm;exact⟨_,_,by simp only[qbY,qbv,h1,hcalm,jB2],h2⟩
    ·cases h2
 |seq a b iha ihb=>
  intro hl s K ρ h;simp only[qi1]at h;obtain⟨x,s1,h1,h2⟩:=iha hl.1 h;cases x with
  |normal=>
   obtain⟨x2,s2,h3,h4⟩:=ihb hl.2 h2;exact⟨x2,s2,by simp only[qbY,h1];exact h3,h4⟩
  |_=>exact⟨_,_,by simp only[qbY,h1],h2⟩
 |cond c a b iha ihb=>
  intro hl s K ρ h;simp only[qi1]at h;split at h
  ·rename_i t ht;cases t with
   |true=>
    obtain⟨x,s1,h1,h2⟩:=iha hl.1 h;exact⟨x,s1,by simp only[qbY,ht];exact h1,h2⟩
   |false=>
    obtain⟨x,s1,h1,h2⟩:=ihb hl.2 h;exact⟨x,s1,by simp only[qbY,ht];exact h1,h2⟩
  ·cases h
 |block id a ih=>
  intro hl s K ρ h;simp only[qi1]at h;obtain⟨x,s1,h1,h2⟩:=ih hl h;cases x with
  |exit j=>
   simp only at h2;split at h2
   ·rename_i hj;exact⟨_,_,by simp only[qbY,h1,hj,jB2],h2⟩
   ·rename_i hj;exact⟨_,_,by simp only[qbY,h1,hj,jBg],h2⟩
  |_=>exact⟨_,_,by simp only[qbY,h1],h2⟩
 |loop k a ih=>intro hl s K ρ h;exact hl _ _ _ h
 |exit id=>intro _ s K ρ h;exact⟨_,_,rfl,h⟩
 |ret=>intro _ s K ρ h;exact⟨_,_,rfl,h⟩
def qIV(P:Prog)(f k:Nat)(v:AV)(h:Heap)(K:AV->Heap->Option R):Option R:=
 let rest (v:AV) (h:Heap):Option R:=match qb8 qg9 h (idsA v++brought h k) (List.range k)with
  |none=>none
  |some r=>K (ren (place r) v) (qjK (place r) (sub h r))
 if P.fresh f then rest v h else match idsA v with
  | []=>rest (nz v) h
  |ids=>br (qpf h qg9 v) (match qb8 qg9 h ids []with
   |some r=>rest (qud h qg9 v) (freeze h r)
   |none=>none) none
theorem qjw{f k:Nat}{v:AV}{h:Heap}{K:AV->Heap->Option R}{ρ:R}(hs:qIV P f k v h K=some ρ):∃v' h',qva P f k v h=some (v',h')/\K v' h'=some ρ:=by
 simp only[qIV]at hs;split at hs
 ·rename_i hf;split at hs
  ·cases hs
  ·rename_i r hr;exact⟨_,_,by simp only[qva,hf,jB2,hr],hs⟩
 ·rename_i hf;split at hs
  ·rename_i hi;split at hs
   ·cases hs
   ·rename_i r hr;exact⟨_,_,by simp only[qva,jAm hf,still,hi,hr],hs⟩
  ·rename_i ids hi;obtain⟨hb,hs⟩:=qib hs;split at hs
   ·rename_i r0 hr0;split at hs
    ·cases hs
    ·rename_i r hr;refine⟨_,_,?_,hs⟩;simp only[qva,jAm hf,still,que _ _ hb,hr0,hr]
   ·cases hs
def qD3(P:Prog)(cK:(R:Type)->qi6 R)(lK:qDp R)(f:Nat)(F:Fun)(args:List AV)(h:Heap)(K:Res->Heap->Option R):Option R:=
 qi1 P cK lK F.body ⟨params 0 args,wH P f h,h.length,h.length⟩ fun x s=>
  let fin (_:Unit):Option R:=match qjL s F.results with
   |some vs=>qIV P f h.length (one vs) s.hp fun v h=>K (.ret (wV P f v)) h
   |none=>none
  match x with
  | .normal=>fin ()
  | .ret=>fin ()
  | .pan v=>qIV P f h.length v s.hp fun v h=>K (.pan v) h
  | .exit _=>none
theorem qrw{cK:(R:Type)->qi6 R}(hc:∀R,qrf call (cK R)){f:Nat}{F:Fun}(hl:qxk loop lK F.body){args:List AV}{h:Heap}{K:Res->Heap->Option R}{ρ:R}(hs:qD3 P cK lK f F args h K=some ρ):∃r h',body P call loop f F args h=some (r,h')/\K r h'=some ρ:=by
 obtain⟨x,s,h1,h2⟩:=qb9 hc hl hs;simp only[body,h1];cases x with
 |exit j=>cases h2
 |pan v=>
  simp only at h2 ⊢;obtain⟨v',h',hv,h2⟩:=qjw h2;exact⟨_,_,by simp only[hv],h2⟩
 |normal=>
  simp only at h2 ⊢;split at h2
  ·rename_i hv;obtain⟨v',h',hw,h2⟩:=qjw h2;exact⟨_,_,by simp only[hv,hw],h2⟩
  ·cases h2
 |ret=>
  simp only at h2 ⊢;split at h2
  ·rename_i hv;obtain⟨v',h',hw,h2⟩:=qjw h2;exact⟨_,_,by simp only[hv,hw],h2⟩
  ·cases h2
def zqI(K:Res->Heap->Option R):List (Bool×Res×Heap)->Option R
 | []=>none
 |(b,r,h)::l=>br b (K r h) (zqI K l)
theorem qw4{K:Res->Heap->Option R}{ρ:R}:∀{l:List (Bool×Res×Heap)},zqI K l=some ρ-> ∃r h,(true,r,h)∈l/\K r h=some ρ
 | [],h=>by cases h
 |(b,r,h)::l,hs=>by
  cases b with
  |true=>exact⟨r,h,by simp,hs⟩
  |false=>
   obtain⟨r',h',h1,h2⟩:=qw4 (l:=l) hs;exact⟨r',h',by simp[h1],h2⟩
def zqH(K:X->St->Option R):List (Bool×X×St)->Option R
 | []=>none
 |(b,x,s)::l=>br b (K x s) (zqH K l)
theorem qw3{K:X->St->Option R}{ρ:R}:∀{l:List (Bool×X×St)},zqH K l=some ρ-> ∃x s,(true,x,s)∈l/\K x s=some ρ
 | [],h=>by cases h
 |(b,x,s)::l,hs=>by
  cases b with
  |true=>exact⟨x,s,by simp,hs⟩
  |false=>
   obtain⟨x',s',h1,h2⟩:=qw3 (l:=l) hs;exact⟨x',s',by simp[h1],h2⟩
end
end Go.Eng
namespace Go.Eng
theorem qws{IP:Prog}{keep:List Nat}{c:ICode}{s s':St}(h:norm (hk keep) s=norm (hk keep) s'){r:X×St}(hr:qkR IP keep c s'=some r):qkR IP keep c s=some r:=by
 obtain⟨n,hn⟩:=qhv.1 hr;refine qhv.2 ⟨n,?_⟩;cases n with
 |zero=>simp[qaF]at hn
 |succ n=>simp only[qaF]at hn ⊢;rw[h];exact hn
@[simp] theorem br_true {R:Type} (x y:R):br true x y=x:=rfl
@[simp] theorem br_false {R:Type} (x y:R):br false x y=y:=rfl
theorem getD_some{α:Type}{l:List α}{i:Nat}{d:α}(h:i<l.length):l[i]?.getD d=l[i]:=by simp[h]
theorem qKR(s:List UInt8)(i:Nat):qal s (i:Int)=((s[i]?.getD 0).toNat:Int):=by simp[qal,qgU]
end Go.Eng
namespace Go.Eng
inductive Rd (τ:Type) where
 |next (v:τ)
 |done (j:Nat)
inductive Rx (τ:Type) where
 |next (v:τ)
 |out (x:X) (s:St)
def qju{τ:Type}(st:τ->Option (Rd τ)):Nat->τ->Option (Nat×τ)
 |0,_=>none
 |n+1,v=>match st v with
  |some (.next v')=>qju st n v'
  |some (.done j)=>some (j,v)
  |none=>none
theorem qvP{τ:Type}{st:τ->Option (Rd τ)}:∀{n:Nat} {v:τ} {r:Nat×τ},qju st n v=some r->qju st (n+1) v=some r
 |0,v,r,h=>by simp[qju]at h
 |n+1,v,r,h=>by
  simp only[qju]at h ⊢;cases hs:st v with
  |none=>rw[hs]at h;cases h
  |some q=>
   rw[hs]at h;cases q with
   |next v'=>exact qvP h
   |done j=>exact h
theorem qvO{τ:Type}{st:τ->Option (Rd τ)}{n m:Nat}(hnm:n<=m){v:τ}{r:Nat×τ}(h:qju st n v=some r):qju st m v=some r:=by
 induction hnm with
 |refl=>exact h
 |step _ ih=>exact qvP ih
open Classical in
noncomputable def qae{τ:Type}(st:τ->Option (Rd τ))(v:τ):Option (Nat×τ):=
 if h:∃r n,qju st n v=some r then some h.choose else none
theorem qfX{τ:Type}{st:τ->Option (Rd τ)}{v:τ}{r:Nat×τ}:qae st v=some r ↔ ∃n,qju st n v=some r:=by
 unfold qae;split
 ·rename_i h;obtain⟨n,hn⟩:=h.choose_spec;constructor
  ·intro hr;cases hr;exact⟨n,hn⟩
  ·rintro⟨m,hm⟩;have h1:=qvO (Nat.le_max_left n m) hn;have h2:=qvO (jCq n m) hm;rw[h1]at h2;exact h2
 ·rename_i h;constructor
  ·intro hr;cases hr
  ·rintro⟨n,hn⟩;exact absurd ⟨r,n,hn⟩ h
theorem qvQ{τ:Type}(st:τ->Option (Rd τ))(v:τ):qae st v=match st v with
  |some (.next v')=>qae st v'
  |some (.done j)=>some (j,v)
  |none=>none:=by
 cases hs:st v with
 |none=>
  simp only;cases hi:qae st v with
  |none=>rfl
  |some r=>
   obtain⟨n,hn⟩:=qfX.1 hi;cases n with
   |zero=>simp[qju]at hn
   |succ n=>simp[qju,hs]at hn
 |some q=>
  cases q with
  |done j=>exact qfX.2 ⟨1,by simp[qju,hs]⟩
  |next v'=>
   simp only;cases hi:qae st v' with
   |some r=>
    obtain⟨n,hn⟩:=qfX.1 hi;exact qfX.2 ⟨n+1,by simp[qju,hs,hn]⟩
   |none=>
    cases hj:qae st v with
    |none=>rfl
    |some r=>
     obtain⟨n,hn⟩:=qfX.1 hj;cases n with
     |zero=>simp[qju]at hn
     |succ n=>
      simp only[qju,hs]at hn;rw[qfX.2 ⟨n,hn⟩]at hi;cases hi
theorem qaq{τ:Type}{st:τ->Option (Rd τ)}{v v':τ}(h:st v=some (.next v')):qae st v=qae st v':=by rw[qvQ,h]
theorem qaf{τ:Type}{st:τ->Option (Rd τ)}{v:τ}{j:Nat}(h:st v=some (.done j)):qae st v=some (j,v):=by rw[qvQ,h]
def zdc{τ:Type}(keep:List Nat)(dec:St->Option τ)(x:X)(s:St):Option (Rx τ):=match x with
 | .normal=>match norm (hk keep) s with
  |some s=>match dec s with
   |some v=>some (.next v)
   |none=>none
  |none=>none
 |x=>match qyM keep x s with
  |some (x,s)=>some (.out x s)
  |none=>none
def cv{τ:Type}(ex:Nat->X×St):Option (Rd τ)->Option (Rx τ)
 |some (.next v)=>some (.next v)
 |some (.done j)=>some (.out (ex j).1 (ex j).2)
 |none=>none
section
variable {IP:Prog} {τ:Type} {cK:(R:Type)->qi6 R} {lK:qDp (Rx τ)} {keep:List Nat} {c:ICode}
end
def Told(IP:Prog)(keep:List Nat)(c:ICode)(g:St->List (Bool×X×St)):Prop:=
 (∀s x s',(true,x,s')∈g s->qkR IP keep c s=some (x,s'))/\ ∀s,g s≠ []->norm (hk keep) s=some s
theorem qBP{IP:Prog}{keep:List Nat}{c:ICode}{g:St->List (Bool×X×St)}(h:Told IP keep c g){s s1:St}(hn:norm (hk keep) s=some s1){x:X}{s':St}(hm:(true,x,s')∈g s1):qkR IP keep c s=some (x,s'):=
 qws (by rw[hn,h.2 s1 (fun he=>by rw[he]at hm;cases hm)]) (h.1 s1 x s' hm)
end Go.Eng
namespace Go.Eng
inductive Lf where
 |i (n:Int)
 |b (x:Bool)
 |s (s:List UInt8)
 |l (es:List AV)
 |n (k:Nat)
 |m (kvs:List (AV×AV))
inductive PA where
 |int (k:IntKind)
 |bool
 |str
 |nilp|nilm|nilf|nili|junk
 |nils (q:NilS)
 |agg (ps:List PA)
 |tup (ps:List PA)
 |view (sz:Nat)
 |ptr (ps:List PA)
 |own (id off:Nat)
 |ownn (id off:Nat)
 |ref (id idx off:Nat)
 |mref (id:Nat)
 |fn (f:FnId) (ps:List PA)
 |iface (t:Nat) (p:PA)
def q2E:Option (List Lf)->Option (List Lf)->Option (List Lf)
 |some a,some b=>some (a++b)
 |_,_=>none
def mA:PA->AV->Option (List Lf)
 | .int k,.int k' n=>if k'=k then some [.i n]else none
 | .bool,.bool x=>some [.b x]
 | .str,.str x=>some [.s x]
 | .nilp,.nilp=>some []
 | .nilm,.nilm=>some []
 | .nilf,.nilf=>some []
 | .nili,.nili=>some []
 | .junk,.junk=>some []
 | .nils q,.nils q'=>if q'=q then some []else none
 | .agg ps,.agg cs=>mAs ps cs
 | .tup ps,.tup cs=>mAs ps cs
 | .view sz,.view sz' es=>if sz'=sz then some [.l es]else none
 | .ptr ps,.ptr cs=>mAs ps cs
 | .own id off,.own id' off' none=>if id'=id/\off'=off then some []else none
 | .ownn id off,.own id' off' (some k)=>if id'=id/\off'=off then some [.n k]else none
 | .ref id idx off,.ref id' idx' off'=>if id'=id/\idx'=idx/\off'=off then some []else none
 | .mref id,.mref id'=>if id'=id then some []else none
 | .fn f ps,.fn f' cs=>if f'=f then mAs ps cs else none
 | .iface t p,.iface t' v=>if t'=t then mA p v else none
 |_,_=>none
where mAs:List PA->List AV->Option (List Lf)
 | [],[]=>some []
 |p::ps,v::vs=>q2E (mA p v) (mAs ps vs)
 |_,_=>none
def lfI:List Lf->Int
 | .i n::_=>n
 |_=>0
def lfB:List Lf->Bool
 | .b n::_=>n
 |_=>false
def lfS:List Lf->List UInt8
 | .s n::_=>n
 |_=>[]
def lfL:List Lf->List AV
 | .l n::_=>n
 |_=>[]
def lfN:List Lf->Nat
 | .n n::_=>n
 |_=>0
def lfM:List Lf->List (AV×AV)
 | .m n::_=>n
 |_=>[]
def szA:PA->Nat
 | .int _ | .bool | .str | .view _ | .ownn _ _=>1
 | .agg ps | .tup ps | .ptr ps | .fn _ ps=>szAs ps
 | .iface _ p=>szA p
 |_=>0
where szAs:List PA->Nat
 | []=>0
 |p::ps=>szA p+szAs ps
def fA:PA->List Lf->AV
 | .int k,ls=>.int k (lfI ls)
 | .bool,ls=>.bool (lfB ls)
 | .str,ls=>.str (lfS ls)
 | .nilp,_=>.nilp
 | .nilm,_=>.nilm
 | .nilf,_=>.nilf
 | .nili,_=>.nili
 | .junk,_=>.junk
 | .nils sz,_=>.nils sz
 | .agg ps,ls=>.agg (fAs ps ls)
 | .tup ps,ls=>.tup (fAs ps ls)
 | .view sz,ls=>.view sz (lfL ls)
 | .ptr ps,ls=>.ptr (fAs ps ls)
 | .own id off,_=>.own id off none
 | .ownn id off,ls=>.own id off (some (lfN ls))
 | .ref id idx off,_=>.ref id idx off
 | .mref id,_=>.mref id
 | .fn f ps,ls=>.fn f (fAs ps ls)
 | .iface t p,ls=>.iface t (fA p ls)
where fAs:List PA->List Lf->List AV
 | [],_=>[]
 |p::ps,ls=>fA p ls::fAs ps (ls.drop (szA p))
theorem qhh{a b:Option (List Lf)}{r:List Lf}(h:q2E a b=some r):∃x y,a=some x/\b=some y/\r=x++y:=by
 cases a<;>cases b<;>simp[q2E]at h;exact⟨_,_,rfl,rfl,h.symm⟩
mutual
theorem q3w:∀(p:PA) {v:AV} {ls:List Lf},mA p v=some ls->ls.length=szA p/\ ∀r,fA p (ls++r)=v
 | .int k,v,ls,h=>by
  cases v<;>simp only[mA,reduceCtorEq]at h;split at h
  ·rename_i hk;subst hk;simp at h;subst h;exact⟨rfl,fun r=>rfl⟩
  ·cases h
 | .bool,v,ls,h=>by cases v<;>simp[mA]at h;subst h;exact⟨rfl,fun r=>rfl⟩
 | .str,v,ls,h=>by cases v<;>simp[mA]at h;subst h;exact⟨rfl,fun r=>rfl⟩
 | .nilp,v,ls,h=>by cases v<;>simp[mA]at h;subst h;exact⟨rfl,fun r=>rfl⟩
 | .nilm,v,ls,h=>by cases v<;>simp[mA]at h;subst h;exact⟨rfl,fun r=>rfl⟩
 | .nilf,v,ls,h=>by cases v<;>simp[mA]at h;subst h;exact⟨rfl,fun r=>rfl⟩
 | .nili,v,ls,h=>by cases v<;>simp[mA]at h;subst h;exact⟨rfl,fun r=>rfl⟩
 | .junk,v,ls,h=>by cases v<;>simp[mA]at h;subst h;exact⟨rfl,fun r=>rfl⟩
 | .nils sz,v,ls,h=>by
  cases v<;>simp only[mA,reduceCtorEq]at h;split at h
  ·rename_i hk;subst hk;simp at h;subst h;exact⟨rfl,fun r=>rfl⟩
  ·cases h
 | .agg ps,v,ls,h=>by
  cases v<;>simp only[mA,reduceCtorEq]at h;obtain⟨h1,h2⟩:=qtb ps h;exact⟨h1,fun r=>by simp only[fA,h2]⟩
 | .tup ps,v,ls,h=>by
  cases v<;>simp only[mA,reduceCtorEq]at h;obtain⟨h1,h2⟩:=qtb ps h;exact⟨h1,fun r=>by simp only[fA,h2]⟩
 | .view sz,v,ls,h=>by
  cases v<;>simp only[mA,reduceCtorEq]at h;split at h
  ·rename_i hk;subst hk;simp at h;subst h;exact⟨rfl,fun r=>rfl⟩
  ·cases h
 | .ptr ps,v,ls,h=>by
  cases v<;>simp only[mA,reduceCtorEq]at h;obtain⟨h1,h2⟩:=qtb ps h;exact⟨h1,fun r=>by simp only[fA,h2]⟩
 | .own id off,v,ls,h=>by
  cases v<;>first|(exfalso;revert h;simp[mA];done)|skip
  rename_i a b lo;cases lo<;>first|(exfalso;revert h;simp[mA];done)|skip
  simp only[mA]at h;split at h
  ·rename_i hk;obtain⟨rfl,rfl⟩:=hk;simp at h;subst h;exact⟨rfl,fun r=>rfl⟩
  ·cases h
 | .ownn id off,v,ls,h=>by
  cases v<;>first|(exfalso;revert h;simp[mA];done)|skip
  rename_i a b lo;cases lo<;>first|(exfalso;revert h;simp[mA];done)|skip
  simp only[mA]at h;split at h
  ·rename_i hk;obtain⟨rfl,rfl⟩:=hk;simp at h;subst h;exact⟨rfl,fun r=>rfl⟩
  ·cases h
 | .ref id idx off,v,ls,h=>by
  cases v<;>simp only[mA,reduceCtorEq]at h;split at h
  ·rename_i hk;obtain⟨rfl,rfl,rfl⟩:=hk;simp at h;subst h;exact⟨rfl,fun r=>rfl⟩
  ·cases h
 | .mref id,v,ls,h=>by
  cases v<;>simp only[mA,reduceCtorEq]at h;split at h
  ·rename_i hk;subst hk;simp at h;subst h;exact⟨rfl,fun r=>rfl⟩
  ·cases h
 | .fn f ps,v,ls,h=>by
  cases v<;>simp only[mA,reduceCtorEq]at h;split at h
  ·rename_i hk;subst hk;obtain⟨h1,h2⟩:=qtb ps h;exact⟨h1,fun r=>by simp only[fA,h2]⟩
  ·cases h
 | .iface t p,v,ls,h=>by
  cases v<;>simp only[mA,reduceCtorEq]at h;split at h
  ·rename_i hk;subst hk;obtain⟨h1,h2⟩:=q3w p h;exact⟨h1,fun r=>by simp only[fA,h2]⟩
  ·cases h
theorem qtb:∀(ps:List PA) {vs:List AV} {ls:List Lf},mA.mAs ps vs=some ls->ls.length=szA.szAs ps/\ ∀r,fA.fAs ps (ls++r)=vs
 | [],vs,ls,h=>by cases vs<;>simp[mA.mAs]at h;subst h;exact⟨rfl,fun r=>rfl⟩
 |p::ps,vs,ls,h=>by
  cases vs<;>simp only[mA.mAs,reduceCtorEq]at h;obtain⟨x,y,h1,h2,rfl⟩:=qhh h;obtain⟨g1,g2⟩:=q3w p h1;obtain⟨g3,g4⟩:=qtb ps h2;refine⟨by simp[szA.szAs,g1,g3],fun r=>?_⟩;simp only[fA.fAs];rw[jAf,g2]
  congr 1
  rw[<-g1,List.drop_left];exact g4 r
end
inductive PB where
 |box (ps:List PA) (fz:Bool)
 |arr (sz:Nat) (fz:Bool)
 |mp
def mB:PB->Blk->Option (List Lf)
 | .box ps fz,.box cs fz'=>if fz'=fz then mA.mAs ps cs else none
 | .arr sz fz,.arr sz' es fz'=>if sz'=sz/\fz'=fz then some [.l es]else none
 | .mp,.mp kvs=>some [.m kvs]
 |_,_=>none
def szB:PB->Nat
 | .box ps _=>szA.szAs ps
 |_=>1
def fB:PB->List Lf->Blk
 | .box ps fz,ls=>.box (fA.fAs ps ls) fz
 | .arr sz fz,ls=>.arr sz (lfL ls) fz
 | .mp,ls=>.mp (lfM ls)
theorem zor{p:PB}{v:Blk}{ls:List Lf}(h:mB p v=some ls):ls.length=szB p/\ ∀r,fB p (ls++r)=v:=by
 cases p<;>cases v<;>simp only[mB,reduceCtorEq]at h
 ·split at h
  ·rename_i hk;subst hk;obtain⟨h1,h2⟩:=qtb _ h;exact⟨h1,fun r=>by simp only[fB,h2]⟩
  ·cases h
 ·split at h
  ·rename_i hk;obtain⟨rfl,rfl⟩:=hk;simp at h;subst h;exact⟨rfl,fun r=>rfl⟩
  ·cases h
 ·simp at h;subst h;exact⟨rfl,fun r=>rfl⟩
def mH:List (Nat×PB)->Heap->Option (List Lf)
 | [],[]=>some []
 |(i,p)::ps,(j,b)::h=>if j=i then q2E (mB p b) (mH ps h)else none
 |_,_=>none
def szH:List (Nat×PB)->Nat
 | []=>0
 |(_,p)::ps=>szB p+szH ps
def fH:List (Nat×PB)->List Lf->Heap
 | [],_=>[]
 |(i,p)::ps,ls=>(i,fB p ls)::fH ps (ls.drop (szB p))
theorem q3y:∀{ps:List (Nat×PB)} {h:Heap} {ls:List Lf},mH ps h=some ls->ls.length=szH ps/\ ∀r,fH ps (ls++r)=h
 | [],h,ls,hh=>by cases h<;>simp[mH]at hh;subst hh;exact⟨rfl,fun r=>rfl⟩
 |(i,p)::ps,h,ls,hh=>by
  cases h with
  |nil=>simp[mH]at hh
  |cons jb h=>
   obtain⟨j,b⟩:=jb;simp only[mH]at hh;split at hh
   ·rename_i hk;subst hk;obtain⟨x,y,h1,h2,rfl⟩:=qhh hh;obtain⟨g1,g2⟩:=zor h1;obtain⟨g3,g4⟩:=q3y h2;refine⟨by simp[szH,g1,g3],fun r=>?_⟩;simp only[fH];rw[jAf,g2,<-g1,List.drop_left,g4]
   ·cases hh
def mE:List (Nat×PA)->Env->Option (List Lf)
 | [],[]=>some []
 |(i,p)::ps,(j,b)::h=>if j=i then q2E (mA p b) (mE ps h)else none
 |_,_=>none
def szE:List (Nat×PA)->Nat
 | []=>0
 |(_,p)::ps=>szA p+szE ps
def fE:List (Nat×PA)->List Lf->Env
 | [],_=>[]
 |(i,p)::ps,ls=>(i,fA p ls)::fE ps (ls.drop (szA p))
theorem zjQ:∀{ps:List (Nat×PA)} {h:Env} {ls:List Lf},mE ps h=some ls->ls.length=szE ps/\ ∀r,fE ps (ls++r)=h
 | [],h,ls,hh=>by cases h<;>simp[mE]at hh;subst hh;exact⟨rfl,fun r=>rfl⟩
 |(i,p)::ps,h,ls,hh=>by
  cases h with
  |nil=>simp[mE]at hh
  |cons jb h=>
   obtain⟨j,b⟩:=jb;simp only[mE]at hh;split at hh
   ·rename_i hk;subst hk;obtain⟨x,y,h1,h2,rfl⟩:=qhh hh;obtain⟨g1,g2⟩:=q3w p h1;obtain⟨g3,g4⟩:=zjQ h2;refine⟨by simp[szE,g1,g3],fun r=>?_⟩;simp only[fE];rw[jAf,g2,<-g1,List.drop_left,g4]
   ·cases hh
structure PSt where
 tm:List (Nat×PA)
 hp:List (Nat×PB)
 nx:Nat
 k:Nat
def mSt(p:PSt)(s:St):Option (List Lf):=if s.nx=p.nx/\s.k=p.k then q2E (mE p.tm s.tm) (mH p.hp s.hp)else none
def fSt(p:PSt)(ls:List Lf):St:=⟨fE p.tm ls,fH p.hp (ls.drop (szE p.tm)),p.nx,p.k⟩
theorem q7X{p:PSt}{s:St}{ls:List Lf}(h:mSt p s=some ls):fSt p ls=s:=by
 simp only[mSt]at h;split at h
 ·rename_i hk;obtain⟨x,y,h1,h2,rfl⟩:=qhh h;obtain⟨g1,g2⟩:=zjQ h1;obtain⟨g3,g4⟩:=q3y h2;have:=g4 [];rw[jC6]at this;obtain⟨tm,hp,nx,k⟩:=s;simp only at hk;simp only[fSt,g2,<-g1,List.drop_left,this,hk.1,hk.2]
 ·cases h
structure PArgs where
 as:List PA
 hp:List (Nat×PB)
def zjP(p:PArgs)(a:List AV)(h:Heap):Option (List Lf):=q2E (mA.mAs p.as a) (mH p.hp h)
def q2V(p:PArgs)(ls:List Lf):List AV×Heap:=(fA.fAs p.as ls,fH p.hp (ls.drop (szA.szAs p.as)))
theorem q3x{p:PArgs}{a:List AV}{h:Heap}{ls:List Lf}(hh:zjP p a h=some ls):(a,h)=q2V p ls:=by
 obtain⟨x,y,h1,h2,rfl⟩:=qhh hh;obtain⟨g1,g2⟩:=qtb _ h1;obtain⟨g3,g4⟩:=q3y h2;have:=g4 [];rw[jC6]at this;simp only[q2V,g2,<-g1,List.drop_left,this]
structure PRes where
 pan:Bool
 v:PA
 hp:List (Nat×PB)
def zm8(p:PRes)(r:Res)(h:Heap):Option (List Lf):=match p.pan,r with
 |false,.ret v=>q2E (mA p.v v) (mH p.hp h)
 |true,.pan v=>q2E (mA p.v v) (mH p.hp h)
 |_,_=>none
def zgy(p:PRes)(ls:List Lf):Res×Heap:=((match p.pan with|false=>.ret (fA p.v ls)|true=>.pan (fA p.v ls)),fH p.hp (ls.drop (szA p.v)))
theorem qUK{p:PRes}{r:Res}{h:Heap}{ls:List Lf}(hh:zm8 p r h=some ls):(r,h)=zgy p ls:=by
 obtain⟨pan,pv,php⟩:=p;cases pan<;>cases r<;>simp only[zm8,reduceCtorEq]at hh
 all_goals
  obtain⟨x,y,h1,h2,rfl⟩:=qhh hh;obtain⟨g1,g2⟩:=q3w _ h1;obtain⟨g3,g4⟩:=q3y h2;have:=g4 [];rw[jC6]at this;simp only[zgy,g2,<-g1,List.drop_left,this]
end Go.Eng
namespace Go.Eng
instance instSumInh {α β:Type} [Inhabited α]:Inhabited (α⊕β):=⟨.inl default⟩
inductive DT (α:Type) where
 |no
 |at (a:α)
 |br (b:Bool) (x y:DT α)
def DT.ev{α:Type}:DT α->Option α
 | .no=>none
 | .at a=>some a
 | .br b x y=>Go.Eng.br b x.ev y.ev
@[simp] theorem ev_no {α:Type}:(DT.no:DT α).ev=none:=rfl
@[simp] theorem ev_at {α:Type} (a:α):(DT.at a).ev=some a:=rfl
@[simp] theorem ev_br {α:Type} (b:Bool) (x y:DT α):(DT.br b x y).ev=bif b then x.ev else y.ev:=by cases b<;>rfl
noncomputable def DT.bi{α β:Type}[Inhabited β](o:Option β)(k:β->DT α)(e:DT α):DT α:=.br (sm o) (k (gv o)) e
@[simp] theorem ev_bi_some {α β:Type} [Inhabited β] (y:β) (k:β->DT α) (e:DT α):(DT.bi (some y) k e).ev=(k y).ev:=rfl
@[simp] theorem ev_bi_none {α β:Type} [Inhabited β] (k:β->DT α) (e:DT α):(DT.bi (none:Option β) k e).ev=e.ev:=rfl
@[simp] theorem br_eq {R:Type} (b:Bool) (x y:R):Go.Eng.br b x y=bif b then x else y:=by cases b<;>rfl
@[simp] theorem cond_some {α:Type} (b:Bool) (x y:α):(bif b then some x else some y)=some (bif b then x else y):=by cases b<;>rfl
noncomputable def qaC{α:Type}(x:α):α:=Classical.choose (⟨x,rfl⟩:∃y,y=x)
theorem qaa{α:Type}(x:α):qaC x=x:=Classical.choose_spec (⟨x,rfl⟩:∃y,y=x)
def pl{α β:Type}(o:Option (α⊕β)):Option α:=match o with
 |some (.inl x)=>some x
 |_=>none
def pr{α β:Type}(o:Option (α⊕β)):Option β:=match o with
 |some (.inr x)=>some x
 |_=>none
def sl{α β:Type}[Inhabited α](o:α⊕β):α:=match o with
 | .inl x=>x
 |_=>default
def sr{α β:Type}[Inhabited β](o:α⊕β):β:=match o with
 | .inr x=>x
 |_=>default
def pj{τ:Type}(j:Nat)(o:Option (Nat×τ)):Option τ:=match o with
 |some (k,w)=>if k=j then some w else none
 |none=>none
@[simp] theorem pl_inl {α β:Type} (x:α):pl (some (Sum.inl x):Option (α⊕β))=some x:=rfl
@[simp] theorem pl_inr {α β:Type} (x:β):pl (some (Sum.inr x):Option (α⊕β))=none:=rfl
@[simp] theorem pl_none {α β:Type}:pl (none:Option (α⊕β))=none:=rfl
@[simp] theorem pr_inl {α β:Type} (x:α):pr (some (Sum.inl x):Option (α⊕β))=none:=rfl
@[simp] theorem pr_inr {α β:Type} (x:β):pr (some (Sum.inr x):Option (α⊕β))=some x:=rfl
@[simp] theorem pr_none {α β:Type}:pr (none:Option (α⊕β))=none:=rfl
@[simp] theorem sl_inl {α β:Type} [Inhabited α] (x:α):sl (Sum.inl x:α⊕β)=x:=rfl
@[simp] theorem sr_inr {α β:Type} [Inhabited β] (x:β):sr (Sum.inr x:α⊕β)=x:=rfl
@[simp] theorem pj_some {τ:Type} (j k:Nat) (w:τ):pj j (some (k,w))=if k=j then some w else none:=rfl
@[simp] theorem pj_none {τ:Type} (j:Nat):pj j (none:Option (Nat×τ))=none:=rfl
theorem zd6{α β:Type}{o:Option (α⊕β)}{x:α}(h:pl o=some x):o=some (.inl x):=by
 unfold pl at h;split at h
 ·cases h;rfl
 ·cases h
theorem zd7{α β:Type}{o:Option (α⊕β)}{x:β}(h:pr o=some x):o=some (.inr x):=by
 unfold pr at h;split at h
 ·cases h;rfl
 ·cases h
theorem zqi{τ:Type}{j:Nat}{o:Option (Nat×τ)}{w:τ}(h:pj j o=some w):o=some (j,w):=by
 unfold pj at h;split at h
 ·split at h
  ·rename_i hk;cases h;rw[hk]
  ·cases h
 ·cases h
abbrev Ent:=List AV->Heap->List (Bool×Res×Heap)
abbrev Tab:=List (Nat×Ent)
def zg6:Tab->Nat->List AV->Heap->List (Bool×Res×Heap)
 | [],_,_,_=>[]
 |(i,g)::t,f,a,h=>if f=i then g a h++zg6 t f a h else zg6 t f a h
def Snd(IP:Prog)(f:Nat)(g:Ent):Prop:=∀a h r h',(true,r,h')∈g a h->qba IP f a h=some (r,h')
def qan(IP:Prog):Tab->Prop
 | []=>True
 |(i,g)::t=>Snd IP i g/\qan IP t
def qxz(T:Tab)(R:Type):qi6 R:=fun f a h K=>zqI K (zg6 T f a h)
theorem qGA{IP:Prog}:∀{T:Tab},qan IP T-> ∀{f:Nat} {a:List AV} {h:Heap} {r:Res} {h':Heap},(true,r,h')∈zg6 T f a h->qba IP f a h=some (r,h')
 | [],_,f,a,h,r,h',hm=>by simp[zg6]at hm
 |(i,g)::t,hT,f,a,h,r,h',hm=>by
  simp only[zg6]at hm;split at hm
  ·rename_i hf;subst hf;rcases jAo.1 hm with hm|hm
   ·exact hT.1 _ _ _ _ hm
   ·exact qGA hT.2 hm
  ·exact qGA hT.2 hm
theorem qxA{IP:Prog}{T:Tab}(h:qan IP T){R:Type}:qrf (qba IP) (qxz T R):=by
 intro f a hp K ρ hs;obtain⟨r,h',h1,h2⟩:=qw4 hs;exact⟨r,h',qGA h h1,h2⟩
abbrev qbJ:=St->List (Bool×X×St)
abbrev qKL:=List (Nat×qbJ)
def zg5:qKL->Nat->St->List (Bool×X×St)
 | [],_,_=>[]
 |(i,g)::t,id,s=>if id=i then g s++zg5 t id s else zg5 t id s
def qs9{R:Type}(T:qKL):qDp R:=fun k _ s K=>match k with
 | []=>none
 |id::_=>match norm (hk k) s with
  |none=>none
  |some s1=>zqH K (zg5 T id s1)
def qKp:qKL->List Nat->List qbJ
 | [],_=>[]
 |(i,g)::t,k=>match k with
  | []=>[]
  |id::_=>if id=i then g::qKp t k else qKp t k
def LOk(IP:Prog)(T:qKL):List (List Nat×ICode)->Prop
 | []=>True
 |p::r=>(∀g∈qKp T p.1,Told IP p.1 p.2 g)/\LOk IP T r
theorem qzl{id:Nat}{rest:List Nat}{s:St}{e:Bool×X×St}:∀{T:qKL},e∈zg5 T id s-> ∃g∈qKp T (id::rest),e∈g s
 | [],h=>by simp[zg5]at h
 |(i,g)::t,h=>by
  simp only[zg5]at h;split at h
  ·rename_i hi;rcases jAo.1 h with h|h
   ·exact⟨g,by simp[qKp,hi],h⟩
   ·obtain⟨g',h1,h2⟩:=qzl h;exact⟨g',by simp[qKp,hi];exact Or.inr (by rw[<-hi];exact h1),h2⟩
  ·rename_i hi;obtain⟨g',h1,h2⟩:=qzl h;exact⟨g',by simp[qKp,hi];exact h1,h2⟩
theorem qne{IP:Prog}{T:qKL}:∀{a b:List (List Nat×ICode)},LOk IP T (a++b)->LOk IP T a/\LOk IP T b
 | [],_,h=>⟨trivial,h⟩
 |_::_,_,h=>⟨⟨h.1,(qne h.2).1⟩,(qne h.2).2⟩
theorem qyu{IP:Prog}{T:qKL}{R:Type}:∀{c:ICode},LOk IP T (loops c)->qxk (R:=R) (qkR IP) (qs9 T) c:=by
 intro c
 induction c with
 |seq a b iha ihb=>intro h;exact⟨iha (qne h).1,ihb (qne h).2⟩
 |cond x a b iha ihb=>intro h;exact⟨iha (qne h).1,ihb (qne h).2⟩
 |block id a ih=>intro h;exact ih h
 |loop k a ih=>
  intro h s K ρ hs;have hk:=h.1;cases k with
  |nil=>simp[qs9]at hs
  |cons id rest=>
   simp only[qs9]at hs;split at hs
   ·cases hs
   ·rename_i s1 hn;obtain⟨x,s',h1,h2⟩:=qw3 hs;obtain⟨g,h3,h4⟩:=qzl (rest:=rest) h1;exact⟨x,s',qBP (hk g h3) hn h4,h2⟩
 |_=>intro _;exact trivial
theorem qac{IP:Prog}{T:qKL}{c:ICode}{l:List (List Nat×ICode)}(h:loops c=l)(hl:LOk IP T l):LOk IP T (loops c):=h▸hl
theorem qar{IP:Prog}{T:qKL}{p:List Nat×ICode}{g:qbJ}(h:qKp T p.1= [g])(t:Told IP p.1 p.2 g):∀g∈qKp T p.1,Told IP p.1 p.2 g:=by
 rw[h];intro g' hg';rw[jAt]at hg';subst hg';exact t
theorem qKq{IP:Prog}{T:qKL}{p:List Nat×ICode}(h:qKp T p.1= []):∀g∈qKp T p.1,Told IP p.1 p.2 g:=by
 rw[h];intro g' hg';cases hg'
section
variable {R:Type} {ls:List Lf} {v:R}
end
def E1{α:Type}[Inhabited α](e:α->Res×Heap)(o:Option α):List (Bool×Res×Heap):=[(sm o,(e (gv o)).1,(e (gv o)).2)]
def E2{α β:Type}[Inhabited α](e:α->Res×Heap)(E:Option β->List (Bool×Res×Heap))(o:Option (α⊕β)):List (Bool×Res×Heap):=(sm (pl o),(e (gv (pl o))).1,(e (gv (pl o))).2)::E (pr o)
theorem zjs{IP:Prog}{T:Tab}{L:qKL}{f:Nat}{F:Fun}{args:List AV}{h:Heap}{β:Type}{dec:Res->Heap->Option β}{er:β->Res×Heap}{t:DT β}{y:β}(hT:qan IP T)(hF:IP.fn f=some F)(hL:LOk IP L (loops F.body))
  (hdec:∀r h y,dec r h=some y->(r,h)=er y) (hb:qD3 (R:=β) IP (qxz T) (qs9 L) f F args h dec=t.ev) (ht:t.ev=some y):qba IP f args h=some (er y):=by
 rw[ht]at hb;obtain⟨r,h',h1,h2⟩:=qrw (fun R=>qxA hT) (qyu hL) hb;rw[<-hdec _ _ _ h2];exact qHd hF h1
def cvR{τ:Type}(ex:Nat->X×St):Rd τ->Rx τ
 | .next v=>.next v
 | .done j=>.out (ex j).1 (ex j).2
def cvD{τ:Type}(ex:Nat->X×St):DT (Rd τ)->DT (Rx τ)
 | .no=>.no
 | .at r=>.at (cvR ex r)
 | .br b x y=>.br b (cvD ex x) (cvD ex y)
theorem qRR{τ:Type}{ex:Nat->X×St}:∀{t:DT (Rd τ)},(cvD ex t).ev=cv ex t.ev
 | .no=>rfl
 | .at r=>by cases r<;>rfl
 | .br b x y=>by
  cases b
  ·exact qRR (t:=y)
  ·exact qRR (t:=x)
def zqe:X->Bool
 | .normal=>false
 |_=>true
open Classical in
noncomputable def qi4{β:Type}(s:Nat->Option β):Option β:=if h:∃r n,∀m,n<=m->s m=some r then some h.choose else none
theorem qT6{β:Type}{s:Nat->Option β}{r:β}(h:qi4 s=some r):∃n,s n=some r:=by
 unfold qi4 at h;split at h
 ·rename_i hx;obtain⟨n,hn⟩:=hx.choose_spec;cases h;exact⟨n,hn n (jAj n)⟩
 ·cases h
theorem qdz{β:Type}{s:Nat->Option β}{r:β}{n:Nat}(h:∀m,n<=m->s m=some r):qi4 s=some r:=by
 unfold qi4;have hx:∃r n,∀m,n<=m->s m=some r:=⟨r,n,h⟩;rw[dif_pos hx];obtain⟨k,hk⟩:=hx.choose_spec;have h1:=hk (max n k) (jCq _ _);rw[h _ (Nat.le_max_left _ _)]at h1;exact h1.symm
end Go.Eng
namespace Go.Eng
set_option linter.unusedSectionVars false
variable [Globs]
def noC:qa2:=fun _ _ _=>none
def noL:qgp:=fun _ _ _=>none
def qAW(sz bytes:Nat):List AV->Heap->Option (Res×Heap)
 | [.view sz' es],[]=>if sz'=sz then
   if es.length=0 then some (.ret (.nils ⟨sz,.any⟩),[])
   else if es.length*bytes<=lim then some (.ret (.own 0 0 none),[(0,.arr sz es false)])else none
  else none
 |_,_=>none
theorem qKU{P:Program}{w:World}{I:Imm}{m:Names}{h:Heap}{f:Nat}{vs:Array Value}{v v':AV}{h':Heap}(hc:Calls P f vs w (qKN w I m h (.ret v) h'))(hw:∀{w I m u},Rel w I v m u->Rel w I v' m u) :
  Calls P f vs w (qKN w I m h (.ret v') h'):=by
 refine hc.mono ?_;rintro e w' ⟨I',m',ha,u,he,hu⟩;exact⟨I',m',ha,u,he,hw hu⟩
theorem qKZ{P:Program}{IP:Prog}{f:Nat}{F:Fun}{sz bytes:Nat}(hF:qDn P f F)
  (h1:body IP noC noL f F [.nils ⟨sz,.nil⟩] []=some (.ret (.nils ⟨sz,.nil⟩),[]))
  (h2:body IP noC noL f F [.nils ⟨sz,.non⟩] []=some (.ret (.nils ⟨sz,.any⟩),[]))
  (h3:∀es:List AV,es.length≠0->es.length*bytes<=lim->body IP noC noL f F [.view sz es] []=some (.ret (.own 0 0 none),[(0,.arr sz es false)])):qeA P f (qAW sz bytes):=by
 have hC:qdF P noC:=fun _ _ _ _ _ h=>by cases h
 have hL:ql3 P noL:=fun _ _ _ _ _ h=>by cases h
 intro args h r h' hg;unfold qAW at hg;split at hg
 ·rename_i sz' es;split at hg
  ·rename_i hsz;subst hsz;split at hg
   ·rename_i h0;cases hg;refine fun w I m vs H hm hr=>.inl ⟨(qdb hC hL hF h1).1,?_⟩
    obtain⟨v,vs',rfl,hv,hvs⟩:=by simpa only[qaQ]using hr
    obtain⟨a,cap,rfl,hcap,_,hz⟩:=by simpa only[Rel]using hv
    subst hvs;cases a with
    |none=>
     have hc0:=hz rfl;subst hc0;refine qKU ((qdb hC hL hF h1).2 w I m _ H hm ?_) ?_
     ·simp only[qaQ,Rel];exact⟨_,_,rfl,⟨none,0,by rw[h0],by simp,by simp,by simp⟩,rfl⟩
     ·intro w I m u hu;simp only[Rel]at hu ⊢;obtain⟨b,cap,rfl,g1,_,_⟩:=hu;exact⟨b,cap,rfl,fun _=>g1 (by simp),by simp,by simp⟩
    |some ad=>
     refine(qdb hC hL hF h2).2 w I m _ H hm ?_;simp only[qaQ,Rel];exact⟨_,_,rfl,⟨some ad,cap,by rw[h0],by simp,by simp,fun _=>⟨_,rfl⟩⟩,rfl⟩
   ·rename_i h0;split at hg
    ·rename_i hb;cases hg;exact fun w I m vs H hm hr=>.inl ⟨(qdb hC hL hF (h3 es h0 hb)).1,(qdb hC hL hF (h3 es h0 hb)).2 w I m vs H hm hr⟩
    ·cases hg
  ·cases hg
 ·cases hg
theorem qcX{R:Type}{loop:qgp}:∀c:ICode,qxk (R:=R) loop (fun _ _ _ _=>none) c
 | .seq a b=>⟨qcX a,qcX b⟩
 | .cond _ a b=>⟨qcX a,qcX b⟩
 | .block _ a=>qcX a
 | .loop _ _=>fun _ _ _ h=>by cases h
 | .skip | .region _ _ | .exit _ | .ret=>trivial
theorem qKY{IP:Prog}{f:Nat}{F:Fun}{sz bytes:Nat}{b c:Bool}{x:Res×Heap}
  (hb:∀ es:List AV,qD3 (R:=Res × Heap) IP (fun _ _ _ _ _=>none) (fun _ _ _ _=>none) f F [.view sz es] [] (fun r h=>some (r,h)) =
   br (decide (es.length≠0)) (br (decide (es.length=0)&&b) (some x) (br (decide (es.length≠0)&&(c&&room es.length bytes)) (some (.ret (.own 0 0 none),[(0,.arr sz es false)])) none)) none) (hc:c=true) (es:List AV)
  (h0:es.length≠0) (h1:es.length*bytes<=lim):body IP noC noL f F [.view sz es] []=some (.ret (.own 0 0 none),[(0,.arr sz es false)]):=by
 have hq:=hb es;have e1:decide (es.length≠0)=true:=jA8 h0;have e2:decide (es.length=0)=false:=jAe h0;have e3:room es.length bytes=true:=jA8 h1;rw[e1,e2,e3,hc]at hq;obtain⟨r,h',h2,h3⟩:=qrw (call:=noC) (loop:=noL) (fun R f a h K ρ hs=>by cases hs) (qcX _) hq;rw[h2];exact h3
end Go.Eng
namespace Go.Eng
def big:Nat:=9223372036854775807
theorem wrap64{n:Int}(h1:-9223372036854775808<=n)(h2:n<=9223372036854775807):IntKind.i64.wrap n=n:=by
 simp[IntKind.wrap,IntKind.signed,IntKind.bits];split<;>omega
theorem qat{n m:Nat}(h:n<m)(hm:m<=big):IntKind.i64.wrap ((n:Int)+1)=((n+1:Nat):Int):=by
 simp only[big]at hm;rw[wrap64 (by omega) (by omega)];simp
theorem qCQ{n:Nat}(h:0<n)(hm:n<=big):IntKind.i64.wrap ((n:Int)-1)=((n-1:Nat):Int):=by
 simp only[big]at hm;rw[wrap64 (by omega) (by omega)];omega
section
variable {τ:Type} {av:τ->AV} {ks:List CS}
theorem qAJ(l:List τ)(n:Nat):qgU (l.map av) (n:Int)=(l[n]?).map av:=by simp[qgU]
theorem q3F(hk:∀x,qpd ks (qai (av x))=true)(l:List τ)(n:Nat):qaG ks (l.map av) (n:Int)=decide (n<l.length):=by
 simp only[qaG,qAJ];by_cases h:n<l.length
 ·simp[h,hk]
 ·simp[h]
theorem qge(hk:∀x,qpd ks (qai (av x))=true){l:List τ}{n:Nat}(h:n<l.length):qaG ks (l.map av) (n:Int)=true:=by
 rw[q3F hk,jA8 h]
theorem qaD{l:List τ}{n:Nat}(h:n<l.length)(j:Nat):cellAt (l.map av) (n:Int) j=((qai (av l[n]))[j]?).getD .junk:=by
 simp[cellAt,qAJ,h]
theorem qhj{l:List τ}{n:Nat}(h:n<l.length)(j:Nat):qfs (l.map av) n j=((qai (av l[n]))[j]?).getD .junk:=by
 simp[qfs,h]
theorem qF1{l:List τ}{n off:Nat}(h:n<l.length):okP ks (l.map av) n off=qpd ks (((qai (av l[n])).drop off).take ks.length):=by
 simp[okP,h]
theorem zdY{l:List τ}{n off m:Nat}(h:n<l.length):okS (l.map av) n off m=decide (off+m<=(qai (av l[n])).length):=by
 simp[okS,h]
theorem q4e{l:List τ}{n off:Nat}{vs:List AV}(h:n<l.length){y:τ}(hy:elemOf (av l[n]) (splice (qai (av l[n])) off vs)=av y):zkx (l.map av) n off vs=(l.set n y).map av:=by
 simp[zkx,h,hy,List.map_set]
theorem qa5{l n:Nat}(h:n<l):inB l (n:Int)=true:=by simp[inB,h]
theorem qaX{s:List UInt8}{n:Nat}(h:n<s.length):qal s (n:Int)=((s[n]).toNat:Int):=by
 simp[qal,qgU,h]
theorem qa0{n m:Nat}(h:n<m):decide ((n:Int)<(m:Int))=true:=by simp[h]
theorem qJO{n m:Nat}(h:¬n<m):decide ((n:Int)<(m:Int))=false:=by simp;omega
theorem qdB{n b:Nat}(h:n*b<=lim):room n b=true:=jA8 h
end
theorem drop_at{τ:Type}{l:List τ}{n:Nat}(h:n<l.length):l.drop n=l[n]::l.drop (n+1):=List.drop_eq_getElem_cons h
theorem q2T{τ:Type}{l:List τ}{n:Nat}(h:¬n<l.length):l.drop n= []:=List.drop_eq_nil_of_le (by omega)
theorem qkf{τ:Type}{st:τ->Option (Rd τ)}(hd:Nat->τ)(K j:Nat):∀(n:Nat),n<=K->(∀m,n<=m->m<K->st (hd m)=some (.next (hd (m+1))))->st (hd K)=some (.done j)->qae st (hd n)=some (j,hd K):=by
 intro n hn hs he;obtain⟨d,rfl⟩:∃d,K=n+d:=⟨K-n,by omega⟩;clear hn
 induction d generalizing n with
 |zero=>exact qaf he
 |succ d ih=>
  rw[qaq (hs n (jAj _) (by omega))];have:=ih (n+1) (fun m h1 h2=>hs m (by omega) (by omega)) (by rw[show n+1+d=n+(d+1) by omega];exact he);rw[this,show n+1+d=n+(d+1) by omega]
def qjO{α:Type}(p:α->Bool)(jx:α->Nat)(je:Nat)(l:List α):Nat:=match l.find? p with
 |some x=>jx x
 |none=>je
theorem qbd{α τ:Type}{st:τ->Option (Rd τ)}{l:List α}(hd:Nat->τ)(p:α->Bool)(jx:α->Nat)(je:Nat)
  (hs:∀n (h:n<l.length),st (hd n)=some (bif p l[n]then .done (jx l[n])else .next (hd (n+1)))) (he:st (hd l.length)=some (.done je)) :
  qae st (hd 0)=some (qjO p jx je l,hd (l.findIdx p)):=by
 unfold qjO;cases hf:l.find? p with
 |none=>
  have hn:∀x∈l,¬p x=true:=by simpa using List.find?_eq_none.1 hf
  have hi:l.findIdx p=l.length:=List.findIdx_eq_length.2 (by intro x hx;simpa using hn x hx);rw[hi];exact qkf hd l.length je 0 (jBa _) (fun m _ hm=>by rw[hs m hm,Bool.eq_false_iff.2 (hn _ (jAi hm))];rfl) he
 |some x=>
  have hp:p x=true:=jC4 hf;have hlt:l.findIdx p<l.length:=List.findIdx_lt_length.2 ⟨x,jB4 hf,hp⟩;have hx:l[l.findIdx p]=x:=by
   have:=jAh hlt;rw[jCm]at hf;rw[this]at hf;exact jC2 hf
  refine qkf hd (l.findIdx p) (jx x) 0 (jBa _) (fun m _ hm=>?_) ?_
  ·rw[hs m (by omega),List.not_of_lt_findIdx hm];rfl
  ·rw[hs _ hlt,hx,hp];rfl
theorem qgE{τ:Type}{st:τ->Option (Rd τ)}(N:Nat)(hd:Nat->τ)(p:Nat->Bool)(jx:Nat->Nat)(je:Nat)
  (hs:∀n,n<N->st (hd n)=some (bif p n then .done (jx n)else .next (hd (n+1)))) (he:st (hd N)=some (.done je)) :
  qae st (hd 0)=some (qjO p jx je (List.range N),hd ((List.range N).findIdx p)):=
 qbd (l:=List.range N) hd p jx je (fun n h=>by rw[List.getElem_range];exact hs n (by simpa using h)) (by simpa using he)
theorem quc{α:Type}{p:α->Bool}{jx:α->Nat}{je:Nat}{l:List α}(h:l.any p=false):qjO p jx je l=je:=by
 unfold qjO;rw[List.find?_eq_none.2 (by simpa using h)]
theorem qbm{α:Type}{p:α->Bool}{j je:Nat}{l:List α}:qjO p (fun _=>j) je l=bif l.any p then j else je:=by
 unfold qjO;cases hf:l.find? p with
 |none=>
  have:l.any p=false:=by simpa using hf
  rw[this];rfl
 |some x=>
  have:l.any p=true:=List.any_eq_true.2 ⟨x,jB4 hf,jC4 hf⟩;rw[this];rfl
def qBl{α σ:Type}(f:Nat->σ->α->σ):Nat->σ->List α->σ
 |_,a,[]=>a
 |n,a,x::l=>qBl f (n+1) (f n a x) l
theorem qsG{α σ:Type}{f:σ->α->σ}:∀{l:List α} {n:Nat} {a:σ},qBl (fun _=>f) n a l=l.foldl f a
 | [],_,_=>rfl
 |x::l,n,a=>by simp only[qBl,jC3];exact qsG
theorem qNa{α σ τ:Type}{st:τ->Option (Rd τ)}{l:List α}(hd:Nat->σ->τ)(f:Nat->σ->α->σ)(jx:σ->Nat)(inv:Nat->σ->Prop){a:σ}(h0:inv 0 a)
  (hi:∀n a (h:n<l.length),inv n a->inv (n+1) (f n a l[n]))
  (hs:∀n a (h:n<l.length),inv n a->st (hd n a)=some (.next (hd (n+1) (f n a l[n])))) (he:∀a,inv l.length a->st (hd l.length a)=some (.done (jx a))) :
  qae st (hd 0 a)=some (jx (qBl f 0 a l),hd l.length (qBl f 0 a l)):=by
 have key:∀(k n:Nat) (a:σ),n+k=l.length->inv n a->qae st (hd n a)=some (jx (qBl f n a (l.drop n)),hd l.length (qBl f n a (l.drop n))):=by
  intro k
  induction k with
  |zero=>
   intro n a hn ha;have:n=l.length:=by omega
   subst this;rw[qaf (he a ha)];simp[qBl]
  |succ k ih=>
   intro n a hn ha;have h:n<l.length:=by omega
   rw[qaq (hs n a h ha),ih (n+1) _ (by omega) (hi n a h ha),drop_at h];rfl
 have:=key l.length 0 a (by omega) h0;simpa using this
theorem qta{α σ τ:Type}{st:τ->Option (Rd τ)}{l:List α}(hd:Nat->σ->τ)(f:σ->α->σ)(jx:σ->Nat)(inv:Nat->σ->Prop){a:σ}(h0:inv 0 a)
  (hi:∀n a (h:n<l.length),inv n a->inv (n+1) (f a l[n]))
  (hs:∀n a (h:n<l.length),inv n a->st (hd n a)=some (.next (hd (n+1) (f a l[n])))) (he:∀a,inv l.length a->st (hd l.length a)=some (.done (jx a))) :
  qae st (hd 0 a)=some (jx (l.foldl f a),hd l.length (l.foldl f a)):=by
 have:=qNa (st:=st) (l:=l) hd (fun _=>f) jx inv h0 hi hs he;rwa[qsG]at this
end Go.Eng
namespace Go.Eng
inductive LKd where
 |i|b|s|l|n|m
def kdA:PA->List LKd
 | .int _=>[.i]
 | .bool=>[.b]
 | .str=>[.s]
 | .view _=>[.l]
 | .ownn _ _=>[.n]
 | .agg ps=>kdAs ps
 | .tup ps=>kdAs ps
 | .ptr ps=>kdAs ps
 | .fn _ ps=>kdAs ps
 | .iface _ p=>kdA p
 |_=>[]
where kdAs:List PA->List LKd
 | []=>[]
 |p::ps=>kdA p++kdAs ps
def kdB:PB->List LKd
 | .box ps _=>kdA.kdAs ps
 | .arr _ _=>[.l]
 | .mp=>[.m]
def kdH:List (Nat×PB)->List LKd
 | []=>[]
 |(_,b)::r=>kdB b++kdH r
def kdE:List (Nat×PA)->List LKd
 | []=>[]
 |(_,b)::r=>kdA b++kdE r
def qcK(p:PArgs):List LKd:=kdA.kdAs p.as++kdH p.hp
def qx7(p:PRes):List LKd:=kdA p.v++kdH p.hp
def qx8(p:PSt):List LKd:=kdE p.tm++kdH p.hp
abbrev TyK:LKd->Type
 | .i=>Int
 | .b=>Bool
 | .s=>List UInt8
 | .l=>List AV
 | .n=>Nat
 | .m=>List (AV×AV)
abbrev Tup:List LKd->Type
 | []=>Unit
 | [k]=>TyK k
 |k::ks=>TyK k×Tup ks
abbrev qAF:List (List LKd)->Type
 | []=>Empty
 | [k]=>Tup k
 |k::ks=>Tup k⊕qAF ks
def zqF:(k:LKd)->TyK k->Lf
 | .i,x=>.i x
 | .b,x=>.b x
 | .s,x=>.s x
 | .l,x=>.l x
 | .n,x=>.n x
 | .m,x=>.m x
def znc:(k:LKd)->Lf->Option (TyK k)
 | .i,.i x=>some x
 | .b,.b x=>some x
 | .s,.s x=>some x
 | .l,.l x=>some x
 | .n,.n x=>some x
 | .m,.m x=>some x
 |_,_=>none
theorem qU6:∀{k:LKd} {x:Lf} {v:TyK k},znc k x=some v->x=zqF k v:=by
 intro k x v h;cases k<;>cases x<;>simp only[znc,jA7,reduceCtorEq]at h<;>subst h<;>rfl
def toL:(ks:List LKd)->Tup ks->List Lf
 | [],_=>[]
 | [k],v=>[zqF k v]
 |k::k'::ks,v=>zqF k v.1::toL (k'::ks) v.2
def ofL:(ks:List LKd)->List Lf->Option (Tup ks)
 | [],[]=>some ()
 | [k],[x]=>znc k x
 |k::k'::ks,x::ls=>match znc k x with
  |some y=>match ofL (k'::ks) ls with
   |some ys=>some (y,ys)
   |none=>none
  |none=>none
 |_,_=>none
theorem qwz:∀{ks:List LKd} {ls:List Lf} {v:Tup ks},ofL ks ls=some v->ls=toL ks v
 | [],[],v,_=>rfl
 | [],_::_,v,h=>by simp[ofL]at h
 | [k],[],v,h=>by simp[ofL]at h
 | [k],[x],v,h=>by simp only[ofL]at h;rw[qU6 h];rfl
 | [k],_::_::_,v,h=>by simp[ofL]at h
 |k::k'::ks,[],v,h=>by simp[ofL]at h
 |k::k'::ks,x::ls,v,h=>by
  simp only[ofL]at h;split at h
  ·rename_i y hy;split at h
   ·rename_i ys hys;cases h;rw[qU6 hy,qwz hys];rfl
   ·cases h
  ·cases h
def aE(p:PArgs)(v:Tup (qcK p)):List AV:=(q2V p (toL (qcK p) v)).1
def aH(p:PArgs)(v:Tup (qcK p)):Heap:=(q2V p (toL (qcK p) v)).2
def aD(p:PArgs)(a:List AV)(h:Heap):Option (Tup (qcK p)):=match zjP p a h with
 |some ls=>ofL (qcK p) ls
 |none=>none
theorem znC{p:PArgs}{a:List AV}{h:Heap}{v:Tup (qcK p)}(hh:aD p a h=some v):a=aE p v/\h=aH p v:=by
 unfold aD at hh;split at hh
 ·rename_i ls hm;have h1:=q3x hm;rw[qwz hh]at h1;exact⟨congrArg Prod.fst h1,congrArg Prod.snd h1⟩
 ·cases hh
abbrev RT(rs:List PRes):Type:=qAF (rs.map qx7)
def rE:(rs:List PRes)->RT rs->Res×Heap
 | [],v=>nomatch v
 | [r],v=>zgy r (toL (qx7 r) v)
 |r::_::_,.inl v=>zgy r (toL (qx7 r) v)
 |_::r'::rs,.inr v=>rE (r'::rs) v
def rD:(rs:List PRes)->Res->Heap->Option (RT rs)
 | [],_,_=>none
 | [r],x,h=>match zm8 r x h with
  |some ls=>ofL (qx7 r) ls
  |none=>none
 |r::r'::rs,x,h=>match zm8 r x h with
  |some ls=>match ofL (qx7 r) ls with
   |some v=>some (.inl v)
   |none=>none
  |none=>match rD (r'::rs) x h with
   |some v=>some (.inr v)
   |none=>none
theorem zkj:∀{rs:List PRes} {x:Res} {h:Heap} {v:RT rs},rD rs x h=some v->(x,h)=rE rs v
 | [],x,h,v,hh=>by simp[rD]at hh
 | [r],x,h,v,hh=>by
  simp only[rD]at hh;split at hh
  ·rename_i ls hm;rw[qUK hm,qwz hh];rfl
  ·cases hh
 |r::r'::rs,x,h,v,hh=>by
  simp only[rD]at hh;split at hh
  ·rename_i ls hm;split at hh
   ·rename_i w hw;cases hh;rw[qUK hm,qwz hw];rfl
   ·cases hh
  ·split at hh
   ·rename_i w hw;cases hh;exact(zkj hw).trans rfl
   ·cases hh
instance instTupI:∀ks:List LKd,Inhabited (Tup ks)
 | []=>⟨()⟩
 | [.i]=>⟨0⟩ | [.b]=>⟨false⟩ | [.s]=>⟨[]⟩ | [.l]=>⟨[]⟩ | [.n]=>⟨0⟩ | [.m]=>⟨[]⟩
 | .i::k::ks=>⟨(0,(instTupI (k::ks)).default)⟩
 | .b::k::ks=>⟨(false,(instTupI (k::ks)).default)⟩
 | .s::k::ks=>⟨([],(instTupI (k::ks)).default)⟩
 | .l::k::ks=>⟨([],(instTupI (k::ks)).default)⟩
 | .n::k::ks=>⟨(0,(instTupI (k::ks)).default)⟩
 | .m::k::ks=>⟨([],(instTupI (k::ks)).default)⟩
def rL:(rs:List PRes)->Option (RT rs)->List (Bool×Res×Heap)
 | [],_=>[]
 | [r],o=>[(sm o,zgy r (toL (qx7 r) (@gv _ (instTupI _) o)))]
 |r::r'::rs,o=>(sm (pl o),zgy r (toL (qx7 r) (@gv _ (instTupI _) (pl o))))::rL (r'::rs) (pr o)
end Go.Eng
namespace Go.Eng
def FE(p:PArgs)(rs:List PRes)(G:Tup (qcK p)->Option (RT rs)):Ent:=fun a h=>match aD p a h with
 |some v=>rL rs (G v)
 |none=>[]
def FH(IP:Prog)(f:Nat)(p:PArgs)(rs:List PRes)(G:Tup (qcK p)->Option (RT rs)):Prop:=∀v y,G v=some y->qba IP f (aE p v) (aH p v)=some (rE rs y)
theorem zkk:∀{rs:List PRes} {o:Option (RT rs)} {r:Res} {h:Heap},(true,r,h)∈rL rs o-> ∃y,o=some y/\rE rs y=(r,h)
 | [],o,r,h,hm=>by cases hm
 | [a],o,r,h,hm=>by
  simp only[rL,jAt,jAd]at hm;obtain⟨hb,hr⟩:=hm;exact⟨_,@q4h _ (instTupI (qx7 a)) o hb.symm,hr.symm⟩
 |a::b::rs,o,r,h,hm=>by
  simp only[rL,jAc,jAd]at hm;rcases hm with⟨hb,hr⟩|hm
  ·exact⟨_,zd6 (@q4h _ (instTupI (qx7 a)) (pl o) hb.symm),hr.symm⟩
  ·obtain⟨y,h1,h2⟩:=zkk hm;exact⟨_,zd7 h1,h2⟩
theorem qam{IP:Prog}{f:Nat}{p:PArgs}{rs:List PRes}{G:Tup (qcK p)->Option (RT rs)}(hG:FH IP f p rs G):Snd IP f (FE p rs G):=by
 intro a h r h' hm;unfold FE at hm;split at hm
 ·rename_i v hv;obtain⟨y,h1,h2⟩:=zkk hm;obtain⟨rfl,rfl⟩:=znC hv;rw[hG _ _ h1,h2]
 ·cases hm
theorem qag{IP:Prog}{T:Tab}{L:qKL}{f:Nat}{F:Fun}{p:PArgs}{rs:List PRes}{G:Tup (qcK p)->Option (RT rs)}{t:Tup (qcK p)->DT (RT rs)}(hT:qan IP T)(hL:LOk IP L (loops F.body))(hF:IP.fn f=some F)
  (hb:∀v,qD3 (R:=RT rs) IP (qxz T) (qs9 L) f F (aE p v) (aH p v) (rD rs)=(t v).ev) (hG:∀v,G v=(t v).ev):FH IP f p rs G:=
 fun v _ h=>zjs hT hF hL (fun _ _ _ h=>zkj h) (hb v) ((hG v).symm.trans h)
theorem qbH{IP:Prog}{f:Nat}{p:PArgs}{rs:List PRes}{s:Nat->Tup (qcK p)->Option (RT rs)}(h:∀n,FH IP f p rs (s n)):FH IP f p rs (fun v=>qi4 fun n=>s n v):=
 fun v y hv=>(qT6 hv).elim fun n hn=>h n v y hn
def hE:(hs:List PSt)->qAF (hs.map qx8)->St
 | [],v=>nomatch v
 | [r],v=>fSt r (toL (qx8 r) v)
 |r::_::_,.inl v=>fSt r (toL (qx8 r) v)
 |_::r'::rs,.inr v=>hE (r'::rs) v
def hD:(hs:List PSt)->St->Option (qAF (hs.map qx8))
 | [],_=>none
 | [r],s=>match mSt r s with
  |some ls=>ofL (qx8 r) ls
  |none=>none
 |r::r'::rs,s=>match mSt r s with
  |some ls=>match ofL (qx8 r) ls with
   |some v=>some (.inl v)
   |none=>none
  |none=>match hD (r'::rs) s with
   |some v=>some (.inr v)
   |none=>none
theorem q3d:∀{hs:List PSt} {s:St} {v:qAF (hs.map qx8)},hD hs s=some v->s=hE hs v
 | [],s,v,hh=>by simp[hD]at hh
 | [r],s,v,hh=>by
  simp only[hD]at hh;split at hh
  ·rename_i ls hm;rw[<-q7X hm,qwz hh];rfl
  ·cases hh
 |r::r'::rs,s,v,hh=>by
  simp only[hD]at hh;split at hh
  ·rename_i ls hm;split at hh
   ·rename_i w hw;cases hh;rw[<-q7X hm,qwz hw];rfl
   ·cases hh
  ·split at hh
   ·rename_i w hw;cases hh;exact(q3d hw).trans rfl
   ·cases hh
def exN{τ:Type}(l:List (τ->X×St))(j:Nat)(v:τ):X×St:=match l[j]? with
 |some g=>g v
 |none=>(.ret,⟨[],[],0,0⟩)
def exB{τ:Type}(l:List (τ->X×St))(j:Nat)(v:τ):Bool:=zqe (exN l j v).1
def ziZ{τ:Type}[Inhabited τ](o:Option (Nat×τ))(l:List (τ->X×St)):Nat->Nat->List (Bool×X×St)
 |_,0=>[]
 |j,n+1=>((match exB l j (gv (pj j o))with|true=>sm (pj j o)|false=>false),(exN l j (gv (pj j o))).1,(exN l j (gv (pj j o))).2)::ziZ o l (j+1) n
theorem qR2{τ:Type}[Inhabited τ]{o:Option (Nat×τ)}{l:List (τ->X×St)}{x:X}{s:St}:∀{j n:Nat},(true,x,s)∈ziZ o l j n-> ∃k w,o=some (k,w)/\(x,s)=exN l k w/\zqe (exN l k w).1=true
 |j,0,h=>by simp[ziZ]at h
 |j,n+1,h=>by
  simp only[ziZ,jAc,jAd]at h;rcases h with⟨hb,hx,hs⟩|h
  ·cases hq:exB l j (gv (pj j o))with
   |false=>rw[hq]at hb;cases hb
   |true=>
    rw[hq]at hb;exact⟨j,_,zqi (q4h hb.symm),by rw[hx,hs],hq⟩
  ·exact qR2 h
def LE{τ:Type}[Inhabited τ](dec:St->Option τ)(lo:τ->Option (Nat×τ))(l:List (τ->X×St)):qbJ:=fun s=>match dec s with
 |some v=>ziZ (lo v) l 0 l.length
 |none=>[]
def cvX{τ:Type}(l:List (τ->X×St))(v:τ):DT (Rd τ)->DT (Rx τ)
 | .no=>.no
 | .at (.next w)=>.at (.next w)
 | .at (.done j)=>.at (.out (exN l j v).1 (exN l j v).2)
 | .br b x y=>.br b (cvX l v x) (cvX l v y)
theorem qRS{τ:Type}{l:List (τ->X×St)}{v:τ}:∀{t:DT (Rd τ)},cvX l v t=cvD (fun j=>exN l j v) t
 | .no=>rfl
 | .at (.next w)=>rfl
 | .at (.done j)=>rfl
 | .br b x y=>by simp only[cvX,cvD,qRS (t:=x),qRS (t:=y)]
theorem qas{IP:Prog}{T:Tab}{L:qKL}{keep:List Nat}{c:ICode}{hs:List PSt}(I:Inhabited (qAF (hs.map qx8))){ex:List (qAF (hs.map qx8)->X×St)}{st:qAF (hs.map qx8)->DT (Rd (qAF (hs.map qx8)))}{lo:qAF (hs.map qx8)->Option (Nat×qAF (hs.map qx8))}(hT:qan IP T)(hL:LOk IP L (loops c))
  (hlo:∀v,lo v=qae (fun v=>(st v).ev) v) (hn:∀v,norm (hk keep) (hE hs v)=some (hE hs v))
  (hst:∀v,qi1 IP (qxz T) (qs9 L) c (hE hs v) (zdc keep (hD hs))=(cvX ex v (st v)).ev):Told IP keep c (LE (hD hs) lo ex):=by
 have key:∀v j w,lo v=some (j,w)->zqe (exN ex j w).1=true->qkR IP keep c (hE hs v)=some (exN ex j w):=by
  intro v j w h ho;rw[hlo]at h;have h2:∀v,qi1 IP (qxz T) (qs9 L) c (hE hs v) (zdc keep (hD hs))=cv (fun j=>exN ex j v) ((st v).ev):=fun v=>(hst v).trans (by rw[qRS,qRR])
  replace h:=qfX.1 h
  obtain⟨n,h⟩:=h
  induction n generalizing v with
  |zero=>simp[qju]at h
  |succ n ih=>
   simp only[qju]at h;split at h
   ·rename_i v' hs';have hx:=h2 v;rw[hs']at hx;obtain⟨x,s',h3,h4⟩:=qb9 (fun R=>qxA hT) (qyu hL) hx;cases x with
    |normal=>
     simp only[zdc]at h4;split at h4
     ·rename_i s1 hs1;split at h4
      ·rename_i v2 hv2;cases h4;have:=q3d hv2;subst this;exact qpt (hn v) h3 (qws (by rw[hs1,hn v']) (ih v' h))
      ·cases h4
     ·cases h4
    |_=>
     simp only[zdc]at h4;split at h4<;>cases h4
   ·rename_i j' hs';cases h;have hx:=h2 w;rw[hs']at hx;obtain⟨x,s',h3,h4⟩:=qb9 (fun R=>qxA hT) (qyu hL) hx;cases x with
    |normal=>
     simp only[zdc]at h4;split at h4
     ·split at h4<;>cases h4
     ·cases h4
    |_=>
     simp only[zdc]at h4;split at h4
     ·rename_i x2 s2 ho;simp only[jA7,Rx.out.injEq]at h4;obtain⟨h5,h6⟩:=h4;exact qpt (hn w) h3 (by simp only[ho,h5,h6])
     ·cases h4
   ·cases h
 refine⟨fun s x s' hm=>?_,fun s hne=>?_⟩
 ·unfold LE at hm;split at hm
  ·rename_i v hv;obtain⟨k,w,h1,h2,h3⟩:=qR2 hm;rw[q3d hv,key v k w h1 h3,<-h2]
  ·cases hm
 ·unfold LE at hne;split at hne
  ·rename_i v hv;rw[q3d hv];exact hn v
  ·exact absurd rfl hne
end Go.Eng
namespace Go.Eng
section
variable {T:TypeId->List Sh}
theorem zdq{d:Nat}{x:AV}(h:Fit maxLen T d .str x):∃s,x= .str s/\s.length<=big:=by
 cases d with
 |zero=>exact h.elim
 |succ d=>obtain⟨n,h,hl⟩:=h;exact⟨n,h,jAz hl (by decide)⟩
end
end Go.Eng

/- A machine of plain values, and that what it says holds of the program. -/
import Derived.Test.YtjhhnkemeegahaaGreatDoorE1
import Derived.Orders
import Derived.Scope
set_option linter.all false
namespace Go.Eng
theorem q7t{k:EK}{x y:AV}(h:eqK k x y=some true):x=y:=by
 cases k<;>cases x<;>cases y<;>simp[eqK]at h
 ·obtain⟨rfl,rfl⟩:=h;rfl
 ·subst h;rfl
 ·subst h;rfl
theorem q7s{k:EK}{x:AV}{b:Bool}(h:eqK k x x=some b):b=true:=by
 cases k<;>cases x<;>simp[eqK]at h<;>exact h.symm▸rfl
theorem qR6:∀{ks:List EK} {xs ys:List AV},qeh ks xs ys=some true->xs=ys
 | [],[],[],_=>rfl
 | [],_::_,_,h=>by simp[qeh]at h
 | [],[],_::_,h=>by simp[qeh]at h
 |k::ks,[],_,h=>by simp[qeh]at h
 |k::ks,_::_,[],h=>by simp[qeh]at h
 |k::ks,x::xs,y::ys,h=>by
  simp only[qeh]at h;split at h
  ·rename_i b bs h1 h2;simp only[jA7,jA1]at h;obtain⟨rfl,rfl⟩:=h;rw[q7t h1,qR6 h2]
  ·cases h
theorem qR5:∀{ks:List EK} {xs:List AV} {b:Bool},qeh ks xs xs=some b->b=true
 | [],[],b,h=>by simp[qeh]at h;exact h.symm▸rfl
 | [],_::_,b,h=>by simp[qeh]at h
 |k::ks,[],b,h=>by simp[qeh]at h
 |k::ks,x::xs,b,h=>by
  simp only[qeh]at h;split at h
  ·rename_i b bs h1 h2;simp only[jA7]at h;rw[<-h,q7s h1,qR5 h2];rfl
  ·cases h
theorem qfB{ks:Key}{x y:AV}(h:qc5 ks x y=some true):x=y:=by
 unfold qc5 at h;split at h
 ·rw[qR6 h]
 ·exact q7t h
 ·cases h
theorem qvR{ks:Key}{x:AV}{b:Bool}(h:qc5 ks x x=some b):b=true:=by
 obtain⟨t,l⟩:=ks;cases t
 ·cases l with
  |nil=>cases x<;>simp[qc5]at h
  |cons k l=>
   cases l with
   |nil=>
    have:eqK k x x=some b:=by cases x<;>exact h
    exact q7s this
   |cons _ _=>cases x<;>simp[qc5]at h
 ·cases x<;>simp[qc5]at h;exact qR5 h
theorem qvx:∀{ks:List EK} {xs ys:List AV} {b:Bool},qeh ks xs ys=some b->ks.all isI=true-> ∃kk,qbU xs=some kk/\qbU ys=some kk
 | [],[],[],b,_,_=>⟨[],rfl,rfl⟩
 | [],_::_,_,b,h,_=>by simp[qeh]at h
 | [],[],_::_,b,h,_=>by simp[qeh]at h
 |k::ks,[],_,b,h,_=>by simp[qeh]at h
 |k::ks,_::_,[],b,h,_=>by simp[qeh]at h
 |k::ks,x::xs,y::ys,b,h,hi=>by
  simp only[qeh]at h;simp only[jAw,jA1]at hi;split at h
  ·rename_i c cs h1 h2;obtain⟨kk,g1,g2⟩:=qvx h2 hi.2;have hk:k= .i:=by
    cases k
    ·rfl
    ·exact absurd hi.1 (by simp[isI])
    ·exact absurd hi.1 (by simp[isI])
   subst hk;cases x<;>cases y<;>simp[eqK]at h1;obtain⟨rfl,_⟩:=h1;rename_i k1 _ _ _;exact⟨k1::kk,by simp only[qbU,g1,jBh],by simp only[qbU,g2,jBh]⟩
  ·cases h
theorem qsQ{ks:Key}{x y:AV}{b:Bool}(h:qc5 ks x y=some b)(hi:qBm ks=true):∃kk,qhr x=some kk/\qhr y=some kk:=by
 obtain⟨t,l⟩:=ks;simp only[qBm,jA1]at hi;obtain⟨rfl,hi⟩:=hi;cases x<;>cases y<;>simp[qc5]at h;exact qvx h hi
theorem qR4:∀{ks:List EK} {xs ys:List AV} {kk:List IntKind},qbU xs=some kk->qbU ys=some kk->ks.all isI=true->ks.length=kk.length-> ∃b,qeh ks xs ys=some b
 | [],[],[],kk,_,_,_,_=>⟨true,rfl⟩
 | [],x::xs,ys,kk,h,_,_,hl=>by
  cases x<;>simp[qbU]at h;obtain⟨_,_,rfl⟩:=h;simp at hl
 | [],[],y::ys,kk,h,h',_,_=>by
  cases y<;>simp[qbU]at h h';obtain⟨_,_,rfl⟩:=h';cases h
 |k::ks,[],ys,kk,h,_,_,hl=>by simp[qbU]at h;subst h;simp at hl
 |k::ks,x::xs,[],kk,h,h',_,_=>by
  simp[qbU]at h';subst h';cases x<;>simp[qbU]at h
 |k::ks,x::xs,y::ys,kk,h,h',hi,hl=>by
  simp only[jAw,jA1]at hi;have hk:k= .i:=by
   cases k
   ·rfl
   ·exact absurd hi.1 (by simp[isI])
   ·exact absurd hi.1 (by simp[isI])
  subst hk;cases x<;>simp[qbU]at h;cases y<;>simp[qbU]at h';obtain⟨k1,g1,rfl⟩:=h;obtain⟨k2,g2,g3⟩:=h';simp only[jC5]at g3;obtain⟨rfl,rfl⟩:=g3;obtain⟨b,hb⟩:=qR4 (ks:=ks) g1 g2 hi.2 (by simpa using hl);simp only[qeh,eqK,hb,jB2];exact⟨_,rfl⟩
theorem qR3:∀{ks:List EK} {xs ys:List AV} {b:Bool} {kk:List IntKind},qeh ks xs ys=some b->qbU ys=some kk->ks.all isI=true/\ks.length=kk.length/\qbU xs=some kk
 | [],[],[],b,kk,_,h=>by simp[qbU]at h;subst h;exact⟨rfl,rfl,rfl⟩
 | [],_::_,_,b,kk,h,_=>by simp[qeh]at h
 | [],[],_::_,b,kk,h,_=>by simp[qeh]at h
 |k::ks,[],_,b,kk,h,_=>by simp[qeh]at h
 |k::ks,_::_,[],b,kk,h,_=>by simp[qeh]at h
 |k::ks,x::xs,y::ys,b,kk,h,hy=>by
  simp only[qeh]at h;split at h
  ·rename_i c cs h1 h2;cases y<;>simp[qbU]at hy;obtain⟨k1,g1,rfl⟩:=hy;obtain⟨a1,a2,a3⟩:=qR3 h2 g1;cases k<;>cases x<;>simp[eqK]at h1;obtain⟨rfl,_⟩:=h1;exact⟨by simp only[jAw,isI,a1,Bool.and_self],by simp[a2],by simp only[qbU,a3,jBh]⟩
  ·cases h
theorem qmm{ks:Key}{x y:AV}{b:Bool}{kk:List IntKind}(h:qc5 ks x y=some b)(hy:qhr y=some kk):qBm ks=true/\qhr x=some kk/\ ∀z,qhr z=some kk-> ∃c,qc5 ks x z=some c:=by
 obtain⟨t,l⟩:=ks;cases y<;>simp[qhr]at hy;cases t
 ·exfalso;cases l with
  |nil=>cases x<;>simp[qc5]at h
  |cons k l=>
   cases l with
   |nil=>cases k<;>cases x<;>simp[qc5,eqK]at h
   |cons _ _=>cases x<;>simp[qc5]at h
 ·cases x<;>simp[qc5]at h;obtain⟨h1,h2,h3⟩:=qR3 h hy;refine⟨by simp only[qBm,h1,Bool.and_self],h3,fun z hz=>?_⟩;cases z<;>simp[qhr]at hz;exact qR4 h3 hz h1 h2
theorem qUG:∀(xs:List AV),ltL xs xs=false
 | []=>rfl
 |x::xs=>by cases x<;>simp[ltL,qUG xs]
theorem qBH:∀{xs ys zs:List AV},ltL xs ys=true->ltL ys zs=true->ltL xs zs=true
 | [],_,_,h,_=>by simp[ltL]at h
 |x::xs,[],_,h,_=>by cases x<;>simp[ltL]at h
 |x::xs,y::ys,[],_,h=>by cases y<;>simp[ltL]at h
 |x::xs,y::ys,z::zs,h1,h2=>by
  cases x<;>cases y<;>simp[ltL]at h1;cases z<;>simp[ltL]at h2;simp only[ltL,jAv,jA6,jA1];rcases h1 with h1|⟨rfl,h1⟩<;>rcases h2 with h2|⟨rfl,h2⟩
  ·left;omega
  ·left;omega
  ·left;omega
  ·exact .inr ⟨rfl,qBH h1 h2⟩
theorem qUH:∀{xs ys:List AV} {kk:List IntKind},qbU xs=some kk->qbU ys=some kk->xs=ys\/ltL xs ys=true\/ltL ys xs=true
 | [],[],_,_,_=>.inl rfl
 | [],y::ys,kk,h,h'=>by
  simp[qbU]at h;subst h;cases y<;>simp[qbU]at h'
 |x::xs,[],kk,h,h'=>by
  simp[qbU]at h';subst h';cases x<;>simp[qbU]at h
 |x::xs,y::ys,kk,h,h'=>by
  cases x<;>simp[qbU]at h;cases y<;>simp[qbU]at h';obtain⟨k1,g1,rfl⟩:=h;obtain⟨k2,g2,g3⟩:=h';simp only[jC5]at g3;obtain⟨rfl,rfl⟩:=g3;rename_i a k b;simp only[ltL,jAv,jA6,jA1];rcases Int.lt_trichotomy a b with h|h|h
  ·exact .inr (.inl (.inl h))
  ·subst h;rcases qUH g1 g2 with h|h|h
   ·exact .inl (by rw[h])
   ·exact .inr (.inl (.inr ⟨rfl,h⟩))
   ·exact .inr (.inr (.inr ⟨rfl,h⟩))
  ·exact .inr (.inr (.inl h))
theorem qFU(x:AV):ltK x x=false:=by cases x<;>simp[ltK,qUG]
theorem qUF{x y z:AV}(h1:ltK x y=true)(h2:ltK y z=true):ltK x z=true:=by
 cases x<;>cases y<;>simp[ltK]at h1;cases z<;>simp[ltK]at h2;simp only[ltK];exact qBH h1 h2
theorem zdT{x y:AV}{kk:List IntKind}(hx:qhr x=some kk)(hy:qhr y=some kk):x=y\/ltK x y=true\/ltK y x=true:=by
 cases x<;>simp[qhr]at hx;cases y<;>simp[qhr]at hy;simp only[ltK,AV.agg.injEq];exact qUH hx hy
theorem zjN{x y:AV}(h:ltK x y=true):x≠y:=by
 rintro rfl;rw[qFU]at h;cases h
theorem qyB{ks:Key}{x:AV}:∀{l:List (AV×AV)},(∀p∈l,∃b,qc5 ks x p.1=some b)-> ∃ri,qAA ks l x=some ri
 | [],_=>⟨none,rfl⟩
 |(k,v)::l,h=>by
  obtain⟨b,hb⟩:=h (k,v) (by simp);obtain⟨ri,hr⟩:=qyB (l:=l) fun p hp=>h p (by simp[hp])
  cases b
  ·exact⟨ri.map (· + 1),by simp only[qAA,hb,hr,jBh]⟩
  ·exact⟨some 0,by simp only[qAA,hb]⟩
theorem qmt{ks:Key}{x:AV}:∀{l:List (AV×AV)},qAA ks l x=some none-> ∀p∈l,qc5 ks x p.1=some false
 | [],_=>by simp
 |(k,v)::l,h=>by
  simp only[qAA]at h;split at h
  ·simp at h
  ·rename_i hk;simp only[jA3]at h;obtain⟨r,hr,he⟩:=h;cases r with
   |some _=>simp at he
   |none=>
    intro p hp;rcases jAc.1 hp with rfl|hp
    ·exact hk
    ·exact qmt hr p hp
  ·cases h
theorem set_perm{α:Type}:∀{l:List α} {i:Nat} {a:α},i<l.length->(l.set i a).Perm (a::l.eraseIdx i)
 |x::l,0,a,_=>by simp
 |x::l,i+1,a,h=>by
  have:=set_perm (l:=l) (i:=i) (a:=a) (by simpa using h);simp only[List.set_cons_succ,List.eraseIdx_cons_succ];exact(this.cons x).trans (List.Perm.swap a x _)
theorem qnj{α:Type}:∀{l:List α} {i:Nat} {a:α},l[i]? = some a->l.Perm (a::l.eraseIdx i)
 |x::l,0,a,h=>by simp at h;subst h;simp
 |x::l,i+1,a,h=>by
  have:=qnj (l:=l) (i:=i) (a:=a) (by simpa using h);simp only[List.eraseIdx_cons_succ];exact(this.cons x).trans (List.Perm.swap a x _)
 | [],_,_,h=>by simp at h
theorem qJU{ks:Key}{x y:AV}{kk:List IntKind}(hx:qhr x=some kk):∀{m m':List (AV×AV)},qNc ks m x y=some m'->(∀p∈m,qhr p.1=some kk)->(m.Pairwise fun p q=>ltK p.1 q.1=true) ->
  (m'.Pairwise fun p q=>ltK p.1 q.1=true)/\(∀p∈m',p=(x,y)\/p∈m)/\((∃(i:Nat) (q:AV),m[i]? = some (x,q)/\m'.Perm ((x,y)::m.eraseIdx i))\/((∀p∈m,x≠p.1)/\m'.Perm ((x,y)::m)))
 | [],m',h,_,_=>by
  simp only[qNc,jA7]at h;subst h;exact⟨by simp,by simp,.inr ⟨by simp,.refl _⟩⟩
 |(k,v)::m,m',h,hu,hs=>by
  simp only[qNc]at h;rw[jBi]at hs;split at h
  ·rename_i he;simp only[jA7]at h;subst h;have:=qfB he;subst this;exact⟨jBi.2 hs,fun p hp=>(jAc.1 hp).imp id fun h=>by simp[h],.inl ⟨0,v,rfl,by simp⟩⟩
  ·rename_i he;split at h
   ·rename_i hlt;simp only[jA7]at h;subst h;have hall:∀p∈(k,v)::m,ltK x p.1=true:=by
     intro p hp;rcases jAc.1 hp with rfl|hp
     ·exact hlt
     ·exact qUF hlt (hs.1 p hp)
    exact⟨jBi.2 ⟨hall,jBi.2 hs⟩,fun p hp=>jAc.1 hp,.inr ⟨fun p hp=>zjN (hall p hp),.refl _⟩⟩
   ·rename_i hlt;simp only[jA3]at h;obtain⟨m1,h1,rfl⟩:=h;obtain⟨g1,g2,g3⟩:=qJU hx h1 (fun p hp=>hu p (by simp[hp])) hs.2;have hk:=hu (k,v) (by simp);have hkx:x≠k:=by
     rintro rfl;have:=qvR he;cases this
    have hgt:ltK k x=true:=by
     rcases zdT hk hx with h|h|h
     ·exact absurd h.symm hkx
     ·exact h
     ·exact absurd h hlt
    refine⟨jBi.2 ⟨fun p hp=>?_,g1⟩,fun p hp=>?_,?_⟩
    ·rcases g2 p hp with rfl|hp
     ·exact hgt
     ·exact hs.1 p hp
    ·rcases jAc.1 hp with rfl|hp
     ·exact .inr (by simp)
     ·exact(g2 p hp).imp id fun h=>by simp[h]
    ·rcases g3 with⟨i,q,e1,e2⟩|⟨e1,e2⟩
     ·exact .inl ⟨i+1,q,by simpa using e1,by simp only[List.eraseIdx_cons_succ];exact(e2.cons _).trans (List.Perm.swap _ _ _)⟩
     ·exact .inr ⟨fun p hp=>by
       rcases jAc.1 hp with rfl|hp
       ·exact hkx
       ·exact e1 p hp,(e2.cons _).trans (List.Perm.swap _ _ _)⟩
  ·cases h
theorem qwS{l:List (AV×AV)}(hs:l.Pairwise fun p q=>ltK p.1 q.1=true){p q:AV×AV}(hp:p∈l)(hq:q∈l)(he:p.1=q.1):p=q:=by
 obtain⟨i,hi,rfl⟩:=List.mem_iff_getElem.1 hp;obtain⟨j,hj,rfl⟩:=List.mem_iff_getElem.1 hq;have h:=List.pairwise_iff_getElem.1 hs;rcases Nat.lt_trichotomy i j with hl|rfl|hl
 ·have:=h i j hi hj hl;rw[he,qFU]at this;cases this
 ·rfl
 ·have:=h j i hj hi hl;rw[he,qFU]at this;cases this
theorem qBK{ks:Key}{x k v:AV}{l:List (AV×AV)}{r:Option Nat}(h:qAA ks ((k,v)::l) x=some r):∃b,qc5 ks x k=some b:=by
 simp only[qAA]at h;split at h
 ·exact⟨true,by assumption⟩
 ·exact⟨false,by assumption⟩
 ·cases h
theorem MapOf.pos{kvs0 kvs:List (AV×AV)}(hM:MapOf kvs0 kvs){ks:Key}{x:AV}{ri:Option Nat}(h:qAA ks kvs x=some ri) :
  ∃r0,qAA ks kvs0 x=some r0/\((ri=none/\r0=none)\/ ∃i j kv,ri=some i/\r0=some j/\kvs[i]? = some kv/\kvs0[j]? = some kv/\x=kv.1/\(kvs0=kvs->i=j)):=by
 rcases hM with⟨rfl,_⟩|⟨hp,⟨kk,hk⟩,hs⟩
 ·refine⟨ri,h,?_⟩;cases ri with
  |none=>exact .inl ⟨rfl,rfl⟩
  |some i=>
   obtain⟨k,v,h1,h2⟩:=qis h;exact .inr ⟨i,i,(k,v),rfl,rfl,h1,h1,qfB h2,fun _=>rfl⟩
 ·cases hkv:kvs with
  |nil=>
   subst hkv;have:=hp.eq_nil;subst this;simp only[qAA,jA7]at h;exact⟨none,rfl,.inl ⟨h.symm,rfl⟩⟩
  |cons kv l=>
   rw[<-hkv];obtain⟨k,v⟩:=kv;obtain⟨b,hb⟩:=qBK (hkv▸h);obtain⟨_,hxk,hall⟩:=qmm hb (hk (k,v) (by rw[hkv];simp));obtain⟨r0,h0⟩:=qyB (l:=kvs0) (x:=x) (ks:=ks) fun p hpm=>hall p.1 (hk p (hp.mem_iff.1 hpm))
   refine⟨r0,h0,?_⟩;cases ri with
   |none=>
    have hn:=qmt h;cases r0 with
    |none=>exact .inl ⟨rfl,rfl⟩
    |some j=>
     obtain⟨k',v',h1,h2⟩:=qis h0;have:=hn (k',v') (hp.mem_iff.1 (jAl h1));rw[h2]at this;cases this
   |some i=>
    obtain⟨k',v',h1,h2⟩:=qis h;have hx:=qfB h2;subst hx;cases r0 with
    |none=>
     have:=qmt h0 (x,v') (hp.mem_iff.2 (jAl h1));rw[h2]at this;cases this
    |some j=>
     obtain⟨k2,v2,h3,h4⟩:=qis h0;have hx:=qfB h4;subst hx;have:=qwS hs (jAl h1) (hp.mem_iff.1 (jAl h3)) rfl;cases this;exact .inr ⟨i,j,(x,v'),rfl,rfl,h1,h3,rfl,fun he=>by
      subst he;rw[h0]at h;cases h;rfl⟩
theorem MapOf.put{kvs0 kvs kvs':List (AV×AV)}(hM:MapOf kvs0 kvs){ks:Key}{x y:AV}(hkey:isKey ks x=true)(h:zsO ks kvs x y=some kvs') :
  ∃r0,qAA ks kvs0 x=some r0/\((r0=none/\MapOf (kvs0++[(x,y)]) kvs')\/ ∃j q,r0=some j/\kvs0[j]? = some (x,q)/\MapOf (kvs0.set j (x,y)) kvs'):=by
 obtain⟨bx,hbx⟩:=jCh.1 hkey;unfold zsO at h;split at h
 ·rename_i hi;obtain⟨kk,hkx,_⟩:=qsQ hbx hi;have hR:kvs0.Perm kvs/\(∀p∈kvs,qhr p.1=some kk)/\kvs.Pairwise fun p q=>ltK p.1 q.1=true:=by
   cases hkv:kvs with
   |nil=>
    subst hkv;have:kvs0= []:=by
     rcases hM with⟨h,_⟩|⟨h,_⟩
     ·exact h
     ·exact h.eq_nil
    subst this;exact⟨.refl _,by simp,.nil⟩
   |cons kv l=>
    obtain⟨k,v⟩:=kv;have hd:∃b,qc5 ks x k=some b:=by
     rw[hkv]at h;simp only[qNc]at h;split at h
     ·exact⟨true,by assumption⟩
     ·exact⟨false,by assumption⟩
     ·cases h
    obtain⟨b,hb⟩:=hd;obtain⟨k2,e1,e2⟩:=qsQ hb hi;rw[hkx]at e1;cases e1;rw[<-hkv];rcases hM with⟨rfl,hno⟩|⟨hp,⟨k3,hk3⟩,hs⟩
    ·have:=hno (k,v) (by rw[hkv];simp);rw[e2]at this;cases this
    ·have:=hk3 (k,v) (by rw[hkv];simp);rw[e2]at this;cases this;exact⟨hp,hk3,hs⟩
  obtain⟨hp,hk,hs⟩:=hR;obtain⟨_,_,hall⟩:=qmm hbx hkx;obtain⟨r0,h0⟩:=qyB (l:=kvs0) (x:=x) (ks:=ks) fun p hpm=>hall p.1 (hk p (hp.mem_iff.1 hpm))
  obtain⟨g1,g2,g3⟩:=qJU hkx h hk hs;have hkk:∃kk,∀p∈kvs',qhr p.1=some kk:=⟨kk,fun p hpm=>by
   rcases g2 p hpm with rfl|hpm
   ·exact hkx
   ·exact hk p hpm⟩
  refine⟨r0,h0,?_⟩;cases r0 with
  |none=>
   have hn:=qmt h0;refine .inl ⟨rfl,.inr ⟨?_,hkk,g1⟩⟩;rcases g3 with⟨i,q,e1,_⟩|⟨_,e2⟩
   ·have:=hn (x,q) (hp.mem_iff.2 (jAl e1));have:=qvR this;cases this
   ·exact(List.perm_append_comm.trans ((hp.cons _))).trans e2.symm
  |some j=>
   obtain⟨k',v',h1,h2⟩:=qis h0;have hx:=qfB h2;subst hx;refine .inr ⟨j,v',rfl,h1,.inr ⟨?_,hkk,g1⟩⟩;have hmem:=hp.mem_iff.1 (jAl h1);rcases g3 with⟨i,q,e1,e2⟩|⟨e1,_⟩
   ·have:=qwS hs hmem (jAl e1) rfl;cases this;have hlt:j<kvs0.length:=(jAg.1 h1).1;have hc:(kvs0.eraseIdx j).Perm (kvs.eraseIdx i):=by
     have:=((qnj h1).symm.trans hp).trans (qnj e1);exact this.cons_inv
    exact((set_perm hlt).trans (hc.cons _)).trans e2.symm
   ·exact absurd rfl (e1 _ hmem)
 ·rename_i hi;obtain⟨ri,hpos,hri⟩:=qBL h;have hnx:qhr x=none:=by
   cases hq:qhr x with
   |none=>rfl
   |some kk=>exact absurd (qmm hbx hq).1 hi
  have hL:kvs0=kvs/\ ∀p∈kvs,qhr p.1=none:=by
   rcases hM with hM|⟨hp,⟨kk,hk⟩,_⟩
   ·exact hM
   ·cases hkv:kvs with
    |nil=>subst hkv;exact⟨hp.eq_nil,by simp⟩
    |cons kv l=>
     obtain⟨k,v⟩:=kv;obtain⟨b,hb⟩:=qBK (hkv▸hpos);exact absurd (qmm hb (hk (k,v) (by rw[hkv];simp))).1 hi
  obtain⟨rfl,hno⟩:=hL;refine⟨ri,hpos,?_⟩;rcases hri with⟨rfl,rfl⟩|⟨i,k,v,rfl,h1,rfl⟩
  ·exact .inl ⟨rfl,.inl ⟨rfl,fun p hp=>by
    rcases jAo.1 hp with hp|hp
    ·exact hno p hp
    ·rw[jAt]at hp;subst hp;exact hnx⟩⟩
  ·obtain⟨k',v',h3,h4⟩:=qis hpos;have hx:=qfB h4;subst hx;rw[h1]at h3;cases h3;exact .inr ⟨i,v,rfl,h1,.inl ⟨rfl,fun p hp=>by
    rcases List.mem_or_eq_of_mem_set hp with hp|rfl
    ·exact hno p hp
    ·exact hnx⟩⟩
end Go.Eng
namespace Go.Eng
set_option linter.unusedSectionVars false
variable [Globs]
section
variable {P:Program} {w:World} {I:Imm} {m:Names} {h:Heap} {nx:Nat}
theorem run_getObj_map{r:Nat}{es:Array MapEntry}{clock:Nat}(hr:w.heap[r]? = some (.map es clock)):(getObj r).run P w= .ok (.map es clock) w:=by
 simp[getObj,Sem.run,hr]
theorem zjS(H:HeapAt w I m h){id:Nat}{kvs:List (AV×AV)}(hid:qak h id=some (.mp kvs)){v:Value}(hr:Rel w I (.mref id) m v) :
  ∃L es clock kvs0,MapOf kvs0 kvs/\m id=some L/\v= .map (some L.blk)/\w.heap[L.blk]? = some (.map es clock)/\es.size=kvs0.length/\qP5 w I kvs0 es.toList:=by
 simp only[Rel]at hr;obtain⟨L,hL,rfl⟩:=hr;obtain⟨L',hL',hat⟩:=H.at_ id _ hid;rw[hL]at hL';cases hL';obtain⟨es,clock,kvs0,hM,hC,hsz,hcell⟩:=hat;refine⟨L,es,clock,kvs0,hM,hL,rfl,hC,hsz,qt7.2 ⟨by simpa using hsz,fun i kv hkv=>?_⟩⟩;obtain⟨x,hx,h1,h2⟩:=hcell i kv hkv;exact⟨x,by simpa using hx,h1,h2⟩
theorem zod(H:HeapAt w I m h){t:TypeId}(ht:(∃e,P.underlying t=some (.slice e))\/P.underlying t=some .string\/ ∃k e,P.underlying t=some (.map k e)){x:AV}{v:Value}(hr:Rel w I x m v){n:Nat}
  (hx:(∃ s,P.underlying t = some .string /\ x = .str s /\ n = s.length) \/ ((∃ e,P.underlying t = some (.slice e)) /\ ((∃ q,x = .nils q /\ n = 0) \/ (∃ sz es,x = .view sz es /\ n = es.length) \/ ∃ id off lo sz es fz,x = .own id off lo /\ qak h id = some (.arr sz es fz) /\ n = qmq es.length off lo)) \/
   ((∃k e,P.underlying t=some (.map k e))/\((x= .nilm/\n=0)\/ ∃id kvs,x= .mref id/\qak h id=some (.mp kvs)/\n=kvs.length))) (ty:TypeId) :
  Gives P w I m (do pure (.value (<- Builtin.len_ #[t] ty #[v]))) (.int .i64 n):=by
 rcases hx with⟨s,hu,rfl,rfl⟩|⟨⟨e,hu⟩,hx⟩|⟨⟨k,e,hu⟩,hx⟩
 ·simp only[Rel]at hr;subst hr;exact qaO (u:=.int .i64 s.length) (by simp[Builtin.len_,run_underlying hu,size_mk,goInt]) (by simp[Rel])
 ·rcases hx with⟨q,rfl,rfl⟩|⟨sz,es,rfl,rfl⟩|⟨id,off,lo,sz,es,fz,rfl,hlk,rfl⟩
  ·simp only[Rel]at hr;obtain⟨b,cap,rfl,_⟩:=qjB hr;exact qaO (u:=.int .i64 0) (by simp[Builtin.len_,run_underlying hu,goInt]) (by simp[Rel])
  ·simp only[Rel]at hr;obtain⟨ar,cap,rfl,_⟩:=hr;exact qaO (u:=.int .i64 es.length) (by simp[Builtin.len_,run_underlying hu,goInt]) (by simp[Rel])
  ·simp only[Rel]at hr;obtain⟨L,hL,o,cap,C,e',rfl,_⟩:=hr;obtain⟨L',hL',hat⟩:=H.at_ id _ hlk;rw[hL]at hL';cases hL';rw[hat.1];exact qaO (u:=.int .i64 (qmq es.length off lo)) (by simp[Builtin.len_,run_underlying hu,goInt]) (by simp[Rel])
 ·rcases hx with⟨rfl,rfl⟩|⟨id,kvs,rfl,hid,rfl⟩
  ·simp only[Rel]at hr;subst hr;exact qaO (u:=.int .i64 0) (by simp[Builtin.len_,run_underlying hu,goInt]) (by simp[Rel])
  ·obtain⟨L,es,clock,kvs0,hM,hL,rfl,hC,hsz0,_⟩:=zjS H hid hr;have hsz:=hsz0.trans hM.len;exact qaO (u:=.int .i64 kvs.length) (by simp[Builtin.len_,run_underlying hu,run_getObj_map hC,goInt,hsz]) (by simp[Rel])
end
end Go.Eng
namespace Go.Eng
set_option linter.unusedSectionVars false
variable [Globs]
def qhs:IOp->Bool
 | .call _ _=>true
 | .callv _ _=>true
 | .invk _ _ _=>true
 |_=>false
section
variable {P:Program} {w:World} {I:Imm} {m:Names} {h:Heap} {nx:Nat} {e:Env} {a:Act}
theorem qn0(ht:qle w I m e a):∀{ps:List (Nat×Operand)} {qs:List (Nat×Opd)},qAO ps=some qs->qaQ w I (qs.map fun p=>qbo e p.2) m ((ps.map fun p=>(p.1,a.eval p.2)).map (·.2))/\qs.map (·.1)=(ps.map fun p=>(p.1,a.eval p.2)).map (·.1)
 | [],qs,h=>by simp[qAO]at h;subst h;simp[qaQ]
 |(i,x)::ps,qs,h=>by
  simp only[qAO]at h;split at h
  ·rename_i y qs' h1 h2;simp at h;subst h;obtain⟨h3,h4⟩:=qn0 ht h2;simp only[jAs,qaQ];exact⟨⟨_,_,rfl,qaU ht h1,h3⟩,by simp[h4]⟩
  ·cases h
theorem qNo{x y:Opd}(h:q4b x y=true){e:Env}:qbo e x=qbo e y:=by
 cases x<;>cases y<;>simp[q4b]at h;subst h;rfl
theorem zc6{ev:Opd->AV}{len:Option Nat}{lo hi:Option Opd}{num off l u:Nat}(hb:qgA (qmq num off len) (num-off) (qbR ev lo) (qbR ev hi)=some (l,u)) :
  zmY len hi (u-l)=some (u-l)\/zmY len hi (u-l)=none/\len=none/\u=num-off:=by
 cases len with
 |some n=>exact .inl rfl
 |none=>
  cases hi with
  |some h=>exact .inl rfl
  |none=>
   refine .inr ⟨rfl,rfl,?_⟩;have h0:qbR ev (none:Option Opd)=none:=rfl;rw[h0]at hb;generalize qbR ev lo=q at hb;simp only[qgA,qMJ,qea]at hb;cases q with
   |none=>simp[zdP]at hb;exact hb.2.symm
   |some v=>
    cases v<;>simp only[zdP,reduceCtorEq]at hb;split at hb
    ·simp at hb;exact hb.2.symm
    ·cases hb
theorem q0t{v:Option AV}{r:Res}{h':Heap}{b:Bool}(hs:qGV v h=some (r,h',b)):∃x,v=some x/\r= .ret x/\h'=h:=by
 cases v with
 |none=>simp[qGV]at hs
 |some x=>simp[qGV]at hs;exact⟨x,rfl,hs.1.symm,hs.2.1.symm⟩
theorem q4r{v:AV}{r:Res}{h':Heap}{b:Bool}(hs:val v h=some (r,h',b)):r= .ret v/\h'=h:=by
 simp[val]at hs;exact⟨hs.1.symm,hs.2.1.symm⟩
def qd1(P:Program)(w:World)(I:Imm)(m:Names)(h:Heap)(nx:Nat)(s:Sem Next)(r:Res)(h':Heap):Prop:=
 match r with
 | .ret v=>Does P w I m h nx s v h'
 | .pan v=>h'=h/\ ∃u,s.run P w= .halt (.panic u) w/\Rel w I v m u
theorem qbg{v:AV}{r:Res}{h':Heap}{b:Bool}{s:Sem Next}(H:HeapAt w I m h)(hs:val v h=some (r,h',b))(g:Gives P w I m s v):qd1 P w I m h nx s r h':=by
 obtain⟨rfl,rfl⟩:=q4r hs;exact g.does H
theorem qkh{v:Option AV}{r:Res}{h':Heap}{b:Bool}{s:Sem Next}(H:HeapAt w I m h)(hs:qGV v h=some (r,h',b))(g:∀x,v=some x->Gives P w I m s x):qd1 P w I m h nx s r h':=by
 obtain⟨x,hx,rfl,rfl⟩:=q0t hs;exact(g x hx).does H
theorem qgG{v:AV}{r:Res}{h' h'':Heap}{b b':Bool}{s:Sem Next}(hs:some (Res.ret v,h',b)=some (r,h'',b'))(d:Does P w I m h nx s v h'):qd1 P w I m h nx s r h'':=by
 simp only[jA7,jAd]at hs;obtain⟨rfl,rfl,_⟩:=hs;exact d
theorem qfK{t e:TypeId}(h:qK3 P t=some e):P.underlying t=some (.slice e):=by
 simp only[qK3]at h;split at h
 ·rename_i e' he;simp at h;subst h;exact he
 ·cases h
section builtins
variable {IP:Prog} {call:qa2} {r:Res} {h':Heap} {b:Bool} {ty:TypeId} {consts:Array Bool}
theorem znG(ht:qle w I m e a)(H:HeapAt w I m h){x:Operand}{t:TypeId}{io:IOp}(hc:zhS P x t=some io)(hs:opS IP call nx (qbo e) h io=some (r,h',b)) :
  qd1 P w I m h nx (builtin .len #[t] ty consts #[a.eval x]) r h':=by
 simp only[zhS]at hc;split at hc
 ·rename_i d y hd hy;simp only[jA3]at hc;obtain⟨k,hk,rfl⟩:=hc;have hr:=qaU ht hy;have hb:builtin .len #[t] ty consts #[a.eval x]=(do pure (.value (<- Builtin.len_ #[t] ty #[a.eval x]))):=rfl;rw[hb];simp only[opS]at hs;have G:=fun(n:Nat) hx=>zod (P:=P) H (t:=t) (by cases d<;>simp[qFT]at hk<;>first|exact .inl ⟨_,hd⟩|exact .inr (.inl hd)|exact .inr (.inr ⟨_,_,hd⟩)) hr (n:=n) hx ty
  cases d<;>simp only[qFT,reduceCtorEq,jA7]at hk<;>subst hk
  case string=>
   generalize hx:qbo e y=z at *;cases z<;>simp only[reduceCtorEq]at hs;exact qbg H hs (G _ (.inl ⟨_,hd,rfl,rfl⟩))
  case slice et=>
   generalize hx:qbo e y=z at *;cases z<;>simp only[reduceCtorEq]at hs
   ·exact qbg H hs (G 0 (.inr (.inl ⟨⟨_,hd⟩,.inl ⟨_,rfl,rfl⟩⟩)))
   ·exact qbg H hs (G _ (.inr (.inl ⟨⟨_,hd⟩,.inr (.inl ⟨_,_,rfl,rfl⟩)⟩)))
   ·split at hs
    ·rename_i hlk;exact qbg H hs (G _ (.inr (.inl ⟨⟨_,hd⟩,.inr (.inr ⟨_,_,_,_,_,_,rfl,hlk,rfl⟩)⟩)))
    ·cases hs
  case map kt et=>
   generalize hx:qbo e y=z at *;cases z<;>simp only[reduceCtorEq]at hs
   ·exact qbg H hs (G 0 (.inr (.inr ⟨⟨_,_,hd⟩,.inl ⟨rfl,rfl⟩⟩)))
   ·split at hs
    ·rename_i kvs hl;exact qbg H hs (G _ (.inr (.inr ⟨⟨_,_,hd⟩,.inr ⟨_,_,rfl,hl,rfl⟩⟩)))
    ·cases hs
 ·cases hc
theorem znF(ht:qle w I m e a)(H:HeapAt w I m h)(hnx:m nx=none){s x:Operand}{t u:TypeId}{io:IOp}(hc:zhQ P s x t u=some io)(hs:opS IP call nx (qbo e) h io=some (r,h',b)) :
  qd1 P w I m h nx (builtin .append #[t,u] ty consts #[a.eval s,a.eval x]) r h':=by
 simp only[zhQ]at hc;split at hc
 ·rename_i et eu p q h1 h2 h3 h4;split at hc
  ·rename_i sz by_ z h5 h6 h7;split at hc
   ·rename_i hcond;obtain⟨c1,c2,c3,c4⟩:=hcond;simp at hc;subst hc;simp only[opS]at hs;split at hs
    ·rename_i src hsrc;split at hs
     ·rename_i v h1' happ;exact qgG hs (zn3 H hnx (qfK h1) (qfK h2) h5 h6 h7 c1 c2 c3 c4 (qaU ht h3) (qaU ht h4) hsrc happ ty)
     ·cases hs
    ·cases hs
   ·cases hc
  ·cases hc
 ·cases hc
theorem qF2(ht:qle w I m e a)(H:HeapAt w I m h)(hnx:m nx=none){bi:Builtin}{args:List Operand}{ts:List TypeId}{io:IOp}(hc:qmc P bi args ts=some io)(hs:opS IP call nx (qbo e) h io=some (r,h',b)) :
  qd1 P w I m h nx (builtin bi ts.toArray ty consts (args.map a.eval).toArray) r h':=by
 simp only[qmc]at hc;split at hc
 ·rename_i hb;subst hb;split at hc
  ·exact znG ht H hc hs
  ·cases hc
 ·split at hc
  ·rename_i hb;subst hb;split at hc
   ·exact znF ht H hnx hc hs
   ·cases hc
  ·split at hc
   ·rename_i hb;subst hb;split at hc
    ·cases hc
    ·cases hc
   ·split at hc
    ·rename_i hb;subst hb;split at hc
     ·cases hc
     ·cases hc
    ·split at hc
     ·rename_i hb;subst hb;simp only[jA3]at hc;obtain⟨ys,hys,rfl⟩:=hc;have hr:=qhA ht hys;simp only[opS]at hs;split at hs
      ·rename_i x xs hx;exact qkh H hs fun z hz=>zoe hr hx hz _ _
      ·cases hs
     ·split at hc
      ·rename_i hb;subst hb;simp only[jA3]at hc;obtain⟨ys,hys,rfl⟩:=hc;have hr:=qhA ht hys;simp only[opS]at hs;split at hs
       ·rename_i x xs hx;exact qkh H hs fun z hz=>zof hr hx hz _ _
       ·cases hs
      ·split at hc
       ·rename_i hb;subst hb;split at hc
        ·rename_i x;simp only[jA3]at hc;obtain⟨y,hy,rfl⟩:=hc;have hr:=qaU ht hy;simp only[opS]at hs;generalize hx:qbo e y=z at *;cases z<;>simp only[reduceCtorEq,jA7,jAd]at hs;obtain⟨rfl,rfl,_⟩:=hs;refine⟨rfl,a.eval x,?_,hr⟩;simp only[Rel]at hr;obtain⟨u,hu,_⟩:=hr;simp[builtin,Instr.panic,hu]
        ·cases hc
       ·cases hc
end builtins
set_option maxHeartbeats 2000000 in
theorem q3J{IP:Prog}{call:qa2}(ht:qle w I m e a)(H:HeapAt w I m h)(hnx:m nx=none){o:Oper}{io:IOp}{mn:Nat->Option String}(hc:cOp P mn o.op=some io)(hnc:qhs io=false){r:Res}{h':Heap}{b:Bool}
  (hs:opS IP call nx (qbo e) h io=some (r,h',b)):qd1 P w I m h nx (execOp a.eval o) r h':=by
 obtain⟨dst,op,type,pos,after,guard⟩:=o;simp only at hc;cases op<;>simp only[cOp,reduceCtorEq]at hc<;>simp only[execOp]
 case move x=>
  simp only[jA3]at hc;obtain⟨y,hy,rfl⟩:=hc;exact qbg H hs ⟨_,rfl,qaU ht hy⟩
 case panic x=>
  simp only[jA3]at hc;obtain⟨y,hy,rfl⟩:=hc;have hr:=qaU ht hy;simp only[opS]at hs;generalize hx:qbo e y=z at *;cases z<;>simp only[reduceCtorEq,jA7,jAd]at hs;obtain⟨rfl,rfl,_⟩:=hs;refine⟨rfl,a.eval x,?_,hr⟩;simp only[Rel]at hr;obtain⟨u,hu,_⟩:=hr;simp[Instr.panic,hu]
 case assign x=>
  simp only[jA3]at hc;obtain⟨y,hy,rfl⟩:=hc;exact qbg H hs ⟨_,rfl,qaU ht hy⟩
 case pick c x y=>
  split at hc
  ·rename_i c' x' y' h1 h2 h3;simp at hc;subst hc;have hr:=qaU ht h1;simp only[opS]at hs;generalize hx:qbo e c'=z at *;cases z<;>simp only[reduceCtorEq]at hs;rename_i t;simp only[Rel]at hr;refine qbg H hs ⟨if t then a.eval x else a.eval y,by simp[hr,asBool],?_⟩;cases t
   ·simpa using qaU ht h3
   ·simpa using qaU ht h2
  ·cases hc
 case alloc t=>
  split at hc
  ·rename_i z hz;split at hc
   ·rename_i hok;simp at hc;subst hc;exact qgG hs (zc7 H hnx hz hok)
   ·cases hc
  ·cases hc
 case box t x=>
  split at hc
  ·rename_i n y h1 h2;simp at hc;subst hc;simp only[opS]at hs;split at hs
   ·rename_i hcond;exact qgG hs (zn4 H hnx (qaU ht h2) hcond.2)
   ·cases hs
  ·cases hc
 case build t ps=>
  split at hc
  ·rename_i z fs hz hu;split at hc
   ·rename_i hcond;simp only[jA3]at hc;obtain⟨qs,hqs,rfl⟩:=hc;simp only[opS]at hs;split at hs
    ·rename_i cs hcs;exact qbg H hs (qu7 ht hz hcond.2 hu hcond.1 hqs hcs)
    ·cases hs
   ·cases hc
  ·rename_i z k et hz hu;split at hc
   ·rename_i n hn;split at hc
    ·rename_i hag;simp only[jA3]at hc;obtain⟨qs,hqs,rfl⟩:=hc;simp only[opS]at hs;split at hs
     ·rename_i cs hcs;exact qbg H hs (qxZ ht hz hag hu hn hqs hcs)
     ·cases hs
    ·cases hc
   ·cases hc
  ·cases hc
 case buildSlice t n ps=>
  split at hc
  ·rename_i et het;split at hc
   ·rename_i sz z qs h1 h2 h3;split at hc
    ·rename_i hcond;obtain⟨c1,c2,c3,c4⟩:=hcond;simp at hc;subst hc;simp only[opS]at hs;split at hs
     ·rename_i hz;obtain⟨rfl,hz2⟩:=hz;have hqs:=(qn0 ht h3).1;have hps:(ps.map fun x=>(x.1,a.eval x.2)).toList= []:=by
       have:=qa7 hqs;simp only[jA5]at this;have h0:ps.toList.length=0:=by first|omega|(rw[hz2]at this;simpa using this)
       rw[Array.toList_map,jAy.1 h0];rfl
      have hm:(ps.map fun(i,x)=>(i,a.eval x))=ps.map fun x=>(x.1,a.eval x.2):=rfl
      rw[hm];exact qgG hs (qRT H hnx (qfK het) h1 hps)
     split at hs
     ·rename_i vs h1' hst;split at hs
      ·rename_i es hf;obtain⟨g1,g2⟩:=qn0 ht h3;have hm:(ps.map fun(i,x)=>(i,a.eval x))=ps.map fun x=>(x.1,a.eval x.2):=rfl
       have hd:=q2M H hnx (qfK het) h1 h2 c2 c3 c4 c1 (ps:=ps.map fun x=>(x.1,a.eval x.2)) (by simpa using g1) hst (es:=es) (by
        have:=g2;rw[this]at hf;simpa using hf)
       rw[hm];exact qgG hs hd
      ·cases hs
     ·cases hs
    ·cases hc
   ·cases hc
  ·cases hc
 case load t x=>
  split at hc
  ·rename_i n ag y h1 h2 h3;split at hc
   ·rename_i hcond;simp at hc;subst hc;simp only[opS]at hs;split at hs
    ·rename_i cs hcs;obtain⟨bb,oo,hv,hcells⟩:=qmd H (qaU ht h3) hcs;refine qkh H hs fun z hz=>?_
     obtain⟨u,hu,hr⟩:=qmr (P:=P) h1 h2 hcond hcells hz;exact qaO (u:=u) (by simp[Instr.loadAt,hv,Instr.sureAddr,hu]) hr
    ·cases hs
   ·cases hc
  ·cases hc
 case store t x v=>
  split at hc
  ·rename_i n x' v' h1 h2 h3;simp at hc;subst hc;have hx:=qaU ht h2;have hv:=qaU ht h3;simp only[opS]at hs;split at hs
   ·rename_i hh hst;generalize hz:qbo e x'=z at *;cases z<;>simp only[qZ6,reduceCtorEq]at hst;rename_i id idx off;split at hst
    ·rename_i cs hl;split at hst
     ·rename_i hcond;obtain⟨rfl,c2,c3,c4⟩:=hcond;simp at hst;subst hst;exact qgG hs (qEc H h1 hl hx hv c2 c3 c4)
     ·cases hst
    ·rename_i sz es hl;split at hst
     ·rename_i y h1' hy;split at hst
      ·rename_i sz1 es1 e0 hl1 he;split at hst
       ·rename_i hcond;obtain⟨c1,c2,c3⟩:=hcond;simp at hst;subst hst;exact qgG hs (qEb H h1 hl hx hv hy hl1 he c1 c2 c3)
       ·cases hst
      ·cases hst
     ·cases hst
    ·cases hst
   ·cases hs
  ·cases hc
 case nilCheck x=>
  have plain:∀y,qhS x=some y->io= .nilck y->qd1 P w I m h nx (execOp a.eval ⟨dst,.nilCheck x,type,pos,after,guard⟩) r h':=by
   intro y hy he;subst he;have hr:=qaU ht hy;simp only[opS]at hs;split at hs
   ·rename_i hn;generalize hz:qbo e y=z at *;refine qbg H hs ⟨a.eval x,?_,hr⟩;simp only[execOp];cases z<;>simp only[isNil,reduceCtorEq]at hn<;>simp only[Rel]at hr
    ·obtain⟨_,_,hv,_⟩:=hr;rw[hv];rfl
    ·obtain⟨_,_,hv⟩:=hr;rw[hv];rfl
    ·obtain⟨_,hv,_⟩:=hr;rename_i f cap vs hrel;cases f with
     |func n=>rw[hv];rfl
     |meth s=>cases hn
    ·obtain⟨_,hv,_⟩:=hr;rw[hv];rfl
   ·cases hs
  cases x with
  |tmp t=>
   simp only[zgw]at hc;split at hc
   ·rename_i s hmn;cases hc
   ·cases hc;exact plain _ rfl rfl
  |const v=>
   simp only[zgw,jA3]at hc;obtain⟨y,hy,rfl⟩:=hc;exact plain y hy rfl
  |func f=>
   simp only[zgw,jA3]at hc;obtain⟨y,hy,rfl⟩:=hc;exact plain y hy rfl
  |global g=>
   simp only[zgw,jA3]at hc;obtain⟨y,hy,rfl⟩:=hc;exact plain y hy rfl
 case binOp op t x y yt=>
  simp only[zmU]at hc;split at hc
  ·rename_i x' y' h1 h2;have hx:=qaU ht h1;have hy:=qaU ht h2;have plain:io= .bin op x' y'->qd1 P w I m h nx (do let __do_lift <- (do eqGuard op t x y (a.eval x) (a.eval y);Go.binOp op t (a.eval x) (a.eval y));pure (Next.value __do_lift)) r h':=by
    intro he;subst he;simp only[opS]at hs;refine qkh H hs fun z hz=>?_
    obtain⟨u,hu,hr⟩:=qRz (P:=P) (t:=t) hx hy hz x y;exact qaO hu hr
   have eqv:∀(neg:Bool),op=(if neg then .neq else .eql)->cEq P neg op t x y x' y'=some io->qd1 P w I m h nx (do let __do_lift <- (do eqGuard op t x y (a.eval x) (a.eval y);Go.binOp op t (a.eval x) (a.eval y));pure (Next.value __do_lift)) r h':=by
    intro neg hop hc';simp only[cEq]at hc';split at hc'
    ·cases hc'
    ·rename_i d hu;split at hc'
     ·simp at hc';exact plain hc'.symm
     ·simp at hc';exact plain hc'.symm
     ·simp at hc';subst hc';simp only[opS]at hs;split at hs
      ·rename_i bb hk;generalize qbo e x'=p at *;generalize qbo e y'=q at *;have hk':eqK .b p q=some bb:=by cases p<;>cases q<;>exact hk
       cases p<;>cases q<;>simp only[eqK,reduceCtorEq,jA7]at hk';simp only[Rel]at hx hy;refine qbg H hs (qaO (u:=.bool (if neg then !bb else bb)) ?_ (by simp[Rel]));rw[hx,hy,eqGuard_at_bool];subst hop;subst hk';cases neg<;>simp[Go.binOp,Op.equal,Op.maxDepth,run_equalIn_bool' w 9999 t _ _ hu]
      ·cases hs
     ·split at hc'
      ·rename_i ks hks;split at hc'
       ·cases hc'
       ·rename_i hg;simp at hc';subst hc';simp only[opS]at hs;split at hs
        ·rename_i bb hk;have hE:=qFn (P:=P) hks hx hy hk 10000 (by omega);obtain⟨d,hd,hcc⟩:=qMR hks;rw[hu]at hd;cases hd;have hks1:ks.1=true:=by
          rcases hcc with⟨h,_⟩|⟨h,hh⟩
          ·exact h
          ·rcases hh with⟨_,h⟩|⟨_,_,h⟩|⟨_,h⟩<;>cases h
         obtain⟨xs,ys,g1,g2,_⟩:=qsP hk;have hxa:∃us,a.eval x= .agg us:=by
          rcases g1 with⟨_,g⟩|⟨g,_⟩
          ·rw[g]at hx;simp only[Rel]at hx;obtain⟨us,hu,_⟩:=hx;exact⟨_,hu⟩
          ·rw[hks1]at g;cases g
         have hya:∃us,a.eval y= .agg us:=by
          rcases g2 with⟨_,g⟩|⟨g,_⟩
          ·rw[g]at hy;simp only[Rel]at hy;obtain⟨us,hu,_⟩:=hy;exact⟨_,hu⟩
          ·rw[hks1]at g;cases g
         obtain⟨us,hus⟩:=hxa;obtain⟨vs,hvs⟩:=hya;rw[hus,hvs]at hE ⊢;refine qbg H hs (qaO (u:=.bool (if neg then !bb else bb)) ?_ (by simp[Rel]));rw[Sem.run_bind,run_eqGuard_agg w op t x y us vs (by simpa using hg),Result.andThen_ok];subst hop;cases neg
         ·simp only[jAn,jBg];rw[run_eql_struct,hE];rfl
         ·simp only[jB2];rw[run_neq_struct,hE];rfl
        ·cases hs
      ·cases hc'
     ·split at hc'
      ·rename_i hcn;simp only[jA3]at hc';obtain⟨k,hk,rfl⟩:=hc';simp only[opS]at hs;split at hs
       ·rename_i p q hp hq;split at hs
        ·rename_i hpq;obtain⟨hrun,hna⟩:=qUX (P:=P) (neg:=neg) hu hk hx hy hp hq hpq;refine qbg H hs (qaO (u:=.bool (if neg then !(p&&q)else p&&q)) ?_ (by simp[Rel]));rw[Sem.run_bind,qTd hna hcn,Result.andThen_ok,hop];exact hrun
        ·cases hs
       ·cases hs
      ·cases hc'
   split at hc
   ·rename_i hop;exact eqv false (by simp[hop]) hc
   ·split at hc
    ·rename_i hop;exact eqv true (by simp[hop]) hc
    ·simp at hc;exact plain hc.symm
  ·cases hc
 case unOp op t x=>
  simp only[jA3]at hc;obtain⟨y,hy,rfl⟩:=hc;simp only[opS]at hs;refine qkh H hs fun z hz=>?_
  obtain⟨u,hu,hr⟩:=q4q (P:=P) (qaU ht hy) hz;exact qaO hu hr
 case convert s d x=>
  split at hc
  ·rename_i k1 k y hs1 hd1 hy;simp at hc;subst hc;have hr:=qaU ht hy;simp only[opS]at hs;generalize hz:qbo e y=z at *;cases z<;>simp only[reduceCtorEq]at hs;simp only[Rel]at hr;refine qbg H hs (qaO (u:=.int k (k.wrap _)) ?_ (by simp only[Rel];rfl));rw[hr];simp[convert,run_underlying hs1,run_underlying hd1,Conv.intToInt]
  ·cases hc
 case makeInterface t x=>
  split at hc
  ·cases hc
  ·rename_i d y hni hd hy;simp at hc;subst hc;refine qbg H hs (qaO (u:=.iface t (a.eval x)) ?_ (by simp only[Rel];exact⟨_,rfl,qaU ht hy⟩));cases d<;>simp_all[Instr.makeInterface,run_underlying hd]
  ·cases hc
 case makeFunc fn first cap=>
  simp only[zmV]at hc;split at hc
  ·rename_i f;split at hc
   ·rename_i h0;simp only[jA3]at hc;obtain⟨ys,hys,rfl⟩:=hc;have hf0:first= #[]:=by
     apply Array.ext';exact List.eq_nil_of_length_eq_zero h0
    subst hf0;refine qbg H hs (qaO (u:=.func (.func f) #[] (cap.map a.eval)) (by simp[Instr.makeFunc]) ?_);simp only[Rel];exact⟨cap.toList.map a.eval,by congr 1;apply Array.ext';simp,qhA ht hys⟩
   ·cases hc
  ·cases hc
 case makeSlice t l c=>
  split at hc
  ·rename_i et p q h1 h2 h3;split at hc
   ·rename_i sz by_ z g1 g2 g3;split at hc
    ·rename_i hcond;obtain⟨c1,c2,c3⟩:=hcond;simp at hc;subst hc;have hl:=qaU ht h2;have hcc:=qaU ht h3;simp only[opS]at hs;split at hs
     ·rename_i hx hy;rw[hx]at hl;rw[hy]at hcc;simp only[Rel]at hl hcc;split at hs
      ·rename_i hcd;obtain⟨d1,d2,d3,d4⟩:=hcd;rw[hl,hcc];refine qgG hs (zn5 H hnx (qfK h1) g1 g2 g3 c1 c2 c3 d1 d2 d3 d4 ?_);split
       ·rename_i hso;refine .inr ⟨rfl,?_⟩;have:=qNo hso (e:=e);rw[hx,hy]at this;cases this;rfl
       ·exact .inl rfl
      ·cases hs
     ·cases hs
    ·cases hc
   ·cases hc
  ·cases hc
 case slice t x lo hi mx=>
  simp only[zmX]at hc;split at hc
  ·cases hc
  ·split at hc
   ·rename_i et y l u hu hy hl hh;simp only[jA3]at hc;obtain⟨n,hn,rfl⟩:=hc;have hr:=qaU ht hy;have hlo:=qpw ht hl;have hhi:=qpw ht hh;simp only[opS]at hs;have G:=fun z hz=>zog (P:=P) H hu hn hr hlo hhi (z:=z) hz
    generalize qbo e y=q at *;cases q<;>simp only[reduceCtorEq]at hs
    ·split at hs
     ·rename_i pp hb;exact qbg H hs (G _ (.inl ⟨_,rfl,rfl,pp,hb⟩))
     ·cases hs
    ·split at hs
     ·rename_i l' u' hb;split at hs
      ·rename_i hsz;subst hsz;exact qbg H hs (G _ (.inr (.inl ⟨_,_,_,rfl,hb,rfl⟩)))
      ·cases hs
     ·cases hs
    ·split at hs
     ·rename_i sz' es fz hlk;split at hs
      ·rename_i l' u' hb;split at hs
       ·rename_i hcd;obtain⟨rfl,hle⟩:=hcd;refine qbg H hs (G _ (.inr (.inr ⟨_,_,_,_,_,_,_,_,rfl,hlk,hb,hle,?_,rfl⟩)));exact zc6 hb
       ·cases hs
      ·cases hs
     ·cases hs
   ·rename_i y l u hu hy hl hh;simp at hc;subst hc;have hr:=qaU ht hy;have hlo:=qpw ht hl;have hhi:=qpw ht hh;simp only[opS]at hs;generalize qbo e y=q at *;cases q<;>simp only[reduceCtorEq]at hs;split at hs
    ·rename_i l' u' hb;exact qbg H hs (zju hu hr hlo hhi hb)
    ·cases hs
   ·cases hc
 case fieldAddr s x f=>
  split at hc
  ·rename_i fs y hu hy;split at hc
   ·rename_i fd hf;split at hc
    ·rename_i n hn;split at hc
     ·cases hc
     ·rename_i hn0;simp at hc;subst hc;have hr:=qaU ht hy;simp only[opS]at hs;have G:=fun z hz=>zdt (P:=P) H hu hf hn hn0 hr (z:=z) hz
      generalize qbo e y=q at *;cases q<;>simp only[reduceCtorEq]at hs
      ·split at hs
       ·rename_i hle;exact qbg H hs (G _ (.inl ⟨_,rfl,hle,rfl⟩))
       ·cases hs
      ·exact qbg H hs (G _ (.inr ⟨_,_,_,rfl,rfl⟩))
    ·cases hc
   ·cases hc
  ·cases hc
 case indexAddr t x i=>
  split at hc
  ·rename_i et y j hu hy hj;simp only[jA3]at hc;obtain⟨n,hn,rfl⟩:=hc;have hr:=qaU ht hy;have hi:=qaU ht hj;simp only[opS]at hs;split at hs
   ·rename_i h1 h2;rw[h1]at hr;rw[h2]at hi;simp only[Rel]at hi;rw[hi];split at hs
    ·rename_i e0 he;split at hs
     ·rename_i hsz;subst hsz;exact qbg H hs (qTc H hu hn hr (.inl ⟨_,_,rfl,he,rfl⟩))
     ·cases hs
    ·cases hs
   ·rename_i h1 h2;rw[h1]at hr;rw[h2]at hi;simp only[Rel]at hi;rw[hi];split at hs
    ·rename_i sz' es fz hl;split at hs
     ·rename_i hcd;obtain⟨rfl,d1,d2,d3⟩:=hcd;exact qbg H hs (qTc H hu hn hr (.inr ⟨_,_,_,_,_,rfl,hl,d1,d2,d3,by rw[zdA]⟩))
     ·cases hs
    ·cases hs
   ·cases hs
  ·rename_i k et y j hu hy hj;simp only[jA3]at hc;obtain⟨n,hn,rfl⟩:=hc;have hr:=qaU ht hy;have hi:=qaU ht hj;simp only[opS]at hs;split at hs
   ·rename_i h2;rw[h2]at hi;simp only[Rel]at hi;rw[hi];split at hs
    ·rename_i hcd;obtain⟨d1,d2⟩:=hcd;split at hs
     ·rename_i h1;rw[h1]at hr;split at hs
      ·rename_i hle;exact qbg H hs (qTa hu hn hr d1 d2 (.inl ⟨_,rfl,hle,rfl⟩))
      ·cases hs
     ·rename_i h1;rw[h1]at hr;exact qbg H hs (qTa hu hn hr d1 d2 (.inr ⟨_,_,_,rfl,rfl⟩))
     ·cases hs
    ·cases hs
   ·cases hs
  ·cases hc
 case index t x i=>
  split at hc
  ·rename_i y j hu hy hj;simp at hc;subst hc;have hr:=qaU ht hy;have hi:=qaU ht hj;simp only[opS]at hs;split at hs
   ·rename_i h1 h2;rw[h1]at hr;rw[h2]at hi;simp only[Rel]at hi;rw[hi];split at hs
    ·rename_i b0 hb;exact qbg H hs (zjt hu hr hb)
    ·cases hs
   ·cases hs
  ·cases hc
 case typeAssert x xt t ok=>
  split at hc
  ·cases hc
  ·rename_i d z y hni hd hz hy;simp at hc;subst hc;have hr:=qaU ht hy;simp only[opS]at hs;have G:=fun q hq=>zjv (P:=P) hd (fun ms he=>by subst he;exact hni _ rfl) hz (xt:=xt) (ok:=ok) hr (z:=q) hq
   generalize qbo e y=q at *;cases q<;>simp only[reduceCtorEq]at hs
   ·split at hs
    ·rename_i hok;exact qbg H hs (G _ (.inr ⟨rfl,hok,rfl⟩))
    ·cases hs
   ·split at hs
    ·rename_i hut;exact qbg H hs (G _ (.inl ⟨_,_,rfl,.inl ⟨hut,rfl⟩⟩))
    ·rename_i hut;split at hs
     ·rename_i hok;exact qbg H hs (G _ (.inl ⟨_,_,rfl,.inr ⟨hut,hok,rfl⟩⟩))
     ·cases hs
  ·cases hc
 case extract x i=>
  simp only[jA3]at hc;obtain⟨y,hy,rfl⟩:=hc;have hr:=qaU ht hy;simp only[opS]at hs;generalize qbo e y=q at *;cases q<;>simp only[reduceCtorEq]at hs;exact qkh H hs fun z hz=>zoc hr hz
 case call c=>
  obtain⟨callee,args,argTypes⟩:=c;cases callee with
  |value f=>
   simp only[qD4,qD5]at hc;cases f<;>simp only[reduceCtorEq,jA3]at hc<;>obtain⟨_,_,rfl⟩:=hc<;>simp[qhs]at hnc
  |invoke r mth=>
   simp only[qD4,znN]at hc;cases hc
  |builtin bi=>
   have hexec:(do let d <- resolve a.eval ⟨.builtin bi,args,argTypes⟩ type;invoke d.target d.args:Sem Next)=builtin bi argTypes type (args.map fun | .const _=>true|_=>false) (args.map a.eval):=by
    simp only[resolve,invoke,pure_bind];rfl
   have hmap:args.map a.eval=(args.toList.map a.eval).toArray:=by apply Array.ext';simp
   rw[hexec,hmap];have h1:=qF2 (ty:=type) (consts:=args.map fun | .const _=>true|_=>false) ht H hnx (by simpa[qD4]using hc) hs;simpa only[Array.toArray_toList]using h1
end
end Go.Eng
namespace Go.Eng
set_option linter.unusedSectionVars false
variable [Globs]
section
variable {P:Program} {w:World} {I:Imm} {m:Names} {h:Heap} {nx:Nat}
mutual
theorem qgi{m':Names}{r:Nat->Option Nat}(hr:∀i j L,r i=some j->m i=some L->m' j=some L):∀(x:AV) {v:Value},Rel w I x m v->Rel w I (ren r x) m' v
 | .int ..,_,h=>by simpa[ren,Rel]using h
 | .bool ..,_,h=>by simpa[ren,Rel]using h
 | .str ..,_,h=>by simpa[ren,Rel]using h
 | .nilp,_,h=>by simpa[ren,Rel]using h
 | .nils _,_,h=>by simpa[ren,Rel]using h
 | .nilm,_,h=>by simpa[ren,Rel]using h
 | .nilf,_,h=>by simpa[ren,Rel]using h
 | .nili,_,h=>by simpa[ren,Rel]using h
 | .agg cs,_,h=>by
  simp only[ren,Rel]at h ⊢;obtain⟨vs,hv,h⟩:=h;exact⟨vs,hv,qhB hr cs h⟩
 | .tup cs,_,h=>by
  simp only[ren,Rel]at h ⊢;obtain⟨vs,hv,h⟩:=h;exact⟨vs,hv,qhB hr cs h⟩
 | .view ..,_,h=>by simpa only[ren,Rel]using h
 | .ptr ..,_,h=>by simpa only[ren,Rel]using h
 | .own id off len,_,h=>by
  simp only[ren];split
  ·rename_i j hj;simp only[Rel]at h ⊢;obtain⟨L,hL,h⟩:=h;exact⟨L,hr _ _ _ hj hL,h⟩
  ·simp[Rel]
 | .ref id idx off,_,h=>by
  simp only[ren];split
  ·rename_i j hj;simp only[Rel]at h ⊢;obtain⟨L,hL,h⟩:=h;exact⟨L,hr _ _ _ hj hL,h⟩
  ·simp[Rel]
 | .mref id,_,h=>by
  simp only[ren];split
  ·rename_i j hj;simp only[Rel]at h ⊢;obtain⟨L,hL,h⟩:=h;exact⟨L,hr _ _ _ hj hL,h⟩
  ·simp[Rel]
 | .fn f cs,_,h=>by
  simp only[ren,Rel]at h ⊢;obtain⟨vs,hv,h⟩:=h;exact⟨vs,hv,qhB hr cs h⟩
 | .iface t x,_,h=>by
  simp only[ren,Rel]at h ⊢;obtain⟨y,hv,h⟩:=h;exact⟨y,hv,qgi hr x h⟩
 | .junk,_,_=>by simp[ren,Rel]
theorem qhB{m':Names}{r:Nat->Option Nat}(hr:∀i j L,r i=some j->m i=some L->m' j=some L):∀(xs:List AV) {vs:List Value},qaQ w I xs m vs->qaQ w I (ren.renL r xs) m' vs
 | [],_,h=>by simpa[ren.renL,qaQ]using h
 |x::xs,_,h=>by
  simp only[ren.renL,qaQ]at h ⊢;obtain⟨v,vs',hv,h1,h2⟩:=h;exact⟨v,vs',hv,qgi hr x h1,qhB hr xs h2⟩
end
theorem qpy(r:Nat->Option Nat):∀xs:List AV,(ren.renL r xs).length=xs.length
 | []=>rfl
 |x::xs=>by simp[ren.renL,qpy r xs]
theorem qKn(r:Nat->Option Nat):∀(xs:List AV) (i:Nat) (c:AV),(ren.renL r xs)[i]? = some c-> ∃d,xs[i]? = some d/\c=ren r d
 | [],i,c,h=>by simp[ren.renL]at h
 |x::xs,0,c,h=>by simp[ren.renL]at h;exact⟨x,rfl,h.symm⟩
 |x::xs,i+1,c,h=>by simp[ren.renL]at h;simpa using qKn r xs i c h
theorem BlkAt.ren{m':Names}{r:Nat->Option Nat}(hr:∀i j L,r i=some j->m i=some L->m' j=some L){L:Loc}{b:Blk}(h:BlkAt w I m L b):BlkAt w I m' L (zni r b):=by
 cases b with
 |box cs fz=>
  obtain⟨h1,h2,C,e,hC,hsz,hcell,hfz⟩:=h;refine⟨h1,by simp[qpy,h2],C,e,hC,by simpa[qpy]using hsz,fun i c hc=>?_,by simpa[qpy]using hfz⟩;obtain⟨d,hd,rfl⟩:=qKn r cs i c hc;obtain⟨v,hv,hrel⟩:=hcell i d hd;exact⟨v,hv,qgi hr d hrel⟩
 |arr sz es fz=>exact h
 |mp kvs=>exact h
theorem qgh:∀(n:Nat) (h:Heap) (todo seen r:List Nat),qb8 n h todo seen=some r->seen.Nodup->r.Nodup
 |n,h,[],seen,r,hr,hs=>by
  have:seen=r:=by cases n<;>simpa[qb8]using hr
  subst this;exact hs
 |0,h,_::_,seen,r,hr,_=>by simp[qb8]at hr
 |n+1,h,i::todo,seen,r,hr,hs=>by
  simp only[qb8]at hr;by_cases hc:seen.contains i=true
  ·rw[jAr hc]at hr;exact qgh n h todo seen r hr hs
  ·rw[jAm hc]at hr;cases hl:qak h i with
   |none=>simp only[hl]at hr;exact qgh n h todo seen r hr hs
   |some b=>
    simp only[hl]at hr;refine qgh n h _ _ r hr ?_;rw[List.nodup_append];refine⟨hs,by simp,fun a ha b hb=>?_⟩;simp at hb;subst hb;intro e;subst e;exact hc (by simpa using ha)
theorem qdf:∀{l:List Nat} {i j:Nat},place l i=some j->l[j]? = some i
 | [],i,j,h=>by simp[place]at h
 |k::l,i,j,h=>by
  simp only[place]at h;split at h
  ·rename_i e;subst e;simp at h;subst h;rfl
  ·simp only[jA3]at h;obtain⟨j',h,rfl⟩:=h;simpa using qdf h
theorem qtG:∀{l:List Nat} {i j:Nat},l.Nodup->l[j]? = some i->place l i=some j
 | [],i,j,_,h=>by simp at h
 |k::l,i,0,_,h=>by simp at h;subst h;simp[place]
 |k::l,i,j+1,hn,h=>by
  simp at h;rw[List.nodup_cons]at hn;have:i≠k:=fun e=>hn.1 (e▸jAl h)
  simp[place,this,qtG hn.2 h]
theorem qXn{l:List Nat}{i:Nat}(h:i∈l):∃j,place l i=some j:=by
 induction l with
 |nil=>simp at h
 |cons k l ih=>
  simp only[place];by_cases e:i=k
  ·exact⟨0,by simp[e]⟩
  ·obtain⟨j,hj⟩:=ih (by simpa[e]using h);exact⟨j+1,by simp[e,hj]⟩
theorem qnI{r:Nat->Option Nat}:∀{h:Heap} {j:Nat} {b:Blk},qak (qjK r h) j=some b-> ∃i a,qak h i=some a/\r i=some j/\b=zni r a\/False
 | [],j,b,h=>by simp[qjK,qak]at h
 |(i,a)::h,j,b,hj=>by
  simp only[qjK]at hj;split at hj
  ·rename_i k hk;simp only[qak]at hj;split at hj
   ·rename_i e;subst e;simp at hj;exact⟨i,a,.inl ⟨by simp[qak],hk,hj.symm⟩⟩
   ·rename_i hne;obtain⟨i',a',h'⟩:=qnI hj;rcases h' with⟨h1,h2,h3⟩|h'
    ·refine⟨i',a',.inl ⟨?_,h2,h3⟩⟩;simp only[qak];by_cases e:i'=i
     ·subst e;rw[hk]at h2;cases h2;exact absurd rfl hne
     ·simp[e,h1]
    ·exact h'.elim
  ·rename_i hk;obtain⟨i',a',h'⟩:=qnI hj;rcases h' with⟨h1,h2,h3⟩|h'
   ·refine⟨i',a',.inl ⟨?_,h2,h3⟩⟩;simp only[qak];by_cases e:i'=i
    ·subst e;rw[hk]at h2;cases h2
    ·simp[e,h1]
   ·exact h'.elim
theorem qeb{r:Nat->Option Nat}{h:Heap}{j:Nat}{b:Blk}(hj:qak (qjK r h) j=some b):∃i a,qak h i=some a/\r i=some j/\b=zni r a:=by
 obtain⟨i,a,h'|h'⟩:=qnI hj
 ·exact⟨i,a,h'⟩
 ·exact h'.elim
theorem HeapAt.ren{m':Names}{r:Nat->Option Nat}(H:HeapAt w I m h)(hr:∀i j L,r i=some j->m i=some L->m' j=some L)(hinj:∀i i' j,r i=some j->r i'=some j->i=i'):HeapAt w I m' (qjK r h):=by
 constructor
 ·intro j b hj;obtain⟨i,a,hi,hij,rfl⟩:=qeb hj;obtain⟨L,hL,hat⟩:=H.at_ i a hi;exact⟨L,hr _ _ _ hij hL,hat.ren hr⟩
 ·intro j j' b b' L L' hj hj' hL hL' he;obtain⟨i,a,hi,hij,rfl⟩:=qeb hj;obtain⟨i',a',hi',hij',rfl⟩:=qeb hj';obtain⟨L1,hL1,_⟩:=H.at_ i a hi;obtain⟨L2,hL2,_⟩:=H.at_ i' a' hi';rw[hr _ _ _ hij hL1]at hL;cases hL;rw[hr _ _ _ hij' hL2]at hL';cases hL';have:=H.apart i i' a a' _ _ hi hi' hL1 hL2 he;subst this;rw[hij]at hij';cases hij';rfl
 ·exact H.old
 ·exact H.glob
structure Aft (w w':World) (I I':Imm) (m m':Names) (h h':Heap):Prop where
 stays:Stays w w' I
 imm:∀b o,I b o->I' b o
 names:∀i L,m i=some L->m' i=some L
 heap:HeapAt w' I' m' h'
 frame:∀b,b<w.heap.size-> ¬Owns m h b->w'.heap[b]? = w.heap[b]?
 newI:∀b o,I' b o->I b o\/Owns m h b\/w.heap.size<=b
 owns:∀b,Owns m' h' b->Owns m h b\/w.heap.size<=b
def qKN(w:World)(I:Imm)(m:Names)(h:Heap)(r:Res)(h':Heap)(e:Ending)(w':World):Prop:=
 ∃I' m',Aft w w' I I' m m' h h'/\match r with
  | .ret v=>∃u,e= .returned u/\Rel w' I' v m' u
  | .pan v=>∃u,e= .panicked [{ v:=u,recovered:=false }]/\Rel w' I' v m' u
def qbP(P:Program)(f:Nat):Prop:=∃fn,P.funcs[f]? = some fn/\(fn.name== "runtime.NumGoroutine")=false/\fn.body.isNone=false
def Runs(P:Program)(f:Nat)(vs:Array Value)(w:World)(Q:Ending->World->Prop):Prop:=
 (qbP P f/\Calls P f vs w Q)\/ ∃v,(callFunc f vs).run P w= .ok (.value v) w/\Q (.returned v) w
theorem Runs.mono{P:Program}{f:Nat}{vs:Array Value}{w:World}{Q Q':Ending->World->Prop}(h:Runs P f vs w Q)(hq:∀e w',Q e w'->Q' e w'):Runs P f vs w Q':=by
 rcases h with⟨h1,h2⟩|⟨v,h1,h2⟩
 ·exact .inl ⟨h1,h2.mono hq⟩
 ·exact .inr ⟨v,h1,hq _ _ h2⟩
def qdF(P:Program)(call:qa2):Prop:=∀f args h r h',call f args h=some (r,h') ->
 ∀(w:World) (I:Imm) (m:Names) (vs:List Value),HeapAt w I m h->(∀i,h.length<=i->m i=none)->qaQ w I args m vs->Runs P f vs.toArray w (qKN w I m h r h')
mutual
theorem qn1{I':Imm}:∀(x:AV) {m:Names} {v:Value},shows x=false->Rel w I x m v->Rel w I' x m v
 | .int ..,_,_,_,h=>h
 | .bool ..,_,_,_,h=>h
 | .str ..,_,_,_,h=>h
 | .nilp,_,_,_,h=>h
 | .nils _,_,_,_,h=>h
 | .nilm,_,_,_,h=>h
 | .nilf,_,_,_,h=>h
 | .nili,_,_,_,h=>h
 | .agg cs,_,_,hs,h=>by
  simp only[Rel]at h ⊢;obtain⟨vs,hv,h⟩:=h;exact⟨vs,hv,qiz cs (by simpa[shows]using hs) h⟩
 | .tup cs,_,_,hs,h=>by
  simp only[Rel]at h ⊢;obtain⟨vs,hv,h⟩:=h;exact⟨vs,hv,qiz cs (by simpa[shows]using hs) h⟩
 | .view ..,_,_,hs,_=>by simp[shows]at hs
 | .ptr ..,_,_,hs,_=>by simp[shows]at hs
 | .own ..,_,_,_,h=>by simpa only[Rel]using h
 | .ref ..,_,_,_,h=>by simpa only[Rel]using h
 | .mref ..,_,_,_,h=>by simpa only[Rel]using h
 | .fn f cs,_,_,hs,h=>by
  simp only[Rel]at h ⊢;obtain⟨vs,hv,h⟩:=h;exact⟨vs,hv,qiz cs (by simpa[shows]using hs) h⟩
 | .iface t x,_,_,hs,h=>by
  simp only[Rel]at h ⊢;obtain⟨y,hv,h⟩:=h;exact⟨y,hv,qn1 x (by simpa[shows]using hs) h⟩
 | .junk,_,_,_,_=>by simp[Rel]
theorem qiz{I':Imm}:∀(xs:List AV) {m:Names} {vs:List Value},shows.showsL xs=false->qaQ w I xs m vs->qaQ w I' xs m vs
 | [],_,_,_,h=>h
 |x::xs,_,_,hs,h=>by
  simp only[shows.showsL,jB6]at hs;simp only[qaQ]at h ⊢;obtain⟨v,vs',hv,h1,h2⟩:=h;exact⟨v,vs',hv,qn1 x hs.1 h1,qiz xs hs.2 h2⟩
end
theorem qNj(H:HeapAt w I m h){all:Bool}{x:AV}{v:Value}(hr:Rel w I x m v){y:AV}{ids:List Nat}(hp:zg1 h all x=some (y,ids)){r:List Nat}(hsh:Shut h r)(hin:∀i b,i∈ids->qak h i=some b->i∈r) :
  Rel w (shown I m h r) y m v:=by
 have same:∀{z:AV},Rel w I z m v->Rel w (shown I m h r) z m v:=fun hz=>qaV (Stays.refl w I) qbO _ (fun _ _ h=>h) hz
 simp only[zg1]at hp;split at hp
 ·simp at hp;obtain⟨rfl,rfl⟩:=hp;exact same hr
 ·split at hp
  ·simp at hp;obtain⟨rfl,rfl⟩:=hp;exact same (qmC _ hr)
  ·split at hp
   ·rename_i q hq;simp at hp;obtain⟨rfl,rfl⟩:=hp;exact qKl (qkt H hsh _ _ hin hq hr)
   ·cases hp
theorem qtI(H:HeapAt w I m h){all:Bool}:∀{xs:List AV} {vs:List Value},qaQ w I xs m vs-> ∀{ys:List AV} {ids:List Nat},qyQ h all xs=some (ys,ids)-> ∀{r:List Nat},Shut h r->(∀i b,i∈ids->qak h i=some b->i∈r) ->
  qaQ w (shown I m h r) ys m vs
 | [],vs,hr,ys,ids,hp,r,_,_=>by
  simp[qyQ]at hp;obtain⟨rfl,rfl⟩:=hp;simpa[qaQ]using hr
 |x::xs,vs,hr,ys,ids,hp,r,hsh,hin=>by
  simp only[qyQ]at hp;split at hp
  ·rename_i y a ys' b h1 h2;simp at hp;obtain⟨rfl,rfl⟩:=hp;simp only[qaQ]at hr ⊢;obtain⟨v,vs',rfl,hv,hr⟩:=hr;exact⟨v,vs',rfl,qNj H hv h1 hsh fun i b hi hb=>hin i b (by simp[hi]) hb,qtI H hr h2 hsh fun i b hi hb=>hin i b (by simp[hi]) hb⟩
  ·cases hp
theorem qZ7{h:Heap}:∀{l:List Nat},(∀i,i∈l-> ∃b,qak h i=some b)->(sub h l).length=l.length
 | [],_=>rfl
 |i::l,ha=>by
  obtain⟨b,hb⟩:=ha i (by simp);simp[sub,hb,qZ7 (l:=l) fun j hj=>ha j (by simp[hj])]
theorem qKm{r:Nat->Option Nat}:∀{h:Heap},(∀p∈h,(r p.1).isSome=true)->(qjK r h).length=h.length
 | [],_=>rfl
 |(i,b)::h,ha=>by
  have h1:=ha (i,b) (by simp);obtain⟨j,hj⟩:=jCh.1 h1;simp only[qjK,hj,jA0,qKm (h:=h) fun p hp=>ha p (by simp[hp])]
theorem qGz{h:Heap}:∀{l:List Nat} {p:Nat×Blk},p∈sub h l->p.1∈l
 | [],p,hp=>by simp[sub]at hp
 |i::l,p,hp=>by
  simp only[sub]at hp;split at hp
  ·rcases jAc.1 hp with rfl|hp
   ·simp
   ·simp[qGz hp]
  ·simp[qGz hp]
end
end Go.Eng
namespace Go.Eng
set_option linter.unusedSectionVars false
variable [Globs]
section
variable {P:Program} {w:World} {I:Imm} {m:Names} {h:Heap} {nx:Nat}
def znq(w:World)(I:Imm)(m:Names)(h:Heap)(nx:Nat)(r:Res)(h':Heap)(e:Ending)(w':World):Prop:=
 ∃I' m',After w w' I I' m m' h h' nx/\match r with
  | .ret v=>∃u,e= .returned u/\Rel w' I' v m' u
  | .pan v=>∃u,e= .panicked [{ v:=u,recovered:=false }]/\Rel w' I' v m' u
theorem qi8{moved:List Nat}{nx j i:Nat}(h:back moved nx j=some i):(moved[j]? = some i)\/(moved.length<=j/\j<moved.length+16/\i=nx+(j-moved.length)):=by
 simp only[back]at h;split at h
 ·rename_i k hk;simp at h;subst h;exact .inl hk
 ·rename_i hk;split at h
  ·simp at h;exact .inr ⟨by simpa using hk,by assumption,h.symm⟩
  ·cases h
def qtc(m mc:Names)(k nx:Nat):Names:=fun i=>if nx<=i/\i<nx+16 then mc (k+(i-nx))else m i
theorem q2R{a b:List Nat}(h:q7p a b=true){i:Nat}(ha:i∈a):i∉b:=by
 simp only[q7p,jAb]at h;have:=h i ha;simpa using this
set_option maxHeartbeats 1000000 in
theorem qD7{IP:Prog}{call:qa2}(hcall:qdF P call)(H:HeapAt w I m h)(hnx:∀i,nx<=i->i<nx+16->m i=none){args:List AV}{vs:List Value}(hr:qaQ w I args m vs){f:Nat}{r:Res}{h':Heap}{b:Bool}
  (hc:qkP IP call h nx f args=some (r,h',b)):Runs P f vs.toArray w (znq w I m h nx r h'):=by
 simp only[qkP]at hc;split at hc
 ·cases hc
 ·rename_i args' roots hprep;split at hc
  ·rename_i moved shwn hmv hsh;split at hc
   ·rename_i hdisj;split at hc
    ·cases hc
    ·rename_i r0 h0 hcl;split at hc
     ·rename_i hall;simp only[jA7,jAd]at hc;obtain⟨rfl,rfl,_⟩:=hc;obtain⟨hms,hmt,hmk⟩:=qkn hmv;obtain⟨hss,hst,hsk⟩:=qkn hsh;have hnd:moved.Nodup:=qgh _ _ _ _ _ hmv (by simp);have hgo:=hcall _ _ _ _ _ hcl
      let mc:Names:=fun j=>(moved[j]?).bind m
      let Ic:Imm:=shown I m h shwn
      have hpl:∀i j L,place moved i=some j->m i=some L->mc j=some L:=by
       intro i j L hp hL;simp only[mc,qdf hp,Option.bind_some,hL]
      have hargs:qaQ w Ic (ren.renL (place moved) args') mc vs:=
       qhB hpl args' (qtI H hr hprep hss hst)
      have hsub:HeapAt w I m (sub h moved):=H.sub' fun i b hi=>by
       rw[qcA]at hi;split at hi
       ·exact hi
       ·cases hi
      have hIc:∀b o,I b o->Ic b o:=qbO;have hmvI:∀i b L,i∈moved->qak h i=some b->m i=some L-> ∀o,Ic L.blk o->I L.blk o:=by
       intro i b L hi hb hL o ho;rcases ho with ho|⟨j,blk,L',hj,hlj,hLj,he,_⟩
       ·exact ho
       ·have:=H.apart i j b blk L L' hb hlj hL hLj he.symm;subst this;exact absurd hj (q2R hdisj hi)
      have hIold:∀b o,Ic b o->b<w.heap.size:=fun b o ho=>(After.showing (nx:=nx) H (r:=shwn)).heap.old b o ho
      have hsubI:HeapAt w Ic m (sub h moved):=by
       constructor
       ·intro i b hi;have hi':=hi;rw[qcA]at hi';split at hi'
        ·rename_i hmem;obtain⟨L,hL,hat⟩:=H.at_ i b hi';exact⟨L,hL,hat.keep (Stays.refl w I) hIc (fun _ _ h=>h) rfl (hmvI i b L hmem hi' hL)⟩
        ·cases hi'
       ·exact hsub.apart
       ·exact hIold
       ·exact H.glob.mono (Stays.refl w I) hIc
      have hinj:∀i i' j,place moved i=some j->place moved i'=some j->i=i':=fun i i' j h1 h2=>by
       have:=qdf h1;rw[qdf h2]at this;cases this;rfl
      have hheap:HeapAt w Ic mc (qjK (place moved) (sub h moved)):=hsubI.ren hpl hinj;have hlen:(qjK (place moved) (sub h moved)).length=moved.length:=by
       rw[qKm fun p hp=>by
        obtain⟨j,hj⟩:=qXn (qGz hp);simp[hj],qZ7 hmk]
      have hdom:∀i,(qjK (place moved) (sub h moved)).length<=i->mc i=none:=fun i hi=>by
       rw[hlen]at hi;simp only[mc];rw[List.getElem?_eq_none hi];rfl
      have hcalls:=hgo w Ic mc vs hheap hdom hargs;have hOwn:∀bk,Owns mc (qjK (place moved) (sub h moved)) bk-> ∃i a L,i∈moved/\qak h i=some a/\m i=some L/\L.blk=bk:=by
       rintro bk ⟨j,a,L,hj,hL,rfl⟩;obtain⟨i,a',hi,hij,rfl⟩:=qeb hj;rw[qcA]at hi;split at hi
       ·rename_i hmem;obtain⟨L',hL',_⟩:=H.at_ i a' hi;have:=hpl i j L' hij hL';rw[this]at hL;cases hL;exact⟨i,a',_,hmem,hi,hL',rfl⟩
       ·cases hi
      have hOwn':∀bk,Owns mc (qjK (place moved) (sub h moved)) bk->Owns m h bk:=fun bk ho=>by
       obtain⟨i,a,L,_,h1,h2,h3⟩:=hOwn bk ho;exact⟨i,a,L,h1,h2,h3⟩
      refine hcalls.mono ?_;rintro e w' ⟨I1,m1,aft,hres⟩
      let k:=moved.length
      let m':Names:=qtc m m1 k nx
      have hm'in:∀i,¬(nx<=i/\i<nx+16)->m' i=m i:=fun i hi=>by simp only[m',qtc,jAm hi]
      have hm'new:∀d,d<16->m' (nx+d)=m1 (k+d):=fun d hd=>by
       simp only[m',qtc];rw[jAr ⟨by omega,by omega⟩,show nx+d-nx=d by omega]
      have hm'le:∀i L,m i=some L->m' i=some L:=fun i L hi=>by
       rw[hm'in i fun hn=>by rw[hnx i hn.1 hn.2]at hi;cases hi];exact hi
      have hback:∀j i L,back moved nx j=some i->m1 j=some L->m' i=some L:=by
       intro j i L hb hL;rcases qi8 hb with hj|⟨h1,h2,rfl⟩
       ·obtain⟨a,ha⟩:=hmk i (jAl hj);obtain⟨L0,hL0,_⟩:=H.at_ i a ha;have:mc j=some L0:=by simp only[mc,hj,Option.bind_some,hL0]
        have:=aft.names j L0 this;rw[hL]at this;cases this;exact hm'le i L hL0
       ·rw[hm'new _ (by omega),show k+(j-k)=j by omega];exact hL
      have hbinj:∀j j' i,back moved nx j=some i->back moved nx j'=some i->j=j':=by
       intro j j' i h1 h2;have notnew:∀q,moved[q]? = some i-> ¬(nx<=i/\i<nx+16):=fun q hq hn=>by
        obtain⟨a,ha⟩:=hmk i (jAl hq);obtain⟨L0,hL0,_⟩:=H.at_ i a ha;rw[hnx i hn.1 hn.2]at hL0;cases hL0
       rcases qi8 h1 with g1|⟨g1,g2,g3⟩<;>rcases qi8 h2 with g4|⟨g4,g5,g6⟩
       ·have p1:=qtG hnd g1;have p2:=qtG hnd g4;rw[p1]at p2;cases p2;rfl
       ·exact absurd ⟨by omega,by omega⟩ (notnew j g1)
       ·exact absurd ⟨by omega,by omega⟩ (notnew j' g4)
       ·omega
      let touched:Bool:=!shwn.isEmpty&&(shows (q34 r0) || !h0.isEmpty)
      let I':Imm:=if touched=true\/shwn= []then I1 else I
      have hII':∀b o,I b o->I' b o:=fun b o hi=>by
       simp only[I'];split
       ·exact aft.imm b o (hIc b o hi)
       ·exact hi
      have hI'1:∀b o,I' b o->I1 b o:=fun b o hi=>by
       simp only[I']at hi;split at hi
       ·exact hi
       ·exact aft.imm b o (hIc b o hi)
      have hstay:Stays w w' I:=aft.stays.sub hIc;have hnewI:∀b o,I' b o->I b o\/Owns m h b\/w.heap.size<=b:=fun b o hi=>by
       rcases aft.newI b o (hI'1 b o hi)with h1|h1|h1
       ·rcases h1 with h1|⟨j,blk,L',hj,hlj,hLj,rfl,_⟩
        ·exact .inl h1
        ·exact .inr (.inl ⟨j,blk,L',hlj,hLj,rfl⟩)
       ·exact .inr (.inl (hOwn' b h1))
       ·exact .inr (.inr h1)
      have hresult:∀u,Rel w' I1 (q34 r0) m1 u->Rel w' I' (ren (back moved nx) (q34 r0)) m' u:=fun u hu=>by
       have h1:=qgi hback (q34 r0) hu;by_cases ht:touched=true\/shwn= []
       ·simp only[I',jAr ht];exact h1
       ·have hns:shows (q34 r0)=false:=by
         have h2:¬touched=true:=fun h=>ht (.inl h)
         have h3:shwn.isEmpty=false:=by
          cases hq:shwn with
          |nil=>exact absurd (.inr hq) ht
          |cons _ _=>rfl
         simp only[touched,h3,Bool.not_false,jBm,jAv,not_or]at h2;simpa using h2.1
        have h4:=qgi hback (q34 r0) (qn1 (I':=I) (q34 r0) hns hu);simp only[I',jAm ht];exact h4
      have hret:HeapAt w' I' m' (qjK (back moved nx) h0):=by
       by_cases ht:touched=true\/shwn= []
       ·have:I'=I1:=by simp only[I',jAr ht]
        rw[this];exact aft.heap.ren hback hbinj
       ·have hh0:h0= []:=by
         have h2:¬touched=true:=fun h=>ht (.inl h)
         have h3:shwn.isEmpty=false:=by
          cases hq:shwn with
          |nil=>exact absurd (.inr hq) ht
          |cons _ _=>rfl
         simp only[touched,h3,Bool.not_false,jBm,jAv,not_or]at h2;have:=h2.2;cases h0 with
         |nil=>rfl
         |cons _ _=>simp at this
        subst hh0;exact⟨fun i b hi=>by simp[qjK,qak]at hi,fun i j a b L L' hi=>by simp[qjK,qak]at hi,fun b o hi=>jBz (H.old b o (by simp only[I',jAm ht]at hi;exact hi)) aft.stays.size,H.glob.mono hstay hII'⟩
      have hretOwn:∀bk,Owns m' (qjK (back moved nx) h0) bk->(∃i a L,i∈moved/\qak h i=some a/\m i=some L/\L.blk=bk)\/w.heap.size<=bk:=by
       rintro bk ⟨i,a,L,hi,hL,rfl⟩;obtain⟨j,a',hj,hji,rfl⟩:=qeb hi;obtain⟨L',hL',_⟩:=aft.heap.at_ j a' hj;have:=hback j i L' hji hL';rw[this]at hL;cases hL;rcases aft.owns _ ⟨j,a',_,hj,hL',rfl⟩with h1|h1
       ·exact .inl (hOwn _ h1)
       ·exact .inr h1
      have hstayed:∀i a,qak (qa9 h moved) i=some a->i∉moved/\qak h i=some a:=fun i a hi=>by
       rw[qbQ]at hi;split at hi
       ·cases hi
       ·rename_i hn;exact⟨hn,hi⟩
      have hkeepH:∀i a L,i∉moved->qak h i=some a->m i=some L->w'.heap[L.blk]? = w.heap[L.blk]?:=fun i a L hn hi hL=>by
       obtain⟨L0,hL0,hat⟩:=H.at_ i a hi;rw[hL]at hL0;cases hL0;refine aft.frame _ hat.lt fun ho=>?_
       obtain⟨j,a',L',hj,hlj,hLj,he⟩:=hOwn _ ho;exact hn (H.apart i j a a' L L' hi hlj hL hLj he.symm▸hj)
      have hnotI:∀i a L,i∉moved->i∉shwn->qak h i=some a->m i=some L-> ∀o,I' L.blk o->I L.blk o:=fun i a L hn hn2 hi hL o ho=>by
       obtain⟨L0,hL0,hat⟩:=H.at_ i a hi;rw[hL]at hL0;cases hL0;rcases aft.newI _ _ (hI'1 _ _ ho)with h1|h1|h1
       ·rcases h1 with h1|⟨j,blk,L',hj,hlj,hLj,he,_⟩
        ·exact h1
        ·exact absurd (H.apart i j a blk L L' hi hlj hL hLj he.symm▸hj) hn2
       ·obtain⟨j,a',L',hj,hlj,hLj,he⟩:=hOwn _ h1;exact absurd (H.apart i j a a' L L' hi hlj hL hLj he.symm▸hj) hn
       ·have:=hat.lt;omega
      have hold:HeapAt w' I' m' (if touched=true then freeze (qa9 h moved) shwn else qa9 h moved):=by
       have hlk:∀i b,qak (if touched=true then freeze (qa9 h moved) shwn else qa9 h moved) i=some b-> ∃a,i∉moved/\qak h i=some a/\((b=a/\(touched=true->i∉shwn))\/(b=qlL a/\i∈shwn/\touched=true)):=by
        intro i b hi;split at hi
        ·rename_i ht;rw[qcz]at hi;split at hi
         ·rename_i hs;simp only[jA3]at hi;obtain⟨a,ha,rfl⟩:=hi;obtain⟨h1,h2⟩:=hstayed i a ha;exact⟨a,h1,h2,.inr ⟨rfl,hs,ht⟩⟩
         ·rename_i hs;obtain⟨h1,h2⟩:=hstayed i b hi;exact⟨b,h1,h2,.inl ⟨rfl,fun _=>hs⟩⟩
        ·rename_i ht;obtain⟨h1,h2⟩:=hstayed i b hi;exact⟨b,h1,h2,.inl ⟨rfl,fun h=>absurd h ht⟩⟩
       constructor
       ·intro i b hi;obtain⟨a,hn,ha,hb⟩:=hlk i b hi;obtain⟨L,hL,hat⟩:=H.at_ i a ha;refine⟨L,hm'le i L hL,?_⟩;rcases hb with⟨rfl,hs⟩|⟨rfl,hs,ht⟩
        ·refine hat.keep hstay hII' hm'le (hkeepH i b L hn ha hL) fun o ho=>?_
         by_cases hmem:i∈shwn
         ·have hnt:¬touched=true:=fun h=>hs h hmem
          have hne:¬(touched=true\/shwn= []):=fun h=>by
           rcases h with h|h
           ·exact hnt h
           ·rw[h]at hmem;simp at hmem
          simp only[I',jAm hne]at ho;exact ho
         ·exact hnotI i b L hn hmem ha hL o ho
        ·have hsh1:∀q,q<known a->I' L.blk (L.base+q):=fun q hq=>by
          simp only[I',jAr (Or.inl ht)];exact aft.imm _ _ (.inr ⟨i,a,L,hs,ha,hL,rfl,by omega,by omega⟩)
         have hkh:=hkeepH i a L hn ha hL;cases a with
         |box cs fz=>
          obtain⟨h1,h2,C,e,hC,hsz,hcell,_⟩:=hat;exact⟨h1,h2,C,e,hkh.trans hC,hsz,fun i c hc=>by
           obtain⟨v,hv,hrel⟩:=hcell i c hc;exact⟨v,hv,qaV hstay hII' c hm'le hrel⟩,by simp only[jB2];exact fun i hi=>hsh1 i hi⟩
         |arr sz es fz=>
          obtain⟨h1,h2,h3,C,e,hC,hsz,hcell,_⟩:=hat;exact⟨h1,h2,h3,C,e,hkh.trans hC,hsz,fun i c hc=>by
           obtain⟨v,hv,hk,hrel⟩:=hcell i c hc;exact⟨v,hv,hk,qaV hstay hII' c (fun _ _ h=>h) hrel⟩,by simp only[jB2];exact fun i hi=>hsh1 i hi⟩
         |mp kvs=>
          obtain⟨es,clock,kvs0,hM,hC,hsz,hcell⟩:=hat;exact⟨es,clock,kvs0,hM,hkh.trans hC,hsz,fun i kv hkv=>by
           obtain⟨x,hx,h1,h2⟩:=hcell i kv hkv;exact⟨x,hx,qaV hstay hII' _ (fun _ _ h=>h) h1,qaV hstay hII' _ (fun _ _ h=>h) h2⟩⟩
       ·intro i j b b' L L' hi hj hL hL' he;obtain⟨a,_,ha,_⟩:=hlk i b hi;obtain⟨a',_,ha',_⟩:=hlk j b' hj;obtain⟨L1,hL1,_⟩:=H.at_ i a ha;obtain⟨L2,hL2,_⟩:=H.at_ j a' ha';rw[hm'le i L1 hL1]at hL;cases hL;rw[hm'le j L2 hL2]at hL';cases hL';exact H.apart i j a a' _ _ ha ha' hL1 hL2 he
       ·exact hret.old
       ·exact hret.glob
      have hlkold:∀i b,qak (if touched=true then freeze (qa9 h moved) shwn else qa9 h moved) i=some b-> ∃a,i∉moved/\qak h i=some a:=by
       intro i b hi;split at hi
       ·rw[qcz]at hi;split at hi
        ·simp only[jA3]at hi;obtain⟨a,ha,_⟩:=hi;exact⟨a,hstayed i a ha⟩
        ·exact⟨b,hstayed i b hi⟩
       ·exact⟨b,hstayed i b hi⟩
      have holdOwn:∀i b,qak (if touched=true then freeze (qa9 h moved) shwn else qa9 h moved) i=some b-> ∃a L,i∉moved/\qak h i=some a/\m i=some L/\m' i=some L/\L.blk<w.heap.size:=fun i b hi=>by
       obtain⟨a,hn,ha⟩:=hlkold i b hi;obtain⟨L,hL,hat⟩:=H.at_ i a ha;exact⟨a,L,hn,ha,hL,hm'le i L hL,hat.lt⟩
      have hfull:HeapAt w' I' m' (qjK (back moved nx) h0++(if touched=true then freeze (qa9 h moved) shwn else qa9 h moved)):=by
       have hlk:∀i b,qak (qjK (back moved nx) h0++(if touched=true then freeze (qa9 h moved) shwn else qa9 h moved)) i=some b->qak (qjK (back moved nx) h0) i=some b\/qak (if touched=true then freeze (qa9 h moved) shwn else qa9 h moved) i=some b:=by
        intro i b hi;rw[qbk]at hi;split at hi
        ·rename_i q hq;simp at hi;subst hi;exact .inl hq
        ·exact .inr hi
       constructor
       ·intro i b hi;rcases hlk i b hi with hi|hi
        ·exact hret.at_ i b hi
        ·exact hold.at_ i b hi
       ·intro i j a b L L' hi hj hL hL' he;have cross:∀i j a b L L',qak (qjK (back moved nx) h0) i=some a->qak (if touched=true then freeze (qa9 h moved) shwn else qa9 h moved) j=some b->m' i=some L->m' j=some L'->L.blk=L'.blk->False:=by
         intro i j a b L L' hi hj hL hL' he;obtain⟨a',L2,hn,ha',hL2,hL2',hlt⟩:=holdOwn j b hj;rw[hL2']at hL';cases hL';rcases hretOwn L.blk ⟨i,a,L,hi,hL,rfl⟩with⟨q,aq,Lq,hq,hlq,hLq,hbq⟩|hge
         ·exact hn (H.apart q j aq a' Lq _ hlq ha' hLq hL2 (by rw[hbq,he])▸hq)
         ·omega
        rcases hlk i a hi with hi|hi<;>rcases hlk j b hj with hj|hj
        ·exact hret.apart i j a b L L' hi hj hL hL' he
        ·exact(cross i j a b L L' hi hj hL hL' he).elim
        ·exact(cross j i b a L' L hj hi hL' hL he.symm).elim
        ·exact hold.apart i j a b L L' hi hj hL hL' he
       ·exact hret.old
       ·exact hret.glob
      have hafter:After w w' I I' m m' h (qjK (back moved nx) h0++(if touched=true then freeze (qa9 h moved) shwn else qa9 h moved)) nx:=by
       refine⟨hstay,hII',hm'le,fun i h1 h2=>?_,hfull,fun bk hbk hno=>aft.frame bk hbk fun ho=>hno (hOwn' bk ho),hnewI,fun bk ho=>?_,fun i b hi=>?_⟩
       ·by_cases hn:nx<=i/\i<nx+16
        ·exact hn
        ·rw[hm'in i hn]at h2;exact absurd h1 h2
       ·obtain⟨i,a,L,hi,hL,rfl⟩:=ho;rw[qbk]at hi;split at hi
        ·rename_i q hq;rcases hretOwn L.blk ⟨i,q,L,hq,hL,rfl⟩with⟨j,aj,Lj,_,hlj,hLj,hbj⟩|hge
         ·exact .inl ⟨j,aj,Lj,hlj,hLj,hbj⟩
         ·exact .inr hge
        ·obtain⟨a',L2,hn,ha',hL2,hL2',hlt⟩:=holdOwn i a hi;rw[hL2']at hL;cases hL;exact .inl ⟨i,a',_,ha',hL2,rfl⟩
       ·rw[qbk]at hi;split at hi
        ·rename_i q hq;obtain⟨j,a',hj,hji,rfl⟩:=qeb hq;rcases qi8 hji with hj'|⟨h1,h2,rfl⟩
         ·exact .inl (hmk i (jAl hj'))
         ·exact .inr (hnx _ (by omega) (by omega))
        ·obtain⟨a',_,ha'⟩:=hlkold i b hi;exact .inl ⟨a',ha'⟩
      refine⟨I',m',hafter,?_⟩;cases r0 with
      |ret v=>
       obtain⟨u,he,hu⟩:=hres;exact⟨u,he,hresult u hu⟩
      |pan v=>
       obtain⟨u,he,hu⟩:=hres;exact⟨u,he,hresult u hu⟩
     ·cases hc
   ·cases hc
  ·cases hc
end
end Go.Eng
namespace Go.Eng
set_option linter.unusedSectionVars false
variable [Globs]
section
variable {P:Program} {w:World} {I:Imm} {m:Names} {h:Heap} {nx:Nat} {e:Env} {a:Act}
theorem qCu{f:Nat}(hf:qbP P f)(args:Array Value):(callFunc f args).run P w= .ok (.enter f args) w:=by
 obtain⟨fn,h1,h2,h3⟩:=hf;simp only[callFunc,Sem.run_bind,run_program,Result.andThen_ok,h1,h2,h3,jAn,jBg,Sem.run_pure]
theorem qec{α:Type}{x:Option α}{g:α->IOp}(hg:∀y,qhs (g y)=false){io:IOp}(h:x.map g=some io):qhs io=false:=by
 simp only[jA3]at h;obtain⟨y,_,rfl⟩:=h;exact hg y
theorem zjW{x:Operand}{t:TypeId}{io:IOp}(h:zhS P x t=some io):qhs io=false:=by
 simp only[zhS]at h;split at h
 ·exact qec (fun _=>rfl) h
 ·cases h
theorem zjT{s x:Operand}{t u:TypeId}{io:IOp}(h:zhQ P s x t u=some io):qhs io=false:=by
 simp only[zhQ]at h;split at h
 ·split at h
  ·split at h
   ·cases h;rfl
   ·cases h
  ·cases h
 ·cases h
theorem qNd{bi:Builtin}{args:List Operand}{ts:List TypeId}{io:IOp}(h:qmc P bi args ts=some io):qhs io=false:=by
 simp only[qmc]at h;split at h
 ·split at h
  ·exact zjW h
  ·cases h
 ·split at h
  ·split at h
   ·exact zjT h
   ·cases h
  ·split at h
   ·split at h
    ·cases h
    ·cases h
   ·split at h
    ·split at h
     ·cases h
     ·cases h
    ·split at h
     ·exact qec (fun _=>rfl) h
     ·split at h
      ·exact qec (fun _=>rfl) h
      ·split at h
       ·split at h
        ·exact qec (fun _=>rfl) h
        ·cases h
       ·cases h
theorem zjV{neg:Bool}{op:BinOp}{t:TypeId}{x y:Operand}{a b:Opd}{io:IOp}(h:cEq P neg op t x y a b=some io):qhs io=false:=by
 simp only[cEq]at h;split at h
 ·cases h
 ·split at h
  ·cases h;rfl
  ·cases h;rfl
  ·cases h;rfl
  ·split at h
   ·split at h
    ·cases h
    ·cases h;rfl
   ·cases h
  ·split at h
   ·exact qec (fun _=>rfl) h
   ·cases h
theorem zjU{op:BinOp}{t:TypeId}{x y:Operand}{io:IOp}(h:zmU P op t x y=some io):qhs io=false:=by
 simp only[zmU]at h;split at h
 ·split at h
  ·exact zjV h
  ·split at h
   ·exact zjV h
   ·cases h;rfl
 ·cases h
theorem zjX{fn:Fn}{a b:List Operand}{io:IOp}(h:zmV fn a b=some io):qhs io=false:=by
 simp only[zmV]at h;split at h
 ·split at h
  ·exact qec (fun _=>rfl) h
  ·cases h
 ·cases h
theorem zjY{t:TypeId}{x:Operand}{lo hi mx:Option Operand}{io:IOp}(h:zmX P t x lo hi mx=some io):qhs io=false:=by
 simp only[zmX]at h;split at h
 ·cases h
 ·split at h
  ·exact qec (fun _=>rfl) h
  ·cases h;rfl
  ·cases h
theorem zow{mn:Nat->Option String}{op:Op}(hop:∀c,op≠ .call c){io:IOp}(h:cOp P mn op=some io):qhs io=false:=by
  cases op<;>simp only[cOp,reduceCtorEq]at h
  case call c=>exact absurd rfl (hop c)
  case binOp=>exact zjU h
  case makeFunc=>exact zjX h
  case slice=>exact zjY h
  case move=>exact qec (fun _=>rfl) h
  case assign=>exact qec (fun _=>rfl) h
  case panic=>exact qec (fun _=>rfl) h
  case nilCheck x=>
    cases x<;>simp only[zgw]at h
    · split at h<;>cases h<;>rfl
    all_goals exact qec (fun _=>rfl) h
  case unOp=>exact qec (fun _=>rfl) h
  case extract=>exact qec (fun _=>rfl) h
  all_goals
    split at h
    all_goals
      first
        |(cases h;done)
        |(cases h;rfl)
        |exact qec (fun _=>rfl) h
        | (split at h
           all_goals
             first
               |(cases h;done)
               |(cases h;rfl)
               |exact qec (fun _=>rfl) h
               | (split at h
                  all_goals
                    first
                      |(cases h;done)
                      |(cases h;rfl)
                      |exact qec (fun _=>rfl) h
                      |(split at h<;>first|(cases h;done)|(cases h;rfl)|exact qec (fun _=>rfl) h)))
theorem zqd{IP:Prog}{call:qa2}(hcall:qdF P call)(ht:qle w I m e a)(H:HeapAt w I m h)(hnx:∀i,nx<=i->i<nx+16->m i=none){o:Oper}{io:IOp}{mn:Nat->Option String}(hc:cOp P mn o.op=some io){r:Res}{h':Heap}{b:Bool}
  (hs:opS IP call nx (qbo e) h io=some (r,h',b)) {next:Act->World->Prop} {Q:Exit->Act->World->Prop}
  (hret:∀v u w' I' m',r= .ret v->After w w' I I' m m' h h' nx->Rel w' I' v m' u->next (a.put o.dst u) w')
  (hpan:∀v u w' I' m',r= .pan v->After w w' I I' m m' h h' nx->Rel w' I' v m' u->Q (.panic [{ v:=u,recovered:=false }]) a w'):o.wp P a w next Q:=by
 have hcalls:∀(f:Nat) (args:List AV) (vs:List Value),qaQ w I args m vs->qkP IP call h nx f args=some (r,h',b)->(execOp a.eval o).run P w=(callFunc f vs.toArray).run P w->o.wp P a w next Q:=by
  intro f args vs hr hA hexec;rcases qD7 hcall H hnx hr hA with⟨hent,hcl⟩|⟨u,hrun,I',m',haft,hres⟩
  rotate_left
  ·simp only[Oper.wp,hexec,hrun,Oper.upon];cases r with
   |ret v=>
    obtain⟨u',he,hu⟩:=hres;cases he;exact hret v u w I' m' rfl haft hu
   |pan v=>
    obtain⟨u',he,_⟩:=hres;cases he
  simp only[Oper.wp,hexec,qCu hent,Oper.upon];refine hcl.mono ?_;rintro e' w' ⟨I',m',haft,hres⟩;cases r with
  |ret v=>
   obtain⟨u,rfl,hu⟩:=hres;exact hret v u w' I' m' rfl haft hu
  |pan v=>
   obtain⟨u,rfl,hu⟩:=hres;exact hpan v u w' I' m' rfl haft hu
 by_cases hnc:qhs io=true
 ·
  obtain⟨dst,op,type,pos,after,guard⟩:=o;cases op
  case call c=>
   obtain⟨callee,args,ts⟩:=c;cases callee
   case invoke rv name=>
    simp[cOp,qD4,znN]at hc
   case builtin bi=>
    have:=qNd (by simpa[cOp,qD4]using hc);rw[this]at hnc;cases hnc
   case value f=>
    simp only[cOp,qD4,qD5]at hc;have hmap:args.map a.eval=(args.toList.map a.eval).toArray:=by apply Array.ext';simp
    cases f<;>simp only[reduceCtorEq,jA3]at hc
    case tmp t=>
     obtain⟨ys,hys,rfl⟩:=hc;simp only[opS]at hs;split at hs
     ·rename_i f cap hf;have hfr:=ht t;simp only[qbo]at hf;rw[hf]at hfr;simp only[Rel]at hfr;obtain⟨cs,hcs,hrc⟩:=hfr;refine hcalls f _ (args.toList.map a.eval++cs) (qdX (qhA ht hys) hrc) hs ?_;have hev:a.eval (.tmp t)= .func (.func f) #[] cs.toArray:=hcs;simp only[execOp,resolve,Deferred.ofValue,hev,Sem.run_bind,Sem.run_pure,Result.andThen_ok,invoke];rw[hmap];simp
     ·cases hs
    case func f=>
     obtain⟨ys,hys,rfl⟩:=hc;simp only[opS]at hs;refine hcalls f _ (args.toList.map a.eval) (qwM (qhA ht hys)) hs ?_;have hev:a.eval (.func f)= .func (.func f) #[] #[]:=rfl;simp only[execOp,resolve,Deferred.ofValue,hev,Sem.run_bind,Sem.run_pure,Result.andThen_ok,invoke];rw[hmap];simp
  all_goals
   have:=zow (fun c h=>by cases h) hc;rw[this]at hnc;cases hnc
 ·have hout:=q3J (P:=P) ht H (hnx nx (jAj _) (by omega)) hc (by simpa using hnc) hs;cases r with
  |ret v=>
   obtain⟨n,w',I',m',hrun,haft,hn⟩:=hout;simp only[Oper.wp,hrun];rcases hn with⟨u,rfl,hu⟩|⟨rfl,rfl⟩
   ·exact hret v u w' I' m' rfl haft hu
   ·exact hret q0s undef w' I' m' rfl haft (by simp[q0s,undef,Rel,qaQ])
  |pan v=>
   obtain⟨rfl,u,hrun,hu⟩:=hout;simp only[Oper.wp,hrun];exact hpan v u w I m rfl (After.same H) hu
end
end Go.Eng
namespace Go.Eng
set_option linter.unusedSectionVars false
variable [Globs]
section
variable {P:Program} {w:World} {I:Imm} {m:Names} {h:Heap} {nx:Nat} {e:Env} {a:Act}
theorem HeapAt.congr{h':Heap}(H:HeapAt w I m h)(hs:∀i,qak h' i=qak h i):HeapAt w I m h':=
 H.sub' fun i b hi=>by rw[<-hs i];exact hi
theorem Owns.congr{h':Heap}{b:Nat}(hs:∀i,qak h' i=qak h i):Owns m h' b ↔ Owns m h b:=by
 constructor
 ·rintro⟨i,a,L,hi,hL,rfl⟩;exact⟨i,a,L,by rw[<-hs i];exact hi,hL,rfl⟩
 ·rintro⟨i,a,L,hi,hL,rfl⟩;exact⟨i,a,L,by rw[hs i];exact hi,hL,rfl⟩
theorem Aft.refl(H:HeapAt w I m h):Aft w w I I m m h h:=
 ⟨Stays.refl w I,fun _ _ h=>h,fun _ _ h=>h,H,fun _ _ _=>rfl,fun _ _ h=>.inl h,fun _ h=>.inl h⟩
theorem Aft.trans{w1 w2:World}{I1 I2:Imm}{m1 m2:Names}{h1 h2:Heap}(a:Aft w w1 I I1 m m1 h h1)(b:Aft w1 w2 I1 I2 m1 m2 h1 h2):Aft w w2 I I2 m m2 h h2 where
 stays:=a.stays.trans b.stays a.imm
 imm:=fun _ _ h=>b.imm _ _ (a.imm _ _ h)
 names:=fun _ _ h=>b.names _ _ (a.names _ _ h)
 heap:=b.heap
 frame:=fun k hk hno=>by
  have h1':¬Owns m1 h1 k:=fun ho=>by
   rcases a.owns k ho with ho|hge
   ·exact hno ho
   ·omega
  exact(b.frame k (jBz hk a.stays.size) h1').trans (a.frame k hk hno)
 newI:=fun k o hi=>by
  rcases b.newI k o hi with hi|ho|hge
  ·exact a.newI k o hi
  ·rcases a.owns k ho with ho|hge
   ·exact .inr (.inl ho)
   ·exact .inr (.inr hge)
  ·exact .inr (.inr (jAz a.stays.size hge))
 owns:=fun k ho=>by
  rcases b.owns k ho with ho|hge
  ·exact a.owns k ho
  ·exact .inr (jAz a.stays.size hge)
theorem Aft.congr{w':World}{I':Imm}{m':Names}{h1 h2:Heap}(a:Aft w w' I I' m m' h h1)(hs:∀i,qak h2 i=qak h1 i):Aft w w' I I' m m' h h2:=
 ⟨a.stays,a.imm,a.names,a.heap.congr hs,a.frame,a.newI,fun b ho=>a.owns b ((Owns.congr hs).1 ho)⟩
theorem After.lift{w':World}{I':Imm}{m':Names}{r:List Nat}{h1:Heap}(H:HeapAt w I m h)(a:After w w' I I' m m' (sub h r) h1 nx):Aft w w' I I' m m' h (h1++qa9 h r):=by
 have hown:∀b,Owns m (sub h r) b-> ∃i x L,i∈r/\qak h i=some x/\m i=some L/\L.blk=b:=by
  rintro b ⟨i,x,L,hi,hL,rfl⟩;rw[qcA]at hi;split at hi
  ·exact⟨i,x,L,by assumption,hi,hL,rfl⟩
  ·cases hi
 have hown':∀b,Owns m (sub h r) b->Owns m h b:=fun b ho=>by
  obtain⟨i,x,L,_,h1,h2,h3⟩:=hown b ho;exact⟨i,x,L,h1,h2,h3⟩
 have hrest:∀i x,qak (qa9 h r) i=some x->i∉r/\qak h i=some x:=fun i x hi=>by
  rw[qbQ]at hi;split at hi
  ·cases hi
  ·exact⟨by assumption,hi⟩
 have hnot:∀i x L,i∉r->qak h i=some x->m i=some L-> ¬Owns m (sub h r) L.blk:=fun i x L hn hi hL ho=>by
  obtain⟨j,y,L',hj,hlj,hLj,he⟩:=hown _ ho;exact hn (H.apart i j x y L L' hi hlj hL hLj he.symm▸hj)
 have hlk:∀i b,qak (h1++qa9 h r) i=some b->qak h1 i=some b\/(qak h1 i=none/\qak (qa9 h r) i=some b):=by
  intro i b hi;rw[qbk]at hi;split at hi
  ·rename_i q hq;simp at hi;subst hi;exact .inl hq
  ·rename_i hq;exact .inr ⟨hq,hi⟩
 refine⟨a.stays,a.imm,a.names,⟨fun i b hi=>?_,fun i j x y L L' hi hj hL hL' he=>?_,a.heap.old,a.heap.glob⟩,fun b hb hno=>a.frame b hb fun ho=>hno (hown' b ho),fun b o hi=>?_,fun b ho=>?_⟩
 ·rcases hlk i b hi with hi|⟨_,hi⟩
  ·exact a.heap.at_ i b hi
  ·obtain⟨hn,hi⟩:=hrest i b hi;obtain⟨L,hL,hat⟩:=H.at_ i b hi;refine⟨L,a.names i L hL,hat.keep a.stays a.imm a.names (a.frame _ hat.lt (hnot i b L hn hi hL)) fun o ho=>?_⟩;rcases a.newI _ _ ho with h1|h1|h1
   ·exact h1
   ·exact absurd h1 (hnot i b L hn hi hL)
   ·have:=hat.lt;omega
 ·have cross:∀i j x y L L',qak h1 i=some x->qak (qa9 h r) j=some y->m' i=some L->m' j=some L'->L.blk=L'.blk->False:=by
   intro i j x y L L' hi hj hL hL' he;obtain⟨hn,hj⟩:=hrest j y hj;obtain⟨L2,hL2,hat⟩:=H.at_ j y hj;have:=a.names j L2 hL2;rw[this]at hL';cases hL';rcases a.owns L.blk ⟨i,x,L,hi,hL,rfl⟩with ho|hge
   ·exact hnot j y _ hn hj hL2 (he▸ho)
   ·have:=hat.lt;omega
  rcases hlk i x hi with hi|⟨_,hi⟩<;>rcases hlk j y hj with hj|⟨_,hj⟩
  ·exact a.heap.apart i j x y L L' hi hj hL hL' he
  ·exact(cross i j x y L L' hi hj hL hL' he).elim
  ·exact(cross j i y x L' L hj hi hL' hL he.symm).elim
  ·obtain⟨_,hi⟩:=hrest i x hi;obtain⟨_,hj⟩:=hrest j y hj;obtain⟨L1,hL1,_⟩:=H.at_ i x hi;obtain⟨L2,hL2,_⟩:=H.at_ j y hj;rw[a.names i L1 hL1]at hL;cases hL;rw[a.names j L2 hL2]at hL';cases hL';exact H.apart i j x y _ _ hi hj hL1 hL2 he
 ·rcases a.newI b o hi with h1|h1|h1
  ·exact .inl h1
  ·exact .inr (.inl (hown' b h1))
  ·exact .inr (.inr h1)
 ·obtain⟨i,x,L,hi,hL,rfl⟩:=ho;rcases hlk i x hi with hi|⟨_,hi⟩
  ·rcases a.owns _ ⟨i,x,L,hi,hL,rfl⟩with h1|h1
   ·exact .inl (hown' _ h1)
   ·exact .inr h1
  ·obtain⟨_,hi⟩:=hrest i x hi;obtain⟨L1,hL1,_⟩:=H.at_ i x hi;rw[a.names i L1 hL1]at hL;cases hL;exact .inl ⟨i,x,_,hi,hL1,rfl⟩
theorem qhq(r:List Nat):∀(h:Heap) (j:Nat),qak (news r h) j=if j∈r then none else qak h j
 | [],j=>by simp[news,qak]
 |(i,b)::h,j=>by
  simp only[news];by_cases hc:r.contains i=true
  ·rw[jAr hc,qhq r h j];have:i∈r:=by simpa using hc
   by_cases hj:j∈r
   ·simp[hj]
   ·have:j≠i:=fun e=>hj (e▸this)
    simp[hj,qak,this]
  ·rw[jAm hc];have hn:i∉r:=by simpa using hc
   simp only[qak,qhq r h j];by_cases e:j=i
   ·subst e;simp[hn]
   ·simp[e]
theorem quiet{IP:Prog}{call:qa2}{io:IOp}{r:Res}{h':Heap}(hfree:∀i,nx<=i->i<nx+16->qak h i=none)(hs:opS IP call nx (qbo e) h io=some (r,h',false)):∀i b,qak h i=some b->qak h' i=some b:=by
  have put:∀b',h'=qi3 h nx b'-> ∀i b,qak h i=some b->qak h' i=some b:=by
    intro b' he i b hi;subst he;rw[qbG];have:i≠nx:=fun e=>by rw[e,hfree nx (jAj _) (by omega)]at hi;cases hi
    simp[this,hi]
  have same:h'=h-> ∀i b,qak h i=some b->qak h' i=some b:=fun he i b hi=>he▸hi
  have hval:∀{v:AV} {b:Bool},val v h=some (r,h',b)->h'=h:=fun hv=>by simp[val]at hv;exact hv.2.1.symm
  have hvalO:∀{v:Option AV} {b:Bool},qGV v h=some (r,h',b)->h'=h:=fun hv=>by
    rename_i v b;cases v<;>simp[qGV]at hv;exact hv.2.1.symm
  have hcall:∀f args,qkP IP call h nx f args=some (r,h',false)-> ∀i b,qak h i=some b->qak h' i=some b:=by
    intro f args hc i b hi;simp only[qkP]at hc;split at hc
    · cases hc
    · split at hc
      · rename_i moved shwn hmv hsh
        split at hc
        · split at hc
          · cases hc
          · rename_i r0 h0 hcl
            split at hc
            · rename_i hall
              simp only[jA7,jAd,jB6]at hc;obtain⟨_,rfl,hm,ht⟩:=hc;have hmn:moved= []:=by simpa using hm
              subst hmn;rw[qbk];have hnone:qak (qjK (back [] nx) h0) i=none:=by
                cases hq:qak (qjK (back [] nx) h0) i with
                |none=>rfl
                |some q=>
                  obtain⟨j,a',_,hji,_⟩:=qeb hq;rcases qi8 hji with hj'|⟨h1,h2,h3⟩
                  · simp at hj'
                  · simp at h2 h3
                    rw[hfree i (by omega) (by omega)]at hi;cases hi
              rw[hnone];simp only[ht,jAn,jBg,qa9];exact hi
            · cases hc
        · cases hc
      · cases hc
  cases io<;>simp only[opS]at hs
  case call f args=>exact hcall _ _ hs
  case callv fv args=>
    split at hs
    · exact hcall _ _ hs
    · cases hs
  case alloc=>simp at hs;exact put _ hs.2.symm
  case box=>
    split at hs
    · simp at hs;exact put _ hs.2.symm
    · cases hs
  case mks=>
    split at hs
    · split at hs
      · simp at hs;exact put _ hs.2.symm
      · cases hs
    · cases hs
  all_goals
    first
      |(cases hs;done)
      |exact same (hval hs)
      |exact same (hvalO hs)
      | (split at hs
         all_goals
           first
             |(cases hs;done)
             |exact same (hval hs)
             |exact same (hvalO hs)
             |(simp at hs;done)
             | (split at hs
                all_goals
                  first
                    |(cases hs;done)
                    |exact same (hval hs)
                    |exact same (hvalO hs)
                    |(simp at hs;done)
                    | (split at hs
                       all_goals
                         first
                           |(cases hs;done)
                           |exact same (hval hs)
                           |exact same (hvalO hs)
                           |(simp at hs;done)
                           |(split at hs<;>first|(cases hs;done)|exact same (hval hs)|exact same (hvalO hs)|(simp at hs;done)))))
theorem q9P{w':World}{I':Imm}{m':Names}(ht:qle w' I' m' e a){v:AV}{u:Value}(hu:Rel w' I' v m' u){dst:Option Nat}(hd:∀d,dst=some d->d<a.tmps.size):qle w' I' m' (qF6 e dst v) (a.put dst u):=by
 cases dst with
 |none=>exact ht
 |some d=>
  have hlt:=hd d rfl;intro t;simp only[qF6,qbV,Act.put];by_cases ht':t=d
  ·subst ht';simp[hlt,hu]
  ·rw[jAm ht'];have:=ht t;simpa[Array.getElem?_setIfInBounds,Ne.symm ht']using this
theorem qGD{w':World}{I':Imm}{m':Names}(ht:qle w I m e a)(s:Stays w w' I)(hI:∀b o,I b o->I' b o)(hm:∀i L,m i=some L->m' i=some L):qle w' I' m' e a:=
 fun t=>qaV s hI _ hm (ht t)
end
end Go.Eng
namespace Go.Eng
set_option linter.unusedSectionVars false
class Dfs where
 ds:List Deferred
variable [Globs] [Dfs]
section
variable {P:Program} {hint:Nat->Nat} {w:World} {I:Imm} {m:Names} {h:Heap} {nx:Nat} {e:Env} {a:Act}
structure Fr (k:Nat) (w w':World) (I I':Imm) (m m':Names) (h h':Heap):Prop where
 stays:Stays w w' I
 imm:∀b o,I b o->I' b o
 names:∀i L,i<k->m i=some L->m' i=some L
 frame:∀b,b<w.heap.size-> ¬Owns m h b->w'.heap[b]? = w.heap[b]?
 newI:∀b o,I' b o->I b o\/Owns m h b\/w.heap.size<=b
 owns:∀b,Owns m' h' b->Owns m h b\/w.heap.size<=b
theorem Fr.refl(k:Nat):Fr k w w I I m m h h:=
 ⟨Stays.refl w I,fun _ _ h=>h,fun _ _ _ h=>h,fun _ _ _=>rfl,fun _ _ h=>.inl h,fun _ h=>.inl h⟩
theorem Aft.fr{w':World}{I':Imm}{m':Names}{h':Heap}(a:Aft w w' I I' m m' h h')(k:Nat):Fr k w w' I I' m m' h h':=
 ⟨a.stays,a.imm,fun i L _ h=>a.names i L h,a.frame,a.newI,a.owns⟩
theorem Fr.trans{k:Nat}{w1 w2:World}{I1 I2:Imm}{m1 m2:Names}{h1 h2:Heap}(a:Fr k w w1 I I1 m m1 h h1)(b:Fr k w1 w2 I1 I2 m1 m2 h1 h2):Fr k w w2 I I2 m m2 h h2 where
 stays:=a.stays.trans b.stays a.imm
 imm:=fun _ _ h=>b.imm _ _ (a.imm _ _ h)
 names:=fun _ _ hk h=>b.names _ _ hk (a.names _ _ hk h)
 frame:=fun k hk hno=>by
  have h1':¬Owns m1 h1 k:=fun ho=>by
   rcases a.owns k ho with ho|hge
   ·exact hno ho
   ·omega
  exact(b.frame k (jBz hk a.stays.size) h1').trans (a.frame k hk hno)
 newI:=fun k o hi=>by
  rcases b.newI k o hi with hi|ho|hge
  ·exact a.newI k o hi
  ·rcases a.owns k ho with ho|hge
   ·exact .inr (.inl ho)
   ·exact .inr (.inr hge)
  ·exact .inr (.inr (jAz a.stays.size hge))
 owns:=fun k ho=>by
  rcases b.owns k ho with ho|hge
  ·exact a.owns k ho
  ·exact .inr (jAz a.stays.size hge)
structure Fits (w:World) (I:Imm) (m:Names) (e:Env) (h:Heap) (nx n:Nat) (a:Act):Prop where
 tm:qle w I m e a
 hp:HeapAt w I m h
 nx:∀i,nx<=i->m i=none
 sz:n<=a.tmps.size
 df:a.defers=Dfs.ds
def qAP(ops:Array Oper):Option (Nat×Bool)->Option (Option (Nat×Bool))
 |none=>some none
 |some (j,want)=>match (ops[j]?).bind (·.dst)with
  |some d=>some (some (d,want))
  |none=>none
def zsx(n:Nat):Option Nat->Bool
 |none=>true
 |some d=>decide (d<n)
def retag(hint:Nat->Nat)(dst:Option Nat):IOp->IOp
 | .mov (.c (.nils q))=>.mov (.c (.nils ⟨match dst with|some d=>hint d|none=>q.sz,q.kd⟩))
 |op=>op
theorem qZI{IP:Prog}{call:qa2}{dst:Option Nat}{ev:Opd->AV}(hev:∀v,ev (.c v)=v){op:IOp}{nx:Nat}{h:Heap}{x:Res}{out:Heap}{b:Bool}(hx:opS IP call nx ev h (retag hint dst op)=some (x,out,b)) :
  ∃x0,opS IP call nx ev h op=some (x0,out,b)/\(x=x0\/ ∃j k,x= .ret (.nils j)/\x0= .ret (.nils k)/\j.kd=k.kd):=by
 unfold retag at hx;split at hx
 ·rename_i k;simp only[opS,val,hev,jA7,jAd]at hx ⊢;obtain⟨rfl,rfl,rfl⟩:=hx;exact⟨_,⟨rfl,rfl,rfl⟩,.inr ⟨_,_,rfl,rfl,rfl⟩⟩
 ·exact⟨x,hx,.inl rfl⟩
def zm9(ops:Array Oper)(t:Nat):Option String:=match ops.toList.find? (fun o=>o.dst==some t)with
 |some o=>match o.op with
  | .makeFunc (.method s) _ _=>some s
  |_=>none
 |none=>none
def qzk:IOp:=.pan (.c .junk)
def qKS(P:Program)(hint:Nat->Nat)(n:Nat)(ops:Array Oper)(o:Oper):Option IOper:=
 if zsx n o.dst then match qAP ops o.guard with
  |some g=>some ⟨o.dst,retag hint o.dst ((cOp P (zm9 ops) o.op).getD qzk),g⟩
  |none=>none
 else none
def qja(P:Program)(hint:Nat->Nat)(n:Nat)(ops:Array Oper):List Oper->Option (List IOper)
 | []=>some []
 |o::os=>match qKS P hint n ops o,qja P hint n ops os with
  |some x,some xs=>some (x::xs)
  |_,_=>none
theorem qKT{n:Nat}{ops:Array Oper}{o:Oper}{io:IOper}(h:qKS P hint n ops o=some io) :
  io.dst=o.dst/\(∀d,o.dst=some d->d<n)/\(∃op,(cOp P (zm9 ops) o.op=some op\/op=qzk)/\io.op=retag hint o.dst op)/\qAP ops o.guard=some io.guard:=by
 simp only[qKS]at h;split at h
 ·rename_i hd;split at h
  ·rename_i g h2;cases h;refine⟨rfl,fun d he=>?_,⟨_,?_,rfl⟩,h2⟩
   rotate_left
   ·cases cOp P (zm9 ops) o.op with
    |none=>exact .inr rfl
    |some op=>exact .inl rfl
   rw[he]at hd;simpa[zsx]using hd
  ·cases h
 ·cases h
theorem qcG{n:Nat}{ops:Array Oper}:∀{os:List Oper} {ios:List IOper},qja P hint n ops os=some ios->ios.length=os.length
 | [],ios,h=>by simp[qja]at h;subst h;rfl
 |o::os,ios,h=>by
  simp only[qja]at h;split at h
  ·rename_i x xs h1 h2;cases h;simp[qcG h2]
  ·cases h
theorem qhi{n:Nat}{ops:Array Oper}:∀{os:List Oper} {ios:List IOper},qja P hint n ops os=some ios-> ∀(i:Nat) (o:Oper),os[i]? = some o-> ∃io,ios[i]? = some io/\qKS P hint n ops o=some io
 | [],ios,_,i,o,ho=>by simp at ho
 |o::os,ios,h,i,o',ho=>by
  simp only[qja]at h;split at h
  ·rename_i x xs h1 h2;cases h;cases i with
   |zero=>simp at ho;subst ho;exact⟨x,rfl,h1⟩
   |succ i=>simpa using qhi h2 i o' (by simpa using ho)
  ·cases h
theorem quX(ht:qle w I m e a){ops:Array Oper}{o:Oper}{g:Option (Nat×Bool)}(hg:qAP ops o.guard=some g){b:Bool}(hw:ql0 e g=some b):Region.wanted o (yielded ops a.tmps)=b:=by
 cases hog:o.guard with
 |none=>
  rw[hog]at hg;simp[qAP]at hg;subst hg;simp[ql0]at hw;subst hw;simp[Region.wanted,hog]
 |some jw=>
  obtain⟨j,want⟩:=jw;rw[hog]at hg;simp only[qAP]at hg;split at hg
  ·rename_i d hd;cases hg;have hr:=ht d;simp only[ql0]at hw;split at hw
   ·rename_i t htt;rw[htt]at hr;simp only[Rel]at hr;have hs:a.tmps[d]? = some (.bool t):=by
     cases hq:a.tmps[d]? with
     |none=>simp[hq,undef]at hr
     |some v=>simp[hq]at hr;rw[hr]
    simp at hw;subst hw;simp[Region.wanted,hog,yielded,hd,hs]
   ·rename_i htt;rw[htt]at hr;simp only[Rel,qaQ]at hr;obtain⟨vs,hv,hvs⟩:=hr;subst hvs;simp at hw;subst hw;have hy:yielded ops a.tmps j=none:=by
     simp only[yielded,hd,Option.bind_some];cases hq:a.tmps[d]? with
     |none=>rfl
     |some v=>simp[hq]at hv;subst hv;rfl
    simp[Region.wanted,hog,hy]
   ·cases hw
  ·cases hg
end
end Go.Eng
namespace Go.Eng
set_option linter.unusedSectionVars false
variable [Globs] [Dfs]
section
variable {P:Program} {hint:Nat->Nat} {w:World} {I:Imm} {m:Names} {h:Heap} {nx:Nat} {e:Env} {a:Act}
theorem Fits.hnone{n:Nat}(F:Fits w I m e h nx n a):∀i,nx<=i->qak h i=none:=by
 intro i hi;cases hq:qak h i with
 |none=>rfl
 |some b=>
  obtain⟨L,hL,_⟩:=F.hp.at_ i b hq;rw[F.nx i hi]at hL;cases hL
theorem qKg(a:Act)(dst:Option Nat)(v:Value):(a.put dst v).tmps.size=a.tmps.size:=by
 cases dst<;>simp[Act.put]
theorem put_defers(a:Act)(dst:Option Nat)(v:Value):(a.put dst v).defers=a.defers:=by
 cases dst<;>simp[Act.put]
theorem qiG{IP:Prog}{call:qa2}(hcall:qdF P call){n:Nat}(ht:qle w I m e a)(H:HeapAt w I m h)(hfree:∀i,nx<=i->i<nx+16->m i=none)(hsz:n<=a.tmps.size){ops:Array Oper}{o:Oper}{io:IOper}(hc:qKS P hint n ops o=some io){s:Step}(hs:qcU IP call nx io e h=some s)
  {next:Act->World->Prop} {Q:Exit->Act->World->Prop}
  (hret:∀a' w' I' m',(∀r v out,s≠ .pan r v out)->Aft w w' I I' m m' h (qaZ h s)->qle w' I' m' (qbz e io.dst s) a'->(∀i,m i=none->m' i≠none->nx<=i/\i<nx+16)->a'.tmps.size=a.tmps.size->a'.defers=a.defers->next a' w')
  (hpan:∀r v out u w' I' m',s= .pan r v out->Aft w w' I I' m m' h (qaZ h s)->Rel w' I' v m' u->Q (.panic [{ v:=u,recovered:=false }]) a w') :
  (Region.wanted o (yielded ops a.tmps)=true/\o.wp P a w next Q)\/(Region.wanted o (yielded ops a.tmps)=false/\next (a.put o.dst undef) w):=by
 obtain⟨hdst,hd,⟨op0,hop,hio⟩,hg⟩:=qKT hc;have hnone:∀i,nx<=i->i<nx+16->qak h i=none:=by
  intro i h1 h2;cases hq:qak h i with
  |none=>rfl
  |some b=>
   obtain⟨L,hL,_⟩:=H.at_ i b hq;rw[hfree i h1 h2]at hL;cases hL
 simp only[qcU]at hs;split at hs
 ·cases hs
 ·rename_i hw;cases hs;refine .inr ⟨quX ht hg hw,hret _ _ I m (by simp) (Aft.refl H) ?_ (fun i h1 h2=>absurd h1 h2) (qKg _ _ _) (put_defers _ _ _)⟩;simp only[qbz];rw[hdst];exact q9P ht (by simp[q0s,undef,Rel,qaQ]) fun d he=>jBz (hd d he) hsz
 ·rename_i hw;refine .inl ⟨quX ht hg hw,?_⟩;split at hs
  ·cases hs
  ·rename_i r hr;have H':HeapAt w I m (sub h r):=H.sub' fun i b hi=>by
    rw[qcA]at hi;split at hi
    ·exact hi
    ·cases hi
   have hres:∀(x:Res) (out:Heap) (b:Bool) , opS IP call nx (qbo e) (sub h r) io.op=some (x,out,b)->s=(match x with | .ret v=>.did r b v out | .pan v=>.pan r v out)->o.wp P a w next Q:=by
    intro x out b hop' hsx;have hop2:=hop';rw[hio]at hop2;obtain⟨x0,hop0,hxx⟩:=qZI (fun _=>rfl) hop2;have hop:cOp P (zm9 ops) o.op=some op0:=by
     rcases hop with hop|hst
     ·exact hop
     ·subst hst;simp[qzk,opS,qbo]at hop0
    refine zqd hcall ht H' hfree hop hop0 ?_ ?_
    ·rintro v0 u w' I' m' rfl ha hu0;obtain⟨v,hxv,hu⟩:∃v,x= .ret v/\Rel w' I' v m' u:=by
      rcases hxx with rfl|⟨j,k,rfl,he,hkd⟩
      ·exact⟨_,rfl,hu0⟩
      ·cases he;exact⟨_,rfl,by simp only[Rel]at hu0 ⊢;rw[hkd];exact hu0⟩
     subst hxv;have hA:=ha.lift H;have heq:∀i,qak (qaZ h s) i=qak (out++qa9 h r) i:=by
      intro i;rw[hsx];simp only[qaZ];cases b with
      |true=>simp
      |false=>
       simp only[jAn,jBg,qbk,qhq,qbQ];by_cases hi:i∈r
       ·obtain⟨_,_,hb⟩:=qkn hr;obtain⟨q,hq⟩:=hb i hi;have hsub:qak (sub h r) i=some q:=by rw[qcA,jAr hi,hq]
        have:=quiet (fun j h1 h2=>by
         rw[qcA];split
         ·exact hnone j h1 h2
         ·rfl) hop' i q hsub
        simp[hi,hq,this]
       ·simp[hi]
     refine hret _ _ I' m' (by rw[hsx];simp) (hA.congr heq) ?_ ha.fresh (qKg _ _ _) (put_defers _ _ _);rw[hsx];simp only[qbz];rw[hdst];exact q9P (qGD ht ha.stays ha.imm ha.names) hu fun d he=>jBz (hd d he) hsz
    ·rintro v u w' I' m' rfl ha hu;obtain rfl:x= .pan v:=by
      rcases hxx with rfl|⟨j,k,rfl,he,_⟩
      ·rfl
      ·cases he
     refine hpan r v out u w' I' m' hsx ?_ hu;rw[hsx];exact ha.lift H
   split at hs
   ·cases hs
   ·rename_i v out b hop';cases hs;exact hres _ _ _ hop' rfl
   ·rename_i v out b hop';cases hs;exact hres _ _ _ hop' rfl
theorem qNE{IP:Prog}{call:qa2}(hcall:qdF P call){n:Nat}(F:Fits w I m e h nx n a){ops:Array Oper}{o:Oper}{io:IOper}(hc:qKS P hint n ops o=some io){s:Step}(hs:qcU IP call nx io e h=some s)
  {next:Act->World->Prop} {Q:Exit->Act->World->Prop}
  (hret:∀a' w' I' m',(∀r v out,s≠ .pan r v out)->Aft w w' I I' m m' h (qaZ h s)->Fits w' I' m' (qbz e io.dst s) (qaZ h s) (nx+16) n a'->next a' w')
  (hpan:∀r v out u w' I' m',s= .pan r v out->Aft w w' I I' m m' h (qaZ h s)->Rel w' I' v m' u->Q (.panic [{ v:=u,recovered:=false }]) a w') :
  (Region.wanted o (yielded ops a.tmps)=true/\o.wp P a w next Q)\/(Region.wanted o (yielded ops a.tmps)=false/\next (a.put o.dst undef) w):=by
 refine qiG hcall F.tm F.hp (fun i h1 _=>F.nx i h1) F.sz hc hs ?_ hpan;intro a' w' I' m' hnp hA ht' hfr hsz hdf;refine hret a' w' I' m' hnp hA ⟨ht',hA.heap,fun i hi=>?_,by rw[hsz];exact F.sz,by rw[hdf];exact F.df⟩;cases hq:m' i with
 |none=>rfl
 |some L=>
  have:=hfr i (F.nx i (by omega)) (by rw[hq];simp);omega
def qNR(id:Nat):Exit:=if id<1000000 then .exit id else if id%2=0 then .goto ((id-1000000) / 2)else .exit id
theorem qEm{id:Nat}(h:id<1000000):qNR id= .exit id:=by unfold qNR;rw[jAr h]
theorem qA3(l:Nat):qNR (1000000+2*l)= .goto l:=by
 unfold qNR;rw[jAm (by omega),jAr (by omega)]
 congr 1;omega
theorem qxM(id:Nat):qNR id≠ .normal:=by unfold qNR;split<;>(try split)<;>simp
theorem qvz(id:Nat):(qNR id= .exit id)\/(1000000<=id/\id%2=0/\ ∃l,qNR id= .goto l/\id=1000000+2*l):=by
 unfold qNR;split
 ·exact .inl rfl
 ·split
  ·exact .inr ⟨by omega,by assumption,(id-1000000) / 2,rfl,by omega⟩
  ·exact .inl rfl
def Ends(w:World)(I:Imm)(m:Names)(h:Heap)(k n:Nat)(x:X)(s:St)(e:Exit)(a:Act)(w':World):Prop:=
 ∃I' m',Fr k w w' I I' m m' h s.hp/\match x with
  | .normal=>e= .normal/\Fits w' I' m' s.tm s.hp s.nx n a
  | .exit id=>e=qNR id/\Fits w' I' m' s.tm s.hp s.nx n a
  | .ret=>e= .ret/\Fits w' I' m' s.tm s.hp s.nx n a
  | .pan v=>a.defers=Dfs.ds/\HeapAt w' I' m' s.hp/\qle w' I' m' s.tm a/\ ∃u,e= .panic [{ v:=u,recovered:=false }]/\Rel w' I' v m' u
theorem Ends.after{k n:Nat}{w1:World}{I1:Imm}{m1:Names}{h1:Heap}{x:X}{s:St}{e:Exit}{a:Act}{w':World}(f:Fr k w w1 I I1 m m1 h h1)(E:Ends w1 I1 m1 h1 k n x s e a w'):Ends w I m h k n x s e a w':=by
 obtain⟨I',m',f',hx⟩:=E;exact⟨I',m',f.trans f',hx⟩
theorem quN(c d t:Nat):∀e:Env,qbV (qdS c d e) t=qbV e t\/qbV (qdS c d e) t= .junk
 | []=>.inl rfl
 |(j,v)::e=>by
  simp only[qdS];split
  ·rename_i hb;by_cases htj:t=j
   ·right;subst htj;have:∀e:Env,qbV (qdS c d e) t= .junk:=by
     intro e
     induction e with
     |nil=>rfl
     |cons x e ih=>
      obtain⟨j,v⟩:=x;simp only[qdS];split
      ·exact ih
      ·rename_i hb';have hne:t≠j:=fun he=>by rw[he]at hb;rw[hb]at hb';cases hb'
       simp only[qbV,jAm hne,ih]
    exact this e
   ·have:=quN c d t e;simp only[qbV,jAm htj];exact this
  ·by_cases htj:t=j
   ·left;simp[qbV,htj]
   ·have:=quN c d t e;simp only[qbV,jAm htj];exact this
theorem qZ9(o:IOper)(e:Env)(t:Nat):qbV (qkU o e) t=qbV e t\/qbV (qkU o e) t= .junk:=by
 unfold qkU;split
 ·exact quN _ _ _ _
 ·exact .inl rfl
theorem Fits.trim{w:World}{I:Imm}{m:Names}{e:Env}{h:Heap}{nx n:Nat}{a:Act}(F:Fits w I m e h nx n a)(o:IOper):Fits w I m (qkU o e) h nx n a:=
 ⟨fun t=>by
  rcases qZ9 o e t with h|h
  ·rw[h];exact F.tm t
  ·rw[h];simp[Rel],F.hp,F.nx,F.sz,F.df⟩
theorem qBW{IP:Prog}{call:qa2}(hcall:qdF P call){k n:Nat}{ops:Array Oper}{ios:List IOper}(hc:qja P hint n ops ops.toList=some ios){Q:Exit->Act->World->Prop} :
  ∀(suf:List IOper) (i:Nat) (e:Env) (h:Heap) (w:World) (I:Imm) (m:Names) (a:Act) (log log':List Step) (x:X) (e':Env) (h':Heap) (nx:Nat),ios.drop i=suf->Fits w I m e h nx n a ->
   qcL IP call suf e h nx log=some (x,e',h',log')->(∀e'' a' w',Ends w I m h k n x ⟨e',h',nx+16*suf.length,k⟩ e'' a' w'->Q e'' a' w') ->
   wpOps P ops Q (List.range' i suf.length) a w
 | [],i,e,h,w,I,m,a,log,log',x,e',h',nx,hi,F,hr,hQ=>by
  simp[qcL]at hr;obtain⟨rfl,rfl,rfl,_⟩:=hr;simp only[jA4,List.range'_zero,wpOps];exact hQ _ _ _ ⟨I,m,Fr.refl k,rfl,by simpa using F⟩
 |io::suf,i,e,h,w,I,m,a,log,log',x,e',h',nx,hi,F,hr,hQ=>by
  have hlen:=qcG hc;have hios:ios[i]? = some io:=by
   have:=congrArg (·[0]?) hi;simpa using this
  have hdrop:ios.drop (i+1)=suf:=by
   have:=congrArg (List.drop 1) hi;simpa using this
  have hlt:i<ops.size:=by
   have:=jAg.1 hios;obtain⟨hl,_⟩:=this;simpa[hlen]using hl
  have ho:ops[i]? = some ops[i]:=by simp[hlt]
  obtain⟨io',hio',hco⟩:=qhi hc i ops[i] (by simp[hlt]);rw[hios]at hio';cases hio';simp only[jA0,List.range'_succ,wpOps,ho];simp only[qcL]at hr;cases hs:qcU IP call nx io e h with
  |none=>simp[hs]at hr
  |some s=>
   have key:=qNE hcall F hco hs (next:=wpOps P ops Q (List.range' (i+1) suf.length)) (Q:=Q);have done:(Region.wanted ops[i] (yielded ops a.tmps)=true/\(ops[i]).wp P a w (wpOps P ops Q (List.range' (i+1) suf.length)) Q)\/(Region.wanted ops[i] (yielded ops a.tmps)=false/\wpOps P ops Q (List.range' (i+1) suf.length) (a.put (ops[i]).dst undef) w):=by
    refine key ?_ ?_
    ·intro a' w' I' m' hnp hA F';have hr':qcL IP call suf (qkU io (qbz e io.dst s)) (qaZ h s) (nx+16) (log++[s])=some (x,e',h',log'):=by
      rw[hs]at hr;cases s with
      |pan r v out=>exact absurd rfl (hnp r v out)
      |skip=>exact hr
      |did=>exact hr
     refine qBW (k:=k) hcall hc suf (i+1) _ _ w' I' m' a' _ _ _ _ _ _ hdrop (F'.trim io) hr' fun e'' a'' w'' E=>hQ _ _ _ ?_
     have E':=E.after (hA.fr k);have he:nx+16+16*suf.length=nx+16*(io::suf).length:=by simp;omega
     rw[he]at E';exact E'
    ·intro r v out u w' I' m' hsp hA hu;subst hsp;simp only[hs,jA7,jAd]at hr;obtain⟨rfl,rfl,rfl,_⟩:=hr;exact hQ _ _ _ ⟨I',m',hA.fr k,F.df,hA.heap,qGD F.tm hA.stays hA.imm hA.names,u,rfl,hu⟩
   rcases done with⟨h1,h2⟩|⟨h1,h2⟩
   ·rw[h1];simp only[jB2];exact .inl h2
   ·rw[h1];simp only[jAn,jBg];exact h2
end
end Go.Eng
namespace Go.Eng
set_option linter.unusedSectionVars false
variable [Globs] [Dfs]
def q0g:Opd->List Nat
 | .t n=>[n]
 |_=>[]
def looks(o:IOper):List Nat:=(qu4 o.op).flatMap q0g++(match o.guard with|none=>[]|some g=>[g.1])
def qxG(x y:IOper):Bool:=match x.dst with
 |some d=>!(looks y).contains d&&(match y.dst with|some d'=>decide (d≠d')|none=>true)
 |none=>true
def qG9(x y:IOper):Bool:=qxG x y&&qxG y x
section
variable {IP:Prog} {call:qa2}
theorem qoD{e e':Env}{o:Opd}(h:∀t,t∈q0g o->qbV e t=qbV e' t):qbo e o=qbo e' o:=by
 cases o with
 |t n=>exact h n (by simp[q0g])
 |_=>rfl
theorem q24{ev ev':Opd->AV}{ps:List (Nat×Nat×Opd)}(h:∀x∈ps.map (fun p=>p.2.2),ev x=ev' x):(ps.map fun p=>(p.1,p.2.1,ev p.2.2))=ps.map fun p=>(p.1,p.2.1,ev' p.2.2):=
 jBr fun p hp=>by rw[h p.2.2 (jCd.2 ⟨p,hp,rfl⟩)]
theorem qBU{nx:Nat}{ev ev':Opd->AV}{h:Heap}{io:IOp}(hev:∀x∈qu4 io,ev x=ev' x):opS IP call nx ev h io=opS IP call nx ev' h io:=by
 cases io
 case build z ps=>
  have:=q24 (ps:=ps) (ev:=ev) (ev':=ev') (by simpa[qu4]using hev);simp only[opS,this]
 case bslice sz z n ps=>
  have:(ps.map fun p=>ev p.2)=ps.map fun p=>ev' p.2:=jBr fun p hp=>hev p.2 (by simp only[qu4];exact jCd.2 ⟨p,hp,rfl⟩)
  simp only[opS,this]
 case mkf f cap=>
  have:cap.map ev=cap.map ev':=jBr fun x hx=>hev x (by simpa[qu4]using hx)
  simp only[opS,this]
 case mx xs=>
  have:xs.map ev=xs.map ev':=jBr fun x hx=>hev x (by simpa[qu4]using hx)
  simp only[opS,this]
 case mn xs=>
  have:xs.map ev=xs.map ev':=jBr fun x hx=>hev x (by simpa[qu4]using hx)
  simp only[opS,this]
 case call f xs=>
  have:xs.map ev=xs.map ev':=jBr fun x hx=>hev x (by simpa[qu4]using hx)
  simp only[opS,this]
 case callv f xs=>
  have:xs.map ev=xs.map ev':=jBr fun x hx=>hev x (by simp[qu4,hx])
  have h2:=hev f (by simp[qu4]);simp only[opS,this,h2]
 case slc sz x lo hi=>
  have h1:=hev x (by simp[qu4]);have h2:qbR ev lo=qbR ev' lo:=by cases lo with
   |none=>rfl
   |some y=>simp[qbR,hev y (by simp[qu4,qNf])]
  have h3:qbR ev hi=qbR ev' hi:=by cases hi with
   |none=>rfl
   |some y=>simp[qbR,hev y (by simp[qu4,qNf])]
  simp only[opS,h1,h2,h3]
 case slcs x lo hi=>
  have h1:=hev x (by simp[qu4]);have h2:qbR ev lo=qbR ev' lo:=by cases lo with
   |none=>rfl
   |some y=>simp[qbR,hev y (by simp[qu4,qNf])]
  have h3:qbR ev hi=qbR ev' hi:=by cases hi with
   |none=>rfl
   |some y=>simp[qbR,hev y (by simp[qu4,qNf])]
  simp only[opS,h1,h2,h3]
 all_goals
  simp only[qu4,jAc,jAp,jBp,forall_eq_or_imp,forall_eq]at hev;simp only[opS,hev]
theorem quG{h h':Heap}:∀{r:List Nat},(∀q,q∈r->qak h q=qak h' q)->sub h r=sub h' r
 | [],_=>rfl
 |i::r,hq=>by
  simp only[sub,hq i (by simp),quG (r:=r) fun q hm=>hq q (by simp[hm])]
theorem qms{q:Nat}{b:Blk}:∀{out:Heap},qak out q=some b-> ∃p∈out,p.2=b
 | [],hl=>by simp[qak]at hl
 |(j,c)::out,hl=>by
  simp only[qak]at hl;by_cases e:q=j
  ·rw[jAr e]at hl;exact⟨(j,c),by simp,jC2 hl⟩
  ·rw[jAm e]at hl;obtain⟨p,hp,he⟩:=qms hl;exact⟨p,by simp[hp],he⟩
theorem qix{h h':Heap}:∀(n:Nat) (todo seen r:List Nat),qb8 n h todo seen=some r->(∀q,q∈r->qak h q=qak h' q)->(∀i b,i∈r->qak h i=some b-> ∀j,j∈qNT b->j∈r\/(qak h j=none/\qak h' j=none)) ->
  (∀i,i∈todo->i∈r\/(qak h i=none/\qak h' i=none))->(∀i,i∈r-> ∃b,qak h i=some b)->qb8 n h' todo seen=some r
 |n,[],seen,r,hr,_,_,_,_=>by cases n<;>simpa[qb8]using hr
 |0,_::_,seen,r,hr,_,_,_,_=>by simp[qb8]at hr
 |n+1,i::todo,seen,r,hr,hq,hcl,ht,hex=>by
  simp only[qb8]at hr ⊢;by_cases hc:seen.contains i=true
  ·rw[jAr hc]at hr ⊢;exact qix n _ _ _ hr hq hcl (fun j hj=>ht j (by simp[hj])) hex
  ·rw[jAm hc]at hr ⊢;rcases ht i (by simp)with hi|⟨h1,h2⟩
   ·obtain⟨b,hb⟩:=hex i hi;rw[<-hq i hi,hb];rw[hb]at hr;refine qix n _ _ _ hr hq hcl (fun j hj=>?_) hex;rcases jAo.1 hj with hj|hj
    ·exact ht j (by simp[hj])
    ·exact hcl i b hi hb j hj
   ·rw[h1]at hr;rw[h2];exact qix n _ _ _ hr hq hcl (fun j hj=>ht j (by simp[hj])) hex
theorem qF0{h:Heap}{p:Nat×Blk}:∀{r:List Nat},p∈sub h r-> ∃i,i∈r/\qak h i=some p.2
 | [],hp=>by simp[sub]at hp
 |i::r,hp=>by
  simp only[sub]at hp;split at hp
  ·rename_i b hb;rcases jAc.1 hp with rfl|hp
   ·exact⟨i,by simp,hb⟩
   ·obtain⟨j,hj,h1⟩:=qF0 hp;exact⟨j,by simp[hj],h1⟩
  ·obtain⟨j,hj,h1⟩:=qF0 hp;exact⟨j,by simp[hj],h1⟩
theorem q3C{h:Heap}{ids r:List Nat}{w:Bool}{v:AV}{out:Heap}{q:Nat}(hn:qak h q=none)(hq:q∈ids\/ ∃i b,i∈r/\qak h i=some b/\q∈qNT b):q∈lost h ids (.did r w v out):=by
 simp only[lost,List.mem_filter,jAo,jBu,hn,Option.isNone_none,and_true];rcases hq with hq|⟨i,b,hi,hb,hq⟩
 ·exact .inl hq
 ·obtain⟨p,hp,he⟩:=qms (show qak (sub h r) i=some b by rw[qcA,jAr hi,hb]);exact .inr ⟨p,hp,by rw[he];exact hq⟩
theorem qo3(h:Heap)(ids:List Nat)(s:Step):reached (mark (lost h ids s) s)=reached s++lost h ids s:=by
 cases s with
 |did r w v out=>cases hl:lost h ids (.did r w v out)<;>simp[mark,reached]
 |skip=>simp[lost,mark,reached]
 |pan r v out=>simp[lost,mark,reached]
theorem qw7(g:List Nat)(s:Step):wrote (mark g s)=wrote s:=by
 cases g<;>cases s<;>rfl
theorem qmA{h h':Heap}(hq:∀q,qak h q=qak h' q):∀(n:Nat) (todo seen:List Nat),qb8 n h todo seen=qb8 n h' todo seen
 |n,[],seen=>by cases n<;>simp[qb8]
 |0,_::_,seen=>by simp[qb8]
 |n+1,i::todo,seen=>by
  simp only[qb8,hq i];split
  ·exact qmA hq n _ _
  ·split
   ·exact qmA hq n _ _
   ·exact qmA hq n _ _
theorem quW{e e':Env}{g:Option (Nat×Bool)}(h:∀x,g=some x->qbV e x.1=qbV e' x.1):ql0 e g=ql0 e' g:=by
 cases g with
 |none=>rfl
 |some x=>simp only[ql0,h x rfl]
theorem qjz{o:IOper}{x:Opd}(hx:x∈qu4 o.op){t:Nat}(ht:t∈q0g x):t∈looks o:=by
 simp only[looks,jAo,jBu];exact .inl ⟨x,hx,ht⟩
theorem qjy{o:IOper}{x:Nat×Bool}(hx:o.guard=some x):x.1∈looks o:=by
 simp[looks,hx]
theorem qTH{e e':Env}{o:IOper}(he:∀t,t∈looks o->qbV e t=qbV e' t):(qu4 o.op).map (qbo e)=(qu4 o.op).map (qbo e'):=
 jBr fun x hx=>qoD fun t ht=>he t (qjz hx ht)
theorem qCq{e e':Env}{o:IOper}(he:∀t,t∈looks o->qbV e t=qbV e' t):zg2 e o.op=zg2 e' o.op:=by
 have h:=qTH he;unfold zg2;split<;>first|rfl|rw[h]
theorem qlX{nx:Nat}{o:IOper}{e e':Env}{h h':Heap}{s:Step}(he:∀t,t∈looks o->qbV e t=qbV e' t)(hs:qcU IP call nx o e h=some s)(ht:tidy nx (qdw e o) h s=true)(hq:∀q,q∈reached s++lost h (qdw e o) s->qak h q=qak h' q) :
  qcU IP call nx o e' h'=some s/\tidy nx (qdw e' o) h' s=true/\lost h' (qdw e' o) s=lost h (qdw e o) s:=by
 have hw:ql0 e o.guard=ql0 e' o.guard:=quW fun x hx=>he x.1 (qjy hx)
 have hids:=qCq he;have hids':qdw e o=qdw e' o:=hids;rw[<-hids'];simp only[qcU]at hs ⊢;rw[<-hw,<-hids];split at hs
 ·cases hs
 ·cases hs;exact⟨rfl,rfl,rfl⟩
 ·split at hs
  ·cases hs
  ·rename_i r hr;have hshape:∃w v out,s= .did r w v out:=by
    split at hs
    ·cases hs
    ·cases hs;exact⟨_,_,_,rfl⟩
    ·cases hs;simp[tidy]at ht
   obtain⟨w,v,out,rfl⟩:=hshape;simp only[tidy,jA1,whole,jAb,qnF,jAv,jB8,jCg]at ht;obtain⟨⟨hin,hcl⟩,hins⟩:=ht;simp only[reached]at hq;have hq1:∀q,q∈r->qak h q=qak h' q:=fun q hm=>hq q (by simp[hm])
   have hq2:∀q,qak h q=none->(q∈qdw e o\/ ∃i b,i∈r/\qak h i=some b/\q∈qNT b)->qak h' q=none:=fun q hn hm=>by
    rw[<-hq q (jAo.2 (.inr (q3C hn hm)))];exact hn
   have hex:∀i,i∈r-> ∃b,qak h i=some b:=fun i hi=>by
    have:=hcl i hi;split at this
    ·rename_i b hb;exact⟨b,hb⟩
    ·cases this
   have hcl':∀i b,i∈r->qak h i=some b-> ∀j,j∈qNT b->j∈r\/(qak h j=none/\qak h' j=none):=fun i b hi hb j hj=>by
    have:=hcl i hi;rw[hb]at this;simp only[jAb,qnF,jAv,jB8,jCg]at this;rcases this j hj with h1|h1
    ·exact .inl h1
    ·exact .inr ⟨h1,hq2 j h1 (.inr ⟨i,b,hi,hb,hj⟩)⟩
   have hin':∀i,i∈qdw e o->i∈r\/(qak h i=none/\qak h' i=none):=fun i hi=>by
    rcases hin i hi with h1|h1
    ·exact .inl h1
    ·exact .inr ⟨h1,hq2 i h1 (.inl hi)⟩
   have hr':=qix qg9 _ [] r hr hq1 hcl' hin' hex;have hsub:=quG (r:=r) hq1;have hsame:∀j,(j∈r\/(qak h j=none/\qak h' j=none))->qak h j=qak h' j:=fun j hj=>by
    rcases hj with h1|⟨h1,h2⟩
    ·exact hq1 j h1
    ·rw[h1,h2]
   rw[hr'];simp only[];rw[<-hsub,qBU (ev:=qbo e') (ev':=qbo e) fun x hx=>(qoD fun t ht=>he t (qjz hx ht)).symm];refine⟨hs,?_,?_⟩
   ·simp only[tidy,jA1,whole,jAb,qnF,jAv,jB8,jCg];refine⟨⟨fun i hi=>(hin' i hi).imp id fun h1=>h1.2,fun i hi=>?_⟩,hins⟩;obtain⟨b,hb⟩:=hex i hi;rw[<-hq1 i hi,hb];simp only[jAb,qnF,jAv,jB8,jCg];exact fun j hj=>(hcl' i b hi hb j hj).imp id fun h1=>h1.2
   ·simp only[lost];rw[<-hsub];refine List.filter_congr fun j hj=>?_
    rw[hsame j];rcases jAo.1 hj with hj|hj
    ·exact hin' j hj
    ·obtain⟨p,hp,hj⟩:=jBu.1 hj;obtain⟨i,hi,hb⟩:=qF0 hp;exact hcl' i p.2 hi hb j hj
def RunsTo(IP:Prog)(call:qa2)(ios:List IOper)(log:List Step)(base:Nat):List Nat->Env->Heap->Env->Heap->Prop
 | [],e,h,e',h'=>(∀t,qbV e t=qbV e' t)/\ ∀q,qak h q=qak h' q
 |i::rem,e,h,e',h'=>∃io s,ios[i]? = some io/\(∃s0,log[i]? = some s0/\reached s++lost h (qdw e io) s=reached s0/\wrote s=wrote s0)/\qcU IP call (base+16*i) io e h=some s/\tidy (base+16*i) (qdw e io) h s=true /\
   RunsTo IP call ios log base rem (qbz e io.dst s) (qaZ h s) e' h'
theorem qAH{e e':Env}(he:∀t,qbV e t=qbV e' t)(d:Option Nat)(s:Step):∀t,qbV (qbz e d s) t=qbV (qbz e' d s) t:=by
 intro t;cases s<;>cases d<;>simp[qbz,qF6,qbV,he]
theorem qoN{h h':Heap}(hh:∀q,qak h q=qak h' q)(s:Step):∀q,qak (qaZ h s) q=qak (qaZ h' s) q:=by
 intro q;cases s with
 |skip=>exact hh q
 |did r w v out=>cases w<;>simp[qaZ,qbk,qbQ,hh q]
 |pan r v out=>simp[qaZ,qbk,qbQ,hh q]
theorem RunsTo.congr{ios:List IOper}{log:List Step}{base:Nat}:∀{rem:List Nat} {e1 e2:Env} {h1 h2:Heap} {e':Env} {h':Heap},(∀t,qbV e1 t=qbV e2 t)->(∀q,qak h1 q=qak h2 q)->RunsTo IP call ios log base rem e1 h1 e' h'->RunsTo IP call ios log base rem e2 h2 e' h'
 | [],e1,e2,h1,h2,e',h',he,hh,hr=>⟨fun t=>(he t).symm.trans (hr.1 t),fun q=>(hh q).symm.trans (hr.2 q)⟩
 |i::rem,e1,e2,h1,h2,e',h',he,hh,hr=>by
  obtain⟨io,s,h3,h4,hs,ht,hr⟩:=hr;obtain⟨hs',ht',hl'⟩:=qlX (fun t _=>he t) hs ht (fun q _=>hh q);rw[<-hl']at h4;exact⟨io,s,h3,h4,hs',ht',hr.congr (qAH he _ _) (qoN hh _)⟩
theorem qoY{q:Nat}{b:Blk}:∀{out:Heap},qak out q=some b-> ∃p∈out,p.1=q
 | [],hl=>by simp[qak]at hl
 |(j,c)::out,hl=>by
  simp only[qak]at hl;by_cases e:q=j
  ·exact⟨(j,c),by simp,e.symm⟩
  ·rw[jAm e]at hl;obtain⟨p,hp,he⟩:=qoY hl;exact⟨p,by simp[hp],he⟩
theorem qzm{nx:Nat}{ids:List Nat}{h:Heap}{s:Step}(ht:tidy nx ids h s=true){q:Nat}(hq:q∈reached s):∃b,qak h q=some b:=by
 cases s with
 |skip=>simp[reached]at hq
 |pan r v out=>simp[tidy]at ht
 |did r w v out=>
  simp only[tidy,jA1,whole,jAb]at ht;have:=ht.1.2 q hq;split at this
  ·rename_i b hb;exact⟨b,hb⟩
  ·cases this
theorem qfI{nx:Nat}{ids:List Nat}{h:Heap}{s:Step}(ht:tidy nx ids h s=true){q:Nat}(hq:q∉reached s\/wrote s=false/\ ∃b,qak h q=some b)(hnew:¬(nx<=q/\q<nx+16)):qak (qaZ h s) q=qak h q:=by
 cases s with
 |skip=>rfl
 |pan r v out=>simp[tidy]at ht
 |did r w v out=>
  simp only[tidy,jA1,inside,jAb]at ht;have hout:q∉r->qak out q=none:=by
   intro hqr;cases hl:qak out q with
   |none=>rfl
   |some b=>
    obtain⟨p,hp,he⟩:=qoY hl;have:=ht.2 p hp;rw[he]at this;simp only[jAv,jB8,jA1,jA6]at this;rcases this with h1|h1
    ·exact absurd h1 hqr
    ·exact absurd h1 hnew
  simp only[reached,wrote]at hq;cases w with
  |true=>
   have hqr:q∉r:=by simpa using hq
   simp[qaZ,qbk,qbQ,hqr,hout hqr]
  |false=>
   simp only[qaZ,jAn,jBg,qbk,qhq];by_cases hqr:q∈r
   ·simp[hqr]
   ·simp[hqr,hout hqr]
structure Good (ios:List IOper) (log:List Step) (eF:Env) (base p i:Nat):Prop where
 apart:∀x y,ios[p]? = some x->ios[i]? = some y->qG9 x y=true
 calm:∀s s',log[p]? = some s->log[i]? = some s'->clash s s'=false\/qyy ios eF p i=true
 newp:∀s,log[i]? = some s-> ∀q,q∈reached s-> ¬(base+16*p<=q/\q<base+16*p+16)
 newi:∀s,log[p]? = some s-> ∀q,q∈reached s-> ¬(base+16*i<=q/\q<base+16*i+16)
 ne:p≠i
theorem qlf{x y:IOper}(h:qG9 x y=true):(∀d,x.dst=some d->d∉looks y/\y.dst≠some d)/\(∀d,y.dst=some d->d∉looks x):=by
 simp only[qG9,jA1,qxG]at h;obtain⟨h1,h2⟩:=h;refine⟨fun d hd=>?_,fun d hd=>?_⟩
 ·simp only[hd,jA1]at h1;refine⟨by simpa using h1.1,fun he=>?_⟩;simp[he]at h1
 ·simp only[hd,jA1]at h2;simpa using h2.1
theorem qc8{e:Env}{d:Option Nat}{s:Step}{t:Nat}(h:d≠some t):qbV (qbz e d s) t=qbV e t:=by
 cases s<;>cases d<;>simp_all[qbz,qF6,qbV]
 all_goals intro he;exact absurd he.symm h
theorem zda{a b:List Nat}(h:q7p a b=true){q:Nat}(ha:q∈a)(hb:q∈b):False:=by
 simp only[q7p,jAb]at h;have:=h q ha;simp[hb]at this
theorem qrs{h h':Heap}{s:Step}{q:Nat}(hq:qak h q=qak h' q):qak (qaZ h s) q=qak (qaZ h' s) q:=by
 cases s with
 |skip=>exact hq
 |did r w v out=>cases w<;>simp[qaZ,qbk,qbQ,hq]
 |pan r v out=>simp[qaZ,qbk,qbQ,hq]
theorem qDZ{e e':Env}{d:Option Nat}{s:Step}{t:Nat}(hq:qbV e t=qbV e' t):qbV (qbz e d s) t=qbV (qbz e' d s) t:=by
 cases s<;>cases d<;>simp[qbz,qF6,qbV,hq]
theorem RunsTo.keepE{ios:List IOper}{log:List Step}{base n:Nat}:∀{L:List Nat} {e:Env} {h:Heap} {e':Env} {h':Heap},RunsTo IP call ios log base L e h e' h'->(∀j∈L,∀o,ios[j]? = some o->o.dst≠some n)->qbV e n=qbV e' n
 | [],e,h,e',h',hr,_=>hr.1 n
 |i::L,e,h,e',h',hr,hn=>by
  obtain⟨x,s,hx,_,_,_,hr⟩:=hr;have:=hr.keepE fun j hj=>hn j (by simp[hj])
  rw[<-this,qc8 (hn i (by simp) x hx)]
theorem RunsTo.swap{ios:List IOper}{log:List Step}{base p i:Nat}{rem:List Nat}{e:Env}{h:Heap}{e':Env}{h':Heap}(g:Good ios log e' base p i)(hkp:∀ks m k v,ios[p]? = some ⟨none,.mupd ks m k v,none⟩->q3n ios p k=true->qbo e k=qbo e' k)
  (hki:∀ks m k v,ios[i]? = some ⟨none,.mupd ks m k v,none⟩->q3n ios i k=true->qbo e k=qbo e' k) (hr:RunsTo IP call ios log base (p::i::rem) e h e' h') :
  RunsTo IP call ios log base (i::p::rem) e h e' h':=by
 have hr0:=hr;obtain⟨x,s,hx,⟨t,hls,hf1,hf2⟩,hs,hts,y,s',hy,⟨t',hls',hf1',hf2'⟩,hs',hts',hr⟩:=hr;obtain⟨ha1,ha2⟩:=qlf (g.apart x y hx hy);have hcc:clash t t'=((wrote s||wrote s')&& !q7p (reached s++lost h (qdw e x) s) (reached s'++lost (qaZ h s) (qdw (qbz e x.dst s) y) s')):=by simp only[clash,hf1,hf2,hf1',hf2']
 by_cases hclash:clash t t'=true
 ·
  have hmp:qyy ios e' p i=true:=by
   rcases g.calm t t' hls hls' with h|h
   ·rw[hclash]at h;cases h
   ·exact h
  unfold qyy at hmp;cases hmp
 have hcl:clash t t'=false:=by simpa using hclash
 rw[hcc]at hcl;simp only[Bool.and_eq_false_iff,jB6]at hcl;have hdj:∀q,q∈reached s++lost h (qdw e x) s->q∈reached s'++lost (qaZ h s) (qdw (qbz e x.dst s) y) s'->wrote s=false/\wrote s'=false:=fun q h1 h2=>by
  rcases hcl with h3|h3
  ·exact h3
  ·exact(zda (by simpa using h3) h1 h2).elim
 have hnp:∀q,q∈reached s'++lost (qaZ h s) (qdw (qbz e x.dst s) y) s'-> ¬(base+16*p<=q/\q<base+16*p+16):=fun q hq=>g.newp t' hls' q (hf1'▸hq)
 have hni:∀q,q∈reached s++lost h (qdw e x) s-> ¬(base+16*i<=q/\q<base+16*i+16):=fun q hq=>g.newi t hls q (hf1▸hq)
 have hne:=g.ne;have inA:∀{q:Nat},q∈reached s->q∈reached s++lost h (qdw e x) s:=fun hq=>jAo.2 (.inl hq)
 have inB:∀{q:Nat},q∈reached s'->q∈reached s'++lost (qaZ h s) (qdw (qbz e x.dst s) y) s':=fun hq=>jAo.2 (.inl hq)
 have hkeep:∀q,q∈reached s'++lost (qaZ h s) (qdw (qbz e x.dst s) y) s'->qak (qaZ h s) q=qak h q:=by
  intro q hq;refine qfI hts ?_ (hnp q hq);by_cases hqs:q∈reached s
  ·exact .inr ⟨(hdj q (inA hqs) hq).1,qzm hts hqs⟩
  ·exact .inl hqs
 obtain⟨hs1,ht1,hl1⟩:=qlX (e':=e) (h':=h) (fun t ht=>qc8 fun hd=>(ha1 t hd).1 ht) hs' hts' hkeep;have hkeep2:∀q,q∈reached s++lost h (qdw e x) s->qak (qaZ h s') q=qak h q:=by
  intro q hq;refine qfI ht1 ?_ (hni q hq);by_cases hqs:q∈reached s'
  ·exact .inr ⟨(hdj q hq (inB hqs)).2,qzm ht1 hqs⟩
  ·exact .inl hqs
 obtain⟨hs2,ht2,hl2⟩:=qlX (e':=qbz e y.dst s') (h':=qaZ h s') (fun t ht=>(qc8 fun hd=>ha2 t hd ht).symm) hs hts fun q hq=>(hkeep2 q hq).symm
 refine⟨y,s',hy,⟨t',hls',by rw[hl1];exact hf1',hf2'⟩,hs1,ht1,x,s,hx,⟨t,hls,by rw[hl2];exact hf1,hf2⟩,hs2,ht2,hr.congr (fun t=>?_) fun q=>?_⟩
 ·by_cases h1:x.dst=some t
  ·have h2:=(ha1 t h1).2;rw[qc8 h2];cases s<;>simp[qbz,h1,qF6,qbV]
   ·simp[tidy]at hts
  ·rw[qc8 h1 (e:=qbz e y.dst s')];exact qDZ (qc8 h1)
 ·by_cases h1:q∈reached s/\wrote s=true\/(base+16*p<=q/\q<base+16*p+16)
  ·
   have h2:q∉reached s':=by
    rcases h1 with⟨h1,hw⟩|h1
    ·intro hq;have:=(hdj q (inA h1) (inB hq)).1;rw[hw]at this;cases this
    ·exact fun hq=>hnp q (inB hq) h1
   have h3:¬(base+16*i<=q/\q<base+16*i+16):=by
    rcases h1 with⟨h1,_⟩|h1
    ·exact hni q (inA h1)
    ·omega
   rw[qfI hts' (.inl h2) h3];exact qrs (qfI ht1 (.inl h2) h3).symm
  ·have h4:¬(base+16*p<=q/\q<base+16*p+16):=fun h=>h1 (.inr h)
   have h5:q∉reached s\/wrote s=false:=by
    by_cases hq:q∈reached s
    ·refine .inr ?_;cases hw:wrote s with
     |false=>rfl
     |true=>exact absurd (.inl ⟨hq,hw⟩) h1
    ·exact .inl hq
   have hsame:∀{g:Heap} {ids:List Nat} , tidy (base+16*p) ids g s=true->qak (qaZ g s) q=qak g q:=by
    intro g ids htg;refine qfI htg ?_ h4;rcases h5 with h5|h5
    ·exact .inl h5
    ·by_cases hq:q∈reached s
     ·exact .inr ⟨h5,qzm htg hq⟩
     ·exact .inl hq
   rw[hsame ht2];exact qrs (hsame hts)
theorem qBD{ios:List IOper}{i n:Nat}(h:q3n ios i (.t n)=true){j:Nat}(hj:i<=j){o:IOper}(ho:ios[j]? = some o):o.dst≠some n:=by
 simp only[q3n,jAb,jB9,jBl]at h;refine h o (jAl (i:=j-i) ?_);rw[jBs,show i+(j-i)=j by omega];exact ho
theorem RunsTo.front{ios:List IOper}{log:List Step}{base i:Nat}{post:List Nat}{e':Env}{h':Heap}:∀{pre:List Nat} {e:Env} {h:Heap},(∀p,p∈pre->Good ios log e' base p i)->(pre++i::post).Pairwise (· < ·)->RunsTo IP call ios log base (pre++i::post) e h e' h' ->
  RunsTo IP call ios log base (i::(pre++post)) e h e' h'
 | [],e,h,_,_,hr=>hr
 |p::pre,e,h,hg,hw,hr=>by
  have hw0:=hw;rw[jAk,jBi]at hw;obtain⟨x,s,hx,hls,hs,hts,hr⟩:=hr;have hfr:=hr.front (pre:=pre) (fun q hq=>hg q (by simp[hq])) hw.2;have hfull:RunsTo IP call ios log base (p::i::(pre++post)) e h e' h':=⟨x,s,hx,hls,hs,hts,hfr⟩;have hpi:p<i:=hw.1 i (by simp);refine RunsTo.swap (hg p (by simp)) (fun ks m k v h1 h2=>?_) (fun ks m k v h1 h2=>?_) hfull
  ·cases k with
   |t n=>
    simp only[qbo];refine hfull.keepE fun j hj o ho=>qBD h2 ?_ ho
    rcases jAc.1 hj with rfl|hj
    ·exact jAj _
    ·exact Nat.le_of_lt (hw.1 j (by
      rcases jAc.1 hj with rfl|hj
      ·simp
      ·rcases jAo.1 hj with hj|hj<;>simp[hj]))
   |_=>rfl
  ·cases k with
   |t n=>
    simp only[qbo];have hpre:∀j∈p::pre,∀o,ios[j]? = some o->o.dst≠some n:=fun j hj o ho hd=>by
     have:=(qlf ((hg j hj).apart o _ ho h1)).1 n hd;exact this.1 (by simp[looks,qu4,q0g])
    refine hfull.keepE fun j hj o ho=>?_
    rcases jAc.1 hj with rfl|hj
    ·exact hpre j (by simp) o ho
    ·rcases jAc.1 hj with rfl|hj
     ·rw[h1]at ho;cases ho;simp
     ·rcases jAo.1 hj with hj|hj
      ·exact hpre j (by simp[hj]) o ho
      ·refine qBD h2 (Nat.le_of_lt ?_) ho;have:=(List.pairwise_append.1 hw0).2.1;rw[jBi]at this;exact this.1 j hj
   |_=>rfl
end
end Go.Eng
namespace Go.Eng
set_option linter.unusedSectionVars false
variable [Globs] [Dfs]
def nub:List Nat->List Nat
 | []=>[]
 |x::xs=>if (nub xs).contains x then nub xs else x::nub xs
def qHb:List Oper->List (List Nat)->List (List Nat)
 | [],acc=>acc
 |o::os,acc=>qHb os (acc++[nub ((o.after.toList.filter fun e=>Region.binds .any e).flatMap fun e=>e.on::acc.getD e.on [])])
def qAM(ops:List Oper)(befs:List (List Nat)):Bool:=
 (List.range ops.length).all fun j=>match ops[j]? with
  |none=>true
  |some o=>
   ((befs.getD j []).all fun x=>o.after.toList.any fun e=>Region.binds .any e&&(decide (x=e.on)||(befs.getD e.on []).contains x)) &&
   o.after.toList.all fun e=>!Region.binds .any e||decide (e.on<j)
def qgy(ios:List IOper)(befs:List (List Nat)):Bool:=
 (List.range ios.length).all fun j=>(List.range j).all fun i=>(befs.getD j []).contains i || match ios[i]?,ios[j]? with
  |some x,some y=>qG9 x y
  |_,_=>true
section
variable {P:Program} {hint:Nat->Nat} {w:World} {I:Imm} {m:Names} {h:Heap} {nx:Nat} {e:Env} {a:Act} {IP:Prog} {call:qa2}
theorem qcw{ops:List Oper}{befs:List (List Nat)}(hb:qAM ops befs=true){j:Nat}{o:Oper}(hj:ops[j]? = some o) :
  (∀x,x∈befs.getD j []-> ∃e,e∈o.after.toList/\Region.binds .any e=true/\(x=e.on\/x∈befs.getD e.on []))/\(∀e,e∈o.after.toList->Region.binds .any e=true->e.on<j):=by
 simp only[qAM,jAb,jBq]at hb;have hlt:j<ops.length:=(jAg.1 hj).1;have:=hb j hlt;rw[hj]at this;simp only[jA1,jAb,List.any_eq_true,jAv,jA6,jB8,jB9]at this;refine⟨fun x hx=>?_,fun e he hbi=>?_⟩
 ·obtain⟨e,he,h1,h2⟩:=this.1 x hx;exact⟨e,he,h1,h2⟩
 ·rcases this.2 e he with h1|h1
  ·rw[hbi]at h1;cases h1
  ·exact h1
theorem zdw{ios:List IOper}{log:List Step}{befs:List (List Nat)}{base p i:Nat}(hap:qgy ios befs=true){eF:Env}(hcalm:calm base befs ios eF log=true)(hlen:log.length=ios.length)(hpi:p<i)(hi:i<ios.length)(h1:p∉befs.getD i [])(h2:i∉befs.getD p []) :
  Good ios log eF base p i:=by
 simp only[qgy,jAb,jBq,jAv,jB8]at hap;simp only[Eng.calm,jAb,jBq,jAv,jB8,jA1,jB9,jA6]at hcalm;have hnew:∀(j k:Nat) s,log[j]? = some s->k∉befs.getD j []-> ∀q,q∈reached s-> ¬(base+16*k<=q/\q<base+16*k+16):=by
  intro j k s hj hk q hq hr;have hlt:j<log.length:=(jAg.1 hj).1;have hd:log.getD j .skip=s:=by simp[List.getD_eq_getElem?_getD,hj]
  have:=(hcalm j hlt).2 q (by rw[hd];exact hq);rcases this with h3|h3
  ·omega
  ·have:(q-base) / 16=k:=by omega
   rw[this]at h3;exact hk h3
 refine⟨fun x y hx hy=>?_,fun s s' hs hs'=>?_,fun s hs=>hnew i p s hs h1,fun s hs=>hnew p i s hs h2,by omega⟩
 ·rcases hap i hi p hpi with h3|h3
  ·exact absurd h3 h1
  ·rw[hx,hy]at h3;exact h3
 ·rcases(hcalm i (by omega)).1 p hpi with(h3|h3)|h3
  ·exact absurd h3 h1
  ·exact .inl (by simpa[List.getD_eq_getElem?_getD,hs,hs']using h3)
  ·exact .inr h3
theorem q3b{ios:List IOper}{log:List Step}{befs:List (List Nat)}{base p i:Nat}(hap:qgy ios befs=true){eF:Env}(hcalm:calm base befs ios eF log=true)(hpi:p<i)(hi:i<ios.length)(hil:i<log.length)(h1:p∉befs.getD i [])(h2:i∉befs.getD p []) :
  Good ios log eF base p i:=by
 simp only[qgy,jAb,jBq,jAv,jB8]at hap;simp only[Eng.calm,jAb,jBq,jAv,jB8,jA1,jB9,jA6]at hcalm;have hnew:∀(j k:Nat) s,log[j]? = some s->k∉befs.getD j []-> ∀q,q∈reached s-> ¬(base+16*k<=q/\q<base+16*k+16):=by
  intro j k s hj hk q hq hr;have hlt:j<log.length:=(jAg.1 hj).1;have hd:log.getD j .skip=s:=by simp[List.getD_eq_getElem?_getD,hj]
  have:=(hcalm j hlt).2 q (by rw[hd];exact hq);rcases this with h3|h3
  ·omega
  ·have:(q-base) / 16=k:=by omega
   rw[this]at h3;exact hk h3
 refine⟨fun x y hx hy=>?_,fun s s' hs hs'=>?_,fun s hs=>hnew i p s hs h1,fun s hs=>hnew p i s hs h2,by omega⟩
 ·rcases hap i hi p hpi with h3|h3
  ·exact absurd h3 h1
  ·rw[hx,hy]at h3;exact h3
 ·rcases(hcalm i hil).1 p hpi with(h3|h3)|h3
  ·exact absurd h3 h1
  ·exact .inl (by simpa[List.getD_eq_getElem?_getD,hs,hs']using h3)
  ·exact .inr h3
theorem qmE{ios:List IOper}{base:Nat}:∀(suf:List IOper) (i:Nat) (e:Env) (h:Heap) (log:List Step) (e':Env) (h':Heap) (log':List Step),ios.drop i=suf->log.length=i->qdI IP call base i suf e h log=some (none,e',h',log') ->
  (∃more,log'=log++more)/\log'.length=i+suf.length/\RunsTo IP call ios log' base (List.range' i suf.length) e h e' h'
 | [],i,e,h,log,e',h',log',_,hl,hr=>by
  simp[qdI]at hr;obtain⟨rfl,rfl,rfl⟩:=hr;exact⟨⟨[],by simp⟩,by simpa using hl,fun _=>rfl,fun _=>rfl⟩
 |io::suf,i,e,h,log,e',h',log',hd,hl,hr=>by
  have hios:ios[i]? = some io:=by
   have h0:=congrArg (·[0]?) hd;simpa using h0
  have hdrop:ios.drop (i+1)=suf:=by
   have h0:=congrArg (List.drop 1) hd;simpa using h0
  simp only[qdI]at hr;split at hr
  ·cases hr
  ·rename_i s hs;split at hr
   ·cases hr
   split at hr
   ·rename_i ht;obtain⟨⟨more,hm⟩,hlen,hrun⟩:=qmE suf (i+1) _ _ _ _ _ _ hdrop (by simp[hl]) hr;refine⟨⟨mark (lost h (qdw e io) s) s::more,by rw[hm];simp⟩,by rw[hlen];simp;omega,?_⟩;simp only[jA0,List.range'_succ];refine⟨io,s,hios,⟨mark (lost h (qdw e io) s) s,?_,(qo3 _ _ _).symm,(qw7 _ _).symm⟩,hs,ht,hrun⟩;rw[hm,jAf,jB1 (by omega)];simp[hl]
   ·cases hr
theorem qNg{s:Step}{v:AV}(h:zd4 s=some v):∃r out,s= .pan r v out:=by
 cases s with
 |pan r v' out=>cases h;exact⟨_,_,rfl⟩
 |_=>cases h
theorem qwO{ios:List IOper}{base:Nat}:∀(suf:List IOper) (i:Nat) (e:Env) (h:Heap) (log:List Step) (v:AV) (e':Env) (h':Heap) (log':List Step),ios.drop i=suf->log.length=i->qdI IP call base i suf e h log=some (some v,e',h',log') ->
  ∃io r out hj,log'.length<i+suf.length/\ios[log'.length]? = some io/\qcU IP call (base+16*log'.length) io e' hj=some (.pan r v out)/\h'=qaZ hj (.pan r v out)/\(i<=log'.length/\ ∃more,log'=log++more)/\RunsTo IP call ios log' base (List.range' i (log'.length-i)) e h e' hj
 | [],i,e,h,log,v,e',h',log',_,hl,hr=>by simp[qdI]at hr
 |io::suf,i,e,h,log,v,e',h',log',hd,hl,hr=>by
  have hios:ios[i]? = some io:=by
   have h0:=congrArg (·[0]?) hd;simpa using h0
  have hdrop:ios.drop (i+1)=suf:=by
   have h0:=congrArg (List.drop 1) hd;simpa using h0
  simp only[qdI]at hr;split at hr
  ·cases hr
  ·rename_i s hs;split at hr
   ·rename_i v' hp;cases hr;obtain⟨r,out,rfl⟩:=qNg hp;refine⟨io,r,out,h,by rw[hl];simp,by rw[hl];exact hios,by rw[hl];exact hs,rfl,⟨by omega,[],by simp⟩,?_⟩;rw[hl,Nat.sub_self];exact⟨fun _=>rfl,fun _=>rfl⟩
   split at hr
   ·rename_i ht;obtain⟨io2,r,out,hj,h1,h2,h3,h4,⟨h5,more,hm⟩,hrun⟩:=qwO suf (i+1) _ _ _ _ _ _ _ hdrop (by simp[hl]) hr;refine⟨io2,r,out,hj,by simp only[jA0];omega,h2,h3,h4,⟨by omega,mark (lost h (qdw e io) s) s::more,by rw[hm];simp⟩,?_⟩;have hx:log'.length-i=(log'.length-(i+1))+1:=by omega
    rw[hx,List.range'_succ];refine⟨io,s,hios,⟨mark (lost h (qdw e io) s) s,?_,(qo3 _ _ _).symm,(qw7 _ _).symm⟩,hs,ht,hrun⟩;rw[hm,jAf,jB1 (by omega)];simp[hl]
   ·cases hr
theorem qCC{nx:Nat}{ev:Opd->AV}{h:Heap}{op:IOp}(hst:qwX op=true){r:Res}{out:Heap}{b:Bool}(hs:opS IP call nx ev h op=some (r,out,b)):(∃v,r= .ret v)/\out=h/\b=false:=by
 cases op<;>simp only[qwX,jAn]at hst
 all_goals
  simp only[opS,val,qGV]at hs
  repeat' split at hs
  all_goals first
   |(cases hs;done)
   |(cases hs;exact⟨⟨_,rfl⟩,rfl,rfl⟩)
theorem qNF{nx:Nat}{o:IOper}{e:Env}{h:Heap}(hst:qwX o.op=true){s:Step}(hs:qcU IP call nx o e h=some s):∀q,qak (qaZ h s) q=qak h q:=by
 intro q;simp only[qcU]at hs;split at hs
 ·cases hs
 ·cases hs;rfl
 ·split at hs
  ·cases hs
  ·rename_i r hr;split at hs
   ·cases hs
   ·rename_i v out b hop;cases hs;obtain⟨_,rfl,rfl⟩:=qCC hst hop;simp only[qaZ,jAn,jBg,qbk,qhq,qcA];by_cases hq:q∈r<;>simp[hq]
   ·rename_i v out b hop;obtain⟨⟨v',hv⟩,_⟩:=qCC hst hop;cases hv
theorem qCD{ios:List IOper}{log:List Step}{base:Nat}{io:IOper}:∀{rem:List Nat} {e:Env} {h:Heap} {e':Env} {h':Heap},(∀j,j∈rem-> ∀x,ios[j]? = some x->qwX x.op=true/\ ∀d,x.dst=some d->d∉looks io)->RunsTo IP call ios log base rem e h e' h' ->
  (∀t,t∈looks io->qbV e' t=qbV e t)/\ ∀q,qak h' q=qak h q
 | [],e,h,e',h',_,hr=>⟨fun t _=>(hr.1 t).symm,fun q=>(hr.2 q).symm⟩
 |j::rem,e,h,e',h',hst,hr=>by
  obtain⟨x,s,hx,_,hs,_,hr⟩:=hr;obtain⟨h1,h2⟩:=qCD (rem:=rem) (fun j hj=>hst j (by simp[hj])) hr;obtain⟨h3,h4⟩:=hst j (by simp) x hx;refine⟨fun t ht=>(h1 t ht).trans ?_,fun q=>(h2 q).trans (qNF h3 hs q)⟩;exact qc8 fun hd=>h4 t hd ht
theorem qZ4{nx:Nat}{o:IOper}{e e':Env}{h h':Heap}(he:∀t,t∈looks o->qbV e t=qbV e' t)(hh:∀q,qak h q=qak h' q):qcU IP call nx o e h=qcU IP call nx o e' h':=by
 have hw:ql0 e o.guard=ql0 e' o.guard:=quW fun x hx=>he x.1 (qjy hx)
 have hids:=qCq he;simp only[qcU];rw[hw,hids,qmA hh];split
 ·rfl
 ·rfl
 ·split
  ·rfl
  ·rename_i r hr;rw[quG (fun q _=>hh q),qBU (ev:=qbo e) (ev':=qbo e') fun x hx=>qoD fun t ht=>he t (qjz hx ht)]
theorem mem_ready{md:Region.Mode}{ops:Array Oper}{listed:Array Bool}{i:Nat}:i∈Region.ready md ops listed ↔ i<ops.size/\listed.getD i true=false/\ ∃o,ops[i]? = some o/\ ∀e,e∈o.after.toList->Region.binds md e=true->listed.getD e.on false=true:=by
 simp only[Region.ready,List.mem_filter,jBq,jA1,jB9];constructor
 ·rintro⟨h1,h2,h3⟩;refine⟨h1,h2,ops[i],by simp[h1],fun e he hb=>?_⟩;simp only[h1,getElem?_pos,jBh,jC9,Array.all_eq_true',jAv,jB9]at h3;rcases h3 e (by simpa using he)with h4|h4
  ·rw[hb]at h4;cases h4
  ·exact h4
 ·rintro⟨h1,h2,o,ho,h3⟩;refine⟨h1,h2,?_⟩;rw[ho];simp only[jBh,jC9,Array.all_eq_true',jAv,jB9];intro e he;cases hb:Region.binds md e with
  |false=>exact .inl rfl
  |true=>exact .inr (h3 e (by simpa using he) hb)
theorem qjQ:∀{l:List Nat} {i:Nat},l.Pairwise (· < ·)->i∈l-> ∃pre post,l=pre++i::post/\(∀p,p∈pre->p<i)/\(pre++post).Pairwise (· < ·)/\ ∀j,j∈pre++post ↔ (j∈l/\j≠i)
 | [],i,_,h=>by simp at h
 |x::l,i,hs,h=>by
  rw[jBi]at hs;by_cases e:i=x
  ·subst e;refine⟨[],l,rfl,by simp,by simpa using hs.2,fun j=>?_⟩;simp only[jAx,jAc];constructor
   ·exact fun hj=>⟨.inr hj,fun he=>by subst he;exact Nat.lt_irrefl _ (hs.1 _ hj)⟩
   ·rintro⟨h1|h1,h2⟩
    ·exact absurd h1 h2
    ·exact h1
  ·have hi:i∈l:=by simpa[e]using h
   obtain⟨pre,post,rfl,hp,hs',hm⟩:=qjQ hs.2 hi;refine⟨x::pre,post,rfl,fun p hp'=>?_,?_,fun j=>?_⟩
   ·rcases jAc.1 hp' with rfl|hp'
    ·exact hs.1 i hi
    ·exact hp p hp'
   ·rw[jAk,jBi];exact⟨fun j hj=>hs.1 j ((hm j).1 hj).1,hs'⟩
   ·simp only[jAk,jAc,hm j];constructor
    ·rintro(rfl|⟨h1,h2⟩)
     ·exact⟨.inl rfl,fun he=>e he.symm⟩
     ·exact⟨.inr h1,h2⟩
    ·rintro⟨h1|h1,h2⟩
     ·exact .inl h1
     ·exact .inr ⟨h1,h2⟩
theorem qRs(hcall:qdF P call){n:Nat}{ops:Array Oper}{ios:List IOper}(hc:qja P hint n ops ops.toList=some ios){befs:List (List Nat)}(hb:qAM ops.toList befs=true)(hap:qgy ios befs=true)
  {log:List Step} {base:Nat} {e':Env} {h':Heap} (hcalm:calm base befs ios e' log=true) (hlen:log.length=ios.length) {Q:Exit->Act->World->Prop} :
  ∀(k:Nat) (rem:List Nat) (listed:Array Bool) (e:Env) (h:Heap) (w:World) (I:Imm) (m:Names) (a:Act),rem.length=k->rem.Pairwise (· < ·)->(∀i,i∈rem->i<ops.size)->listed.size=ops.size->(∀i,i<ops.size->(listed.getD i true=false ↔ i∈rem)) ->
   (∀j,j<ops.size->j∉rem-> ∀x,x∈befs.getD j []->x∉rem) ->
   RunsTo IP call ios log base rem e h e' h'->qle w I m e a->HeapAt w I m h->n<=a.tmps.size->a.defers=Dfs.ds ->
   (∀i,i∈rem-> ∀q,base+16*i<=q->q<base+16*i+16->m q=none)->(∀q,base+16*ops.size<=q->m q=none) ->
   (∀a' w' I' m',Aft w w' I I' m m' h h'->Fits w' I' m' e' h' (base+16*ops.size) n a'->Q .normal a' w')->wpAny P .any ops Q k listed a w:=by
 intro k
 induction k with
 |zero=>
  intro rem listed e h w I m a hk hs hr hls hl hcl hrun ht H hsz hdf hfree hfree' hQ;have:rem= []:=jAy.1 hk;subst this;refine⟨?_,?_⟩
  ·rw[List.eq_nil_iff_forall_not_mem];intro i hi;obtain⟨h1,h2,_⟩:=mem_ready.1 hi;simpa using(hl i h1).1 h2
  ·obtain⟨he,hh⟩:=hrun;have H':HeapAt w I m h':=H.congr fun q=>(hh q).symm
   exact hQ a w I m ((Aft.refl H).congr fun q=>(hh q).symm) ⟨fun t=>by rw[<-he t];exact ht t,H',hfree',hsz,hdf⟩
 |succ k ih=>
  intro rem listed e h w I m a hk hs hr hls hl hcl hrun ht H hsz hdf hfree hfree' hQ;have hget:∀{j o},ops[j]? = some o->ops.toList[j]? = some o:=fun h=>by rw[Array.getElem?_toList];exact h
  refine⟨fun hnil=>?_,fun i hi=>?_⟩
  ·
   cases rem with
   |nil=>simp at hk
   |cons i rem=>
    have hlt:=hr i (by simp);have hin:i∈Region.ready .any ops listed:=by
     refine mem_ready.2 ⟨hlt,(hl i hlt).2 (by simp),ops[i],by simp[hlt],fun ed hed hbi=>?_⟩;have hon:=(qcw hb (hget (j:=i) (o:=ops[i]) (by simp[hlt]))).2 ed hed hbi;have hnot:ed.on∉i::rem:=by
      rw[jBi]at hs;intro hm;rcases jAc.1 hm with h1|h1
      ·omega
      ·have:=hs.1 _ h1;omega
     have hlt2:ed.on<listed.size:=by omega
     have h3:listed.getD ed.on true≠false:=fun h=>hnot ((hl ed.on (by omega)).1 h)
     simp only[jAq,hlt2,getElem?_pos,jC9]at h3 ⊢;simpa using h3
    rw[hnil]at hin;cases hin
  ·obtain⟨hlt,hli,o,ho,hready⟩:=mem_ready.1 hi;have hmem:i∈rem:=(hl i hlt).1 hli;obtain⟨pre,post,rfl,hpre,hs',hm⟩:=qjQ hs hmem;have hspec:=qcw hb (hget ho);have hdone:∀x,x∈befs.getD i []->x∉pre++i::post:=by
    intro x hx;obtain⟨ed,hed,hbi,h1⟩:=hspec.1 x hx;have hon:=hspec.2 ed hed hbi;have hlo:=hready ed hed hbi;have hnot:ed.on∉pre++i::post:=fun hmm=>by
     have h2:=(hl ed.on (by omega)).2 hmm;have hlt2:ed.on<listed.size:=by omega
     simp only[jAq,hlt2,getElem?_pos,jC9]at h2 hlo;rw[h2]at hlo;cases hlo
    rcases h1 with rfl|h1
    ·exact hnot
    ·exact hcl ed.on (by omega) hnot x h1
   have hsmall:∀(j:Nat),j<ops.size-> ∀x,x∈befs.getD j []->x<j:=by
    intro j
    induction j using Nat.strongRecOn with
    |_ j ihj=>
     intro hj x hx;obtain⟨ed,hed,hbi,h1⟩:=(qcw hb (hget (j:=j) (o:=ops[j]) (by simp[hj]))).1 x hx;have hon:=(qcw hb (hget (j:=j) (o:=ops[j]) (by simp[hj]))).2 ed hed hbi;rcases h1 with rfl|h1
     ·exact hon
     ·have:=ihj ed.on hon (by omega) x h1;omega
   have hil:i<ios.length:=by rw[qcG hc];simpa using hlt
   have hgood:∀p,p∈pre->Good ios log e' base p i:=fun p hp=>
    zdw hap hcalm hlen (hpre p hp) hil (fun hx=>hdone p hx (by simp[hp])) fun hx=>by
     have:=hsmall p (by have:=hpre p hp;omega) i hx;have:=hpre p hp;omega
   obtain⟨io,s,hio,hlog,hstep,htidy,hrun'⟩:=hrun.front hgood hs;obtain⟨io',hio',hco⟩:=qhi hc i o (hget ho);rw[hio]at hio';cases hio';have hnp:∀r v out,s≠ .pan r v out:=fun r v out he=>by subst he;simp[tidy]at htidy
   have key:=qiG hcall ht H (fun q h1 h2=>hfree i hmem q h1 h2) hsz hco hstep (next:=wpAny P .any ops Q k (listed.setIfInBounds i true)) (Q:=Q) ?_ fun r v out u w' I' m' he=>absurd he (hnp r v out)
   ·simp only[wpOp,ho];rcases key with⟨h1,h2⟩|⟨h1,h2⟩
    ·rw[h1];simp only[jB2];exact .inl h2
    ·rw[h1];simp only[jAn,jBg];exact h2
   ·intro a' w' I' m' _ hA ht' hnew hsz' hdf';have hil2:i<listed.size:=by omega
    refine ih (pre++post) _ _ _ w' I' m' a' ?_ hs' (fun j hj=>hr j ((hm j).1 hj).1) (by simpa using hls) ?_ ?_ hrun' ht' hA.heap (by rw[hsz'];exact hsz) (by rw[hdf'];exact hdf) ?_ ?_ ?_
    ·simp at hk ⊢;omega
    ·intro j hj;have hj2:j<listed.size:=by omega
     rw[hm j,<-hl j hj];simp only[jAq,Array.getElem?_setIfInBounds];by_cases e1:i=j
     ·subst e1;simp[hil2]
     ·simp[e1,Ne.symm e1]
    ·intro j hj hnj x hx hxm;rw[hm]at hnj hxm;by_cases e1:j=i
     ·subst e1;exact hdone x hx hxm.1
     ·exact hcl j hj (fun hjm=>hnj ⟨hjm,e1⟩) x hx hxm.1
    ·intro j hj q h1 h2;obtain⟨hjm,hne⟩:=(hm j).1 hj;cases hq:m' q with
     |none=>rfl
     |some L=>
      have:=hnew q (hfree j hjm q h1 h2) (by rw[hq];simp);omega
    ·intro q h1;cases hq:m' q with
     |none=>rfl
     |some L=>
      have:=hnew q (hfree' q h1) (by rw[hq];simp);omega
    ·intro a'' w'' I'' m'' hA' F';exact hQ a'' w'' I'' m'' (hA.trans hA') F'
theorem zaG(hcall:qdF P call){n:Nat}{ops:Array Oper}{ios:List IOper}(hc:qja P hint n ops ops.toList=some ios){befs:List (List Nat)}(hb:qAM ops.toList befs=true)(hap:qgy ios befs=true)
  {log:List Step} {base:Nat} {e':Env} {hj:Heap} {io0:IOper} {r0:List Nat} {v0:AV} {out0:Heap} (hio:ios[log.length]? = some io0) (hcalm:calm base befs ios e' log=true) (hpb:znf befs ios log.length=true)
  (hst0:qcU IP call (base+16*log.length) io0 e' hj=some (.pan r0 v0 out0)) {Q:Exit->Act->World->Prop} {y:Nat} :
  ∀(k:Nat) (rem:List Nat) (listed:Array Bool) (e:Env) (h:Heap) (w:World) (I:Imm) (m:Names) (a:Act),rem.length=k->rem.Pairwise (· < ·)->(∀i,i∈rem->i<log.length)->listed.size=ops.size->(∀i,i<ops.size->(listed.getD i true=false ↔ (i∈rem\/log.length<=i))) ->
   (∀j,j<log.length->j∉rem-> ∀x,x∈befs.getD j []->x∉rem) ->
   RunsTo IP call ios log base rem e h e' hj->qle w I m e a->HeapAt w I m h->n<=a.tmps.size->a.defers=Dfs.ds ->
   (∀i,(i∈rem\/log.length<=i)-> ∀q,base+16*i<=q->q<base+16*i+16->m q=none) ->
   (∀a' w' I' m' u,Aft w w' I I' m m' h (qaZ hj (.pan r0 v0 out0))->Rel w' I' v0 m' u->a'.defers=Dfs.ds->Q (.panic [{ v:=u,recovered:=false }]) a' w')->wpAny P .any ops Q (k+1+y) listed a w:=by
 have hget:∀{j o},ops[j]? = some o->ops.toList[j]? = some o:=fun h=>by rw[Array.getElem?_toList];exact h
 have hjp:log.length<ops.size:=by
  have:=(jAg.1 hio).1;have hl:=qcG hc;rw[hl]at this;simpa using this
 have hsmall:∀(j:Nat),j<ops.size-> ∀x,x∈befs.getD j []->x<j:=by
  intro j
  induction j using Nat.strongRecOn with
  |_ j ihj=>
   intro hj x hx;obtain⟨ed,hed,hbi,h1⟩:=(qcw hb (hget (j:=j) (o:=ops[j]) (by simp[hj]))).1 x hx;have hon:=(qcw hb (hget (j:=j) (o:=ops[j]) (by simp[hj]))).2 ed hed hbi;rcases h1 with rfl|h1
   ·exact hon
   ·have:=ihj ed.on hon (by omega) x h1;omega
 simp only[znf,jA1,jAb,jBq,jAv,jB8]at hpb;obtain⟨hpb1,hpb2⟩:=hpb;have step:∀(k:Nat),(∀(rem:List Nat) (listed:Array Bool) (e:Env) (h:Heap) (w:World) (I:Imm) (m:Names) (a:Act),rem.length+1=k->rem.Pairwise (· < ·)->(∀i,i∈rem->i<log.length)->listed.size=ops.size->(∀i,i<ops.size->(listed.getD i true=false ↔ (i∈rem\/log.length<=i))) ->
   (∀j,j<log.length->j∉rem-> ∀x,x∈befs.getD j []->x∉rem) ->
   RunsTo IP call ios log base rem e h e' hj->qle w I m e a->HeapAt w I m h->n<=a.tmps.size->a.defers=Dfs.ds ->
   (∀i,(i∈rem\/log.length<=i)-> ∀q,base+16*i<=q->q<base+16*i+16->m q=none) ->
   (∀a' w' I' m' u,Aft w w' I I' m m' h (qaZ hj (.pan r0 v0 out0))->Rel w' I' v0 m' u->a'.defers=Dfs.ds->Q (.panic [{ v:=u,recovered:=false }]) a' w')->wpAny P .any ops Q (k+y) listed a w) ->
  ∀(rem:List Nat) (listed:Array Bool) (e:Env) (h:Heap) (w:World) (I:Imm) (m:Names) (a:Act),rem.length=k->rem.Pairwise (· < ·)->(∀i,i∈rem->i<log.length)->listed.size=ops.size->(∀i,i<ops.size->(listed.getD i true=false ↔ (i∈rem\/log.length<=i))) ->
   (∀j,j<log.length->j∉rem-> ∀x,x∈befs.getD j []->x∉rem) ->
   RunsTo IP call ios log base rem e h e' hj->qle w I m e a->HeapAt w I m h->n<=a.tmps.size->a.defers=Dfs.ds ->
   (∀i,(i∈rem\/log.length<=i)-> ∀q,base+16*i<=q->q<base+16*i+16->m q=none) ->
   (∀a' w' I' m' u,Aft w w' I I' m m' h (qaZ hj (.pan r0 v0 out0))->Rel w' I' v0 m' u->a'.defers=Dfs.ds->Q (.panic [{ v:=u,recovered:=false }]) a' w')->wpAny P .any ops Q (k+1+y) listed a w:=by
  intro k ih rem listed e h w I m a hk hs hr hls hl hcl hrun ht H hsz hdf hfree hQ;rw[show k+1+y=(k+y)+1 by omega];have hmono:∀{j},listed.getD j false=true->j<ops.size-> ¬(j∈rem\/log.length<=j):=by
   intro j h1 hj hm;have h2:=(hl j hj).2 hm;have hlt2:j<listed.size:=by omega
   simp only[jAq,hlt2,getElem?_pos,jC9]at h1 h2;rw[h2]at h1;cases h1
  refine⟨fun hnil=>?_,fun i hi=>?_⟩
  ·
   have key:∀i,i<ops.size->(i∈rem\/log.length<=i)->(∀j,j<i-> ¬(j∈rem\/log.length<=j))->False:=by
    intro i hlt hin hleast;have hin':i∈Region.ready .any ops listed:=by
     refine mem_ready.2 ⟨hlt,(hl i hlt).2 hin,ops[i],by simp[hlt],fun ed hed hbi=>?_⟩;have hon:=(qcw hb (hget (j:=i) (o:=ops[i]) (by simp[hlt]))).2 ed hed hbi;have h3:listed.getD ed.on true≠false:=fun h=>hleast ed.on hon ((hl ed.on (by omega)).1 h)
     have hlt2:ed.on<listed.size:=by omega
     simp only[jAq,hlt2,getElem?_pos,jC9]at h3 ⊢;simpa using h3
    rw[hnil]at hin';cases hin'
   exfalso;cases rem with
   |nil=>
    refine key log.length hjp (.inr (jAj _)) fun j hj hm=>?_
    rcases hm with hm|hm
    ·cases hm
    ·omega
   |cons i rem=>
    refine key i (by have:=hr i (by simp);omega) (.inl (by simp)) fun j hj hm=>?_
    rw[jBi]at hs;rcases hm with hm|hm
    ·rcases jAc.1 hm with rfl|hm
     ·omega
     ·have:=hs.1 j hm;omega
    ·have:=hr i (by simp);omega
  ·obtain⟨hlt,hli,o,ho,hready⟩:=mem_ready.1 hi;have hspec:=qcw hb (hget ho);have hdone:i<=log.length-> ∀x,x∈befs.getD i []->x∉rem:=by
    intro hile x hx;obtain⟨ed,hed,hbi,h1⟩:=hspec.1 x hx;have hon:=hspec.2 ed hed hbi;have hnot:=hmono (hready ed hed hbi) (by omega);rcases h1 with rfl|h1
    ·exact fun h=>hnot (.inl h)
    ·exact hcl ed.on (by omega) (fun h=>hnot (.inl h)) x h1
   rcases(hl i hlt).1 hli with hmem|hge
   ·
    obtain⟨pre,post,rfl,hpre,hs',hm⟩:=qjQ hs hmem;have hil:=hr i hmem;have hion:i<ios.length:=by rw[qcG hc];simpa using hlt
    have hgood:∀p,p∈pre->Good ios log e' base p i:=fun p hp=>
     q3b hap hcalm (hpre p hp) hion hil (fun hx=>hdone (Nat.le_of_lt hil) p hx (by simp[hp])) fun hx=>by
      have:=hsmall p (by have:=hpre p hp;omega) i hx;have:=hpre p hp;omega
    obtain⟨io,s,hio',hlog',hstep,htidy,hrun'⟩:=hrun.front hgood hs;obtain⟨io2,hio2,hco⟩:=qhi hc i o (hget ho);rw[hio']at hio2;cases hio2;have hnp:∀r v out,s≠ .pan r v out:=fun r v out he=>by subst he;simp[tidy]at htidy
    have key:=qiG hcall ht H (fun q h1 h2=>hfree i (.inl hmem) q h1 h2) hsz hco hstep (next:=wpAny P .any ops Q (k+y) (listed.setIfInBounds i true)) (Q:=Q) ?_ fun r v out u w' I' m' he=>absurd he (hnp r v out)
    ·simp only[wpOp,ho];rcases key with⟨h1,h2⟩|⟨h1,h2⟩
     ·rw[h1];simp only[jB2];exact .inl h2
     ·rw[h1];simp only[jAn,jBg];exact h2
    ·intro a' w' I' m' _ hA ht' hnew hsz' hdf';have hil2:i<listed.size:=by omega
     refine ih (pre++post) _ _ _ w' I' m' a' ?_ hs' (fun j hj=>hr j ((hm j).1 hj).1) (by simpa using hls) ?_ ?_ hrun' ht' hA.heap (by rw[hsz'];exact hsz) (by rw[hdf'];exact hdf) ?_ ?_
     ·simp at hk ⊢;omega
     ·intro j hj;have hj2:j<listed.size:=by omega
      by_cases e1:i=j
      ·subst e1;have hnm:¬(i∈pre++post\/log.length<=i):=by
        rintro(h|h)
        ·exact((hm i).1 h).2 rfl
        ·omega
       simp only[jAq,Array.getElem?_setIfInBounds,jB2,hil2,hnm,iff_false];simp
      ·have hx:=hl j hj;rw[hm j];simp only[jAq,Array.getElem?_setIfInBounds,jAm e1]at hx ⊢;rw[hx];constructor
       ·exact fun h=>h.imp (fun h=>⟨h,Ne.symm e1⟩) id
       ·exact fun h=>h.imp (fun h=>h.1) id
     ·intro j hj hnj x hx hxm;rw[hm]at hnj hxm;by_cases e1:j=i
      ·subst e1;exact hdone (Nat.le_of_lt hil) x hx hxm.1
      ·exact hcl j hj (fun hjm=>hnj ⟨hjm,e1⟩) x hx hxm.1
     ·intro j hj q h1 h2;have hjm:j∈pre++i::post\/log.length<=j:=hj.imp (fun h=>((hm j).1 h).1) id;have hne:j≠i:=by
       rcases hj with h|h
       ·exact((hm j).1 h).2
       ·omega
      cases hq:m' q with
      |none=>rfl
      |some L=>
       have:=hnew q (hfree j hjm q h1 h2) (by rw[hq];simp);omega
     ·intro a'' w'' I'' m'' u hA' hu hd;exact hQ a'' w'' I'' m'' u (hA.trans hA') hu hd
   ·by_cases hij:i=log.length
    ·
     subst hij;have hstill:∀j,j∈rem-> ∀x,ios[j]? = some x->qwX x.op=true/\ ∀d,x.dst=some d->d∉looks io0:=by
      intro j hj x hx;have hjl:=hr j hj;have hnb:j∉befs.getD log.length []:=fun h=>hdone (jAj _) j h hj
      refine⟨?_,fun d hd=>?_⟩
      ·rcases hpb2 j hjl with h|h
       ·exact absurd h hnb
       ·rw[hx]at h;exact h
      ·simp only[qgy,jAb,jBq,jAv,jB8]at hap;have hion:log.length<ios.length:=(jAg.1 hio).1;rcases hap log.length hion j hjl with h|h
       ·exact absurd h hnb
       ·rw[hx,hio]at h;exact((qlf h).1 d hd).1
     obtain⟨he,hh⟩:=qCD hstill hrun;have hst:qcU IP call (base+16*log.length) io0 e h=some (.pan r0 v0 out0):=by
      rw[<-hst0];exact qZ4 (fun t ht=>(he t ht).symm) fun q=>(hh q).symm
     obtain⟨io2,hio2,hco⟩:=qhi hc log.length o (hget ho);rw[hio]at hio2;cases hio2;have key:=qiG hcall ht H (fun q h1 h2=>hfree log.length (.inr (jAj _)) q h1 h2) hsz hco hst (next:=wpAny P .any ops Q (k+y) (listed.setIfInBounds log.length true)) (Q:=Q) ?_ ?_
     ·simp only[wpOp,ho];rcases key with⟨h1,h2⟩|⟨h1,h2⟩
      ·rw[h1];simp only[jB2];exact .inl h2
      ·rw[h1];simp only[jAn,jBg];exact h2
     ·intro a' w' I' m' hn;exact absurd rfl (hn r0 v0 out0)
     ·intro r v out u w' I' m' heq hA hu;cases heq;exact hQ a w' I' m' u (hA.congr (qoN hh _)) hu hdf
    ·
     exfalso;rcases hpb1 i (by rw[qcG hc];simpa using hlt)with h|h
     ·have:=Nat.le_of_ble_eq_true h;omega
     ·obtain⟨ed,hed,hbi,h1⟩:=hspec.1 _ h;have hon:=hspec.2 ed hed hbi;have hnot:=hmono (hready ed hed hbi) (by omega);have hlo:ed.on<log.length:=by
       apply Classical.byContradiction;intro hc';exact hnot (.inr (by omega))
      rcases h1 with h1|h1
      ·omega
      ·have:=hsmall ed.on (by omega) _ h1;omega
 intro k
 induction k with
 |zero=>exact step 0 fun rem _ _ _ _ _ _ _ hk=>absurd hk (by omega)
 |succ k ih=>
  refine step (k+1) fun rem listed e h w I m a hk=>?_
  exact ih rem listed e h w I m a (by omega)
end
end Go.Eng
namespace Go.Eng
set_option linter.unusedSectionVars false
variable [Globs] [Dfs]
section
variable {P:Program} {hint:Nat->Nat} {w:World} {I:Imm} {m:Names} {h:Heap} {nx:Nat} {e:Env} {a:Act}
def q7j(P:Program)(hint:Nat->Nat)(n:Nat)(ops:Array Oper):Bool->Option ICode
 |false=>(qja P hint n ops ops.toList).map fun xs=>.region xs none
 |true=>match qja P hint n ops ops.toList with
  |some xs=>if P.follows .mixedOrders&&qAM ops.toList (qHb ops.toList [])&&qgy xs (qHb ops.toList [])then some (.region xs (some (qHb ops.toList [])))else none
  |none=>none
def qo7:ICode:=.region [⟨none,qzk,none⟩] none
theorem qdg{IP:Prog}{call:qa2}{loop:qgp}(s:St):qbY IP call loop qo7 s=none:=rfl
def okI(p:Nat->Bool):ICode->Bool
 | .seq a b=>okI p a&&okI p b
 | .cond _ a b=>okI p a&&okI p b
 | .block id c=>okI (fun j=>j==id||p j) c
 | .loop _ c=>okI p c
 | .exit id=>decide (id<1000000)||p id
 |_=>true
def zde(j:Nat):Bool:=j%2==0
def qU1(l:Nat)(c:Code):Bool:=(findLabel c l).isNone
def qFR(l:Nat)(y:ICode):ICode:=.block (1000000+2*l) (.seq y (.exit (1000000+2*l+1)))
def q7F(l:Nat):ICode->Bool
 | .seq a b=>q7F l a||q7F l b
 | .cond _ a b=>q7F l a||q7F l b
 | .block _ c=>q7F l c
 | .loop _ c=>q7F l c
 | .exit id=>id==1000000+2*l
 |_=>false
def qBC(l:Nat):ICode->Nat
 | .seq a b=>if q7F l b then qBC l b+1 else if q7F l a then 1 else 0
 |_=>0
def zc5:Nat->ICode->Option (ICode×ICode)
 |0,y=>some (.skip,y)
 |k+1,.seq x y=>match zc5 k y with
  |some (f,r)=>some (.seq x f,r)
  |none=>none
 |_+1,_=>none
def qNP:Nat->Code->Code
 |0,c=>c
 |k+1,.seq _ b=>qNP k b
 |_+1,c=>c
def qtH:Nat->Code->Bool
 |0,_=>true
 |_+1,.seq (.label _) _=>false
 |k+1,.seq _ b=>qtH k b
 |_+1,_=>false
def qce(P:Program)(hint:Nat->Nat)(n:Nat):Code->Option (List Code)->List (List Nat)->Option (ICode×List (List Nat))
 | .skip,_,ks=>some (.skip,ks)
 | .label _,_,ks=>some (.skip,ks)
 | .region _ ops d,_,ks=>some ((q7j P hint n ops d).getD qo7,ks)
 | .seq a b,t,ks=>match t,a,ks with
  |some pre,.label l,k::ks=>match qce P hint n b (some (pre++[.label l])) ks with
   |some (y,ks)=>match zc5 (qBC l y) y with
    |some (f,r)=>if pre.all (qU1 l)&&(okI zde f&&qtH (qBC l y) b)then some (.seq (.block (1000000+2*l+1) (.loop k (qFR l f))) r,ks)else some (qo7,ks)
    |none=>some (qo7,ks)
   |none=>none
  |_,_,_=>match qce P hint n a none ks with
   |some (x,ks)=>match qce P hint n b (t.map (· ++ [a])) ks with
    |some (y,ks)=>some (.seq x y,ks)
    |none=>none
   |none=>none
 | .cond c a b,_,ks=>match qhS c with
  |some c=>match qce P hint n a none ks with
   |some (x,ks)=>match qce P hint n b none ks with
    |some (y,ks)=>some (.cond c x y,ks)
    |none=>none
   |none=>none
  |none=>none
 | .block id c,_,ks=>match qce P hint n c none ks with
  |some (x,ks)=>if id<1000000 then some (.block id x,ks)else some (qo7,ks)
  |none=>none
 | .loop c,_,k::ks=>match qce P hint n c none ks with
  |some (x,ks)=>some (.loop k x,ks)
  |none=>none
 | .exit id,_,ks=>if id<1000000 then some (.exit id,ks)else some (qo7,ks)
 | .goto l,_,ks=>some (.exit (1000000+2*l),ks)
 | .scope c,_,ks=>match qce P hint n c (some []) ks with
  |some (y,ks)=>if okI (fun _=>false) y then some (y,ks)else some (qo7,ks)
  |none=>none
 | .ret,_,ks=>some (.ret,ks)
 |_,_,ks=>some (qo7,ks)
def comp(P:Program)(hint:Nat->Nat)(n:Nat)(c:Code)(ks:List (List Nat)):Option (ICode×List (List Nat)):=qce P hint n c none ks
def q2B(P:Program)(c:Code)(Q:Exit->Act->World->Prop)(a:Act)(w:World):Prop:=
 ∀(b:Frame) (k:List Item) (cs:List Frame),∃e a' w',Q e a' w'/\Arrives P (lone (b.at a (.code c:: .inLoop c::k)) cs w) b k cs e a' w'
theorem q4t{c:Code}{Q:Exit->Act->World->Prop}(h:q2B P c Q a w):(Code.loop c).wp P Q a w:=by
 intro b k cs;obtain⟨e,a',w',hq,harr⟩:=h b k cs;exact⟨e,a',w',hq,.of_steps (.one step_loop) harr⟩
theorem qKG{c:Code}{Q Q':Exit->Act->World->Prop}(h:c.wp P Q' a w)(hn:∀a w,Q' .normal a w->q2B P c Q a w)(hq:∀e a w,e≠ .normal->Q' e a w->Q e a w):q2B P c Q a w:=by
 intro b k cs;obtain⟨e,a₁,w₁,hq',harr⟩:=h b (.inLoop c::k) cs;cases e with
 |normal=>
  obtain⟨e₂,a₂,w₂,hq₂,harr₂⟩:=hn _ _ hq' b k cs;exact⟨e₂,a₂,w₂,hq₂,.of_steps (Steps.trans harr (.one step_inLoop)) harr₂⟩
 |exit id=>exact⟨_,a₁,w₁,hq _ _ _ (by simp) hq',.pass (x:=.inLoop c) rfl (fun _ _=>.inl (by simp)) harr⟩
 |goto l=>exact⟨_,a₁,w₁,hq _ _ _ (by simp) hq',.pass (x:=.inLoop c) rfl (fun _ _=>.inl (by simp)) harr⟩
 |ret=>exact⟨_,a₁,w₁,hq _ _ _ (by simp) hq',.pass (x:=.inLoop c) rfl (fun _ _=>.inl (by simp)) harr⟩
 |panic ch=>exact⟨_,a₁,w₁,hq _ _ _ (by simp) hq',.pass (x:=.inLoop c) rfl (fun _ _=>.inl (by simp)) harr⟩
 |outgrown=>exact⟨_,a₁,w₁,hq _ _ _ (by simp) hq',.pass (x:=.inLoop c) rfl (fun _ _=>.inl (by simp)) harr⟩
def Tw(P:Program)(c0 c:Code)(Q:Exit->Act->World->Prop)(a:Act)(w:World):Prop:=
 ∀(b:Frame) (k:List Item) (cs:List Frame),∃e a' w',Q e a' w'/\Arrives P (lone (b.at a (.code c:: .inScope c0::k)) cs w) b (.inScope c0::k) cs e a' w'
theorem q4p{c0 c:Code}{Q:Exit->Act->World->Prop}(h:c.wp P Q a w):Tw P c0 c Q a w:=fun b k cs=>h b (.inScope c0::k) cs
theorem q0q{c0 x y:Code}{Q:Exit->Act->World->Prop}(h:x.wp P (Exit.then (Tw P c0 y Q) Q) a w):Tw P c0 (.seq x y) Q a w:=by
 intro b k cs;obtain⟨e,a₁,w₁,hq,harr⟩:=h b (.code y:: .inScope c0::k) cs;cases e with
 |normal=>
  obtain⟨e₂,a₂,w₂,hq₂,harr₂⟩:=hq b k cs;exact⟨e₂,a₂,w₂,hq₂,.of_steps (.head step_seq harr) harr₂⟩
 |exit id=>exact⟨_,a₁,w₁,hq,.of_steps (.one step_seq) (.pass (x:=.code y) rfl (fun _ _=>.inl (by simp)) harr)⟩
 |goto l=>exact⟨_,a₁,w₁,hq,.of_steps (.one step_seq) (.pass (x:=.code y) rfl (fun _ _=>.inl (by simp)) harr)⟩
 |ret=>exact⟨_,a₁,w₁,hq,.of_steps (.one step_seq) (.pass (x:=.code y) rfl (fun _ _=>.inl (by simp)) harr)⟩
 |panic ch=>exact⟨_,a₁,w₁,hq,.of_steps (.one step_seq) (.pass (x:=.code y) rfl (fun _ _=>.inl (by simp)) harr)⟩
 |outgrown=>exact⟨_,a₁,w₁,hq,.of_steps (.one step_seq) (.pass (x:=.code y) rfl (fun _ _=>.inl (by simp)) harr)⟩
theorem qGZ{c:Code}{Q:Exit->Act->World->Prop}(h:Tw P c c (Exit.noGoto Q) a w):(Code.scope c).wp P Q a w:=by
 intro b k cs;obtain⟨e,a₁,w₁,hq,harr⟩:=h b k cs;cases e with
 |normal=>exact⟨.normal,a₁,w₁,hq,.head step_scope (Steps.trans harr (.one step_inScope))⟩
 |exit id=>exact⟨.exit id,a₁,w₁,hq,fun k' hk=>.head step_scope (harr k' (by simp[exitTo,hk]))⟩
 |goto l=>exact hq.elim
 |ret=>exact⟨_,a₁,w₁,hq,.of_steps (.one step_scope) harr⟩
 |panic ch=>exact⟨_,a₁,w₁,hq,.of_steps (.one step_scope) harr⟩
 |outgrown=>exact⟨_,a₁,w₁,hq,.of_steps (.one step_scope) harr⟩
theorem qra{c0 c:Code}{l:Nat}(hf:findLabel c0 l=some (.seq .skip c)){Q Q':Exit->Act->World->Prop}(h:Tw P c0 c Q' a w)(hg:∀a w,Q' (.goto l) a w->Tw P c0 c Q a w)(hq:∀e a w,e≠ .goto l->Q' e a w->Q e a w):Tw P c0 c Q a w:=by
 intro b k cs;obtain⟨e,a₁,w₁,hq',harr⟩:=h b k cs;by_cases he:e= .goto l
 ·subst he;obtain⟨e₂,a₂,w₂,hq₂,harr₂⟩:=hg _ _ hq' b k cs;have h1:=harr _ (show gotoIn l (.inScope c0::k)=some (.code (.seq .skip c):: .inScope c0::k) by simp[gotoIn,hf]);exact⟨e₂,a₂,w₂,hq₂,.of_steps (Steps.trans h1 (.head step_seq (.one step_skip))) harr₂⟩
 ·exact⟨e,a₁,w₁,hq _ _ _ he hq',harr⟩
theorem qBj{l:Nat}{r:Code}:∀{pre:List Code},pre.all (qU1 l)=true->findLabel (pre.foldr Code.seq r) l=findLabel r l
 | [],_=>rfl
 |p::pre,h=>by
  simp only[jAw,jA1,qU1,jCg]at h;simp only[List.foldr_cons,findLabel,h.1];exact qBj h.2
theorem q26{l:Nat}{b:Code}{pre:List Code}(h:pre.all (qU1 l)=true):findLabel ((pre++[Code.label l]).foldr Code.seq b) l=some (.seq .skip b):=by
 rw[List.foldr_append,qBj h];simp[findLabel]
def okX(p:Nat->Bool):X->Prop
 | .exit id=>id<1000000\/p id=true
 |_=>True
def q2n(l:Nat):X->X
 | .exit id=>if id=1000000+2*l+1 then .normal else .exit id
 |x=>x
def ql3(P:Program)(loop:qgp):Prop:=∀keep ic s x s',loop keep ic s=some (x,s')->s'.k=s.k/\(∀hint n c keeps keeps',comp P hint n c keeps=some (ic,keeps') ->
 ∀(w:World) (I:Imm) (m:Names) (a:Act) (Q:Exit->Act->World->Prop),Fits w I m s.tm s.hp s.nx n a->(∀e a' w',Ends w I m s.hp s.k n x s' e a' w'->Q e a' w')->q2B P c Q a w) /\
 (∀p,okI p ic=true->okX p x) /\
 ∀hint n l pre c keeps keeps' y k f r,ic=qFR l f->qce P hint n c (some (pre++[.label l])) keeps=some (y,keeps')->zc5 k y=some (f,r)->qtH k c=true->pre.all (qU1 l)=true->okI zde f=true ->
 ∀(w:World) (I:Imm) (m:Names) (a:Act) (Q:Exit->Act->World->Prop),Fits w I m s.tm s.hp s.nx n a->(∀e a' w',Ends w I m s.hp s.k n (q2n l x) s' e a' w'->Exit.then (Tw P ((pre++[Code.label l]).foldr Code.seq c) (qNP k c) Q) Q e a' w')->Tw P ((pre++[Code.label l]).foldr Code.seq c) c Q a w
theorem qCH(r:Nat->Option Nat)(e:Env):∀(keep:List Nat) (t:Nat),qbV (zkr r (keepE e keep)) t=ren r (qbV e t)\/qbV (zkr r (keepE e keep)) t= .junk
 | [],t=>.inr rfl
 |k::ks,t=>by
  simp only[keepE,zkr,qbV];by_cases h:t=k
  ·subst h;simp
  ·simp only[jAm h];exact qCH r e ks t
theorem qNl{n:Nat}{h:Heap}{todo seen r:List Nat}(hr:qb8 n h todo seen=some r):∃q,r=seen++q:=by
 induction n generalizing todo seen with
 |zero=>
  cases todo with
  |nil=>simp[qb8]at hr;exact⟨[],by simp[hr]⟩
  |cons=>simp[qb8]at hr
 |succ n ih=>
  cases todo with
  |nil=>simp[qb8]at hr;exact⟨[],by simp[hr]⟩
  |cons i todo=>
   simp only[qb8]at hr;split at hr
   ·exact ih hr
   ·split at hr
    ·obtain⟨q,hq⟩:=ih hr;exact⟨i::q,by rw[hq];simp⟩
    ·exact ih hr
theorem qpb{k i:Nat}{q:List Nat}(h:i<k):(List.range k++q)[i]? = some i:=by
 rw[jAu (by simpa using h)];simp[h]
theorem qCo(H:HeapAt w I m h){k n:Nat}{todo r:List Nat}(hr:qb8 n h todo (List.range k)=some r) :
  HeapAt w I (fun j=>(r[j]?).bind m) (qjK (place r) (sub h r))/\Fr k w w I I m (fun j=>(r[j]?).bind m) h (qjK (place r) (sub h r))/\(∀i j L,place r i=some j->m i=some L->(r[j]?).bind m=some L):=by
 have hnd:r.Nodup:=qgh _ _ _ _ _ hr List.nodup_range;have hpl:∀i j L,place r i=some j->m i=some L->(r[j]?).bind m=some L:=by
  intro i j L hp hL;rw[qdf hp];exact hL
 have hsub:HeapAt w I m (sub h r):=H.sub' fun i b hi=>by
  rw[qcA]at hi;split at hi
  ·exact hi
  ·cases hi
 have hren:HeapAt w I (fun j=>(r[j]?).bind m) (qjK (place r) (sub h r)):=hsub.ren hpl fun i i' j h1 h2=>by
  have e1:=qdf h1;have e2:=qdf h2;rw[e1]at e2;cases e2;rfl
 refine⟨hren,⟨Stays.refl w I,fun _ _ h=>h,fun i L hi hL=>?_,fun _ _ _=>rfl,fun _ _ h=>.inl h,fun b ho=>.inl ?_⟩,hpl⟩
 ·obtain⟨q,rfl⟩:=qNl hr;rw[qpb hi];exact hL
 ·obtain⟨j,x,L,hj,hL,rfl⟩:=ho;obtain⟨i,x',hi,hij,_⟩:=qeb hj;have hL':(r[j]?).bind m=some L:=hL;rw[qdf hij]at hL';rw[qcA]at hi;split at hi
  ·exact⟨i,x',L,hi,hL',rfl⟩
  ·cases hi
theorem qdW{s s1:St}{n:Nat}{keep:List Nat}(F:Fits w I m s.tm s.hp s.nx n a)(hn:norm keep s=some s1):s1.k=s.k/\ ∃m1,Fits w I m1 s1.tm s1.hp s1.nx n a/\Fr s.k w w I I m m1 s.hp s1.hp:=by
 simp only[norm]at hn;split at hn
 ·cases hn
 ·rename_i r hr;cases hn;obtain⟨hH,hF,hpl⟩:=qCo F.hp hr;refine⟨rfl,_,⟨fun t=>?_,hH,fun i hi=>?_,F.sz,F.df⟩,hF⟩
  ·rcases qCH (place r) s.tm keep t with ht|ht
   ·simp only[ht];exact qgi hpl _ (F.tm t)
   ·simp only[ht];simp[Rel]
  ·have:r[i]? = none:=by simpa using hi
   simp[this]
theorem Fits.drew{n:Nat}(F:Fits w I m e h nx n a):Fits w.drew I m e h nx n a:=
 ⟨qGD F.tm ⟨jAj _,fun _ C _ h=>⟨C,h,rfl⟩,fun _ _ _=>rfl,⟨rfl,rfl,rfl⟩⟩ (fun _ _ h=>h) (fun _ _ h=>h),F.hp.drew,F.nx,F.sz,F.df⟩
theorem Aft.drew{w':World}{I':Imm}{m':Names}{h':Heap}(a:Aft w.drew w' I I' m m' h h'):Aft w w' I I' m m' h h':=
 ⟨⟨a.stays.size,a.stays.row,a.stays.imm,a.stays.out⟩,a.imm,a.names,a.heap,a.frame,a.newI,a.owns⟩
theorem qZD{IP:Prog}{call:qa2}(hcall:qdF P call){n:Nat}{ops:Array Oper}{id:Nat}{d:Bool}{iops:List IOper}{dr:Option (List (List Nat))}(hc:q7j P hint n ops d=some (.region iops dr)){s:St}{x:X}{s':St}
  (hr:qbv IP call iops dr s=some (x,s')) {a:Act} (F:Fits w I m s.tm s.hp s.nx n a) {Q:Exit->Act->World->Prop} (hQ:∀e a' w',Ends w I m s.hp s.k n x s' e a' w'->Q e a' w') :
  (Code.region id ops d).wp P Q a w:=by
 cases d with
 |true=>
  simp only[q7j]at hc;split at hc
  ·rename_i xs hxs;split at hc
   ·rename_i hok;cases hc;simp only[jA1]at hok;obtain⟨⟨hm,hb⟩,hap⟩:=hok;simp only[qbv]at hr;split at hr
    ·cases hr
    ·rename_i e' h' log hrun;split at hr
     ·rename_i hcalm;cases hr;have hl:=qcG hxs;have hl':iops.length=ops.size:=by simpa using hl
      obtain⟨_,hlen,hto⟩:=qmE (ios:=iops) iops 0 _ _ [] _ _ _ rfl rfl hrun;rw[hl',<-List.range_eq_range']at hto;have F':=F.drew;refine wp_region_any hm ?_;refine qRs hcall hxs hb hap hcalm (by simpa using hlen) ops.size (List.range ops.size) _ _ _ _ I m a (by simp) List.pairwise_lt_range (fun i hi=>by simpa using hi) (by simp) (fun i hi=>by simp[hi]) (fun j hj hn=>absurd (by simpa using hj) hn) hto F'.tm F'.hp F'.sz F'.df
       (fun i _ q h1 _=>F.nx q (by omega)) (fun q h1=>F.nx q (by omega)) ?_
      intro a' w' I' m' hA Fin;refine hQ _ _ _ ⟨I',m',hA.drew.fr _,rfl,?_⟩;rw[hl'];exact Fin
     ·cases hr
    ·rename_i v e' h' log hrun;split at hr
     ·rename_i hcalm;cases hr;rw[jA1]at hcalm;have hl:=qcG hxs;have hl':iops.length=ops.size:=by simpa using hl
      obtain⟨io,r,out,hj,hjl,hio,hst,hh,_,hto⟩:=qwO (ios:=iops) iops 0 _ _ [] _ _ _ _ rfl rfl hrun;have F':=F.drew;refine wp_region_any hm ?_;subst hh;rw[Nat.sub_zero,<-List.range_eq_range']at hto;have hjs:log.length<ops.size:=by simpa[hl']using hjl
      obtain⟨y,hy⟩:∃y,ops.size=log.length+1+y:=⟨ops.size-log.length-1,by omega⟩;have key:=zaG (Q:=Q) hcall hxs hb hap hio hcalm.1 hcalm.2 hst (y:=y) log.length (List.range log.length) (Array.replicate ops.size false) _ _ _ I m a (by simp) List.pairwise_lt_range (fun i hi=>by simpa using hi) (by simp) (fun i hi=>by simp[hi];omega) (fun j hj hn=>absurd (by simpa using hj) hn) hto F'.tm F'.hp F'.sz F'.df
       (fun i _ q h1 _=>F.nx q (by omega)) ?_
      ·rw[<-hy]at key;exact key
      ·intro a' w' I' m' u hA hu hd;exact hQ _ _ _ ⟨I',m',hA.drew.fr _,hd,hA.heap,fun t=>by simp[qbV,Rel],u,rfl,hu⟩
     ·cases hr
   ·cases hc
  ·cases hc
 |false=>
  simp only[q7j,jA3]at hc;obtain⟨xs,hxs,he⟩:=hc;cases he;simp only[qbv]at hr;split at hr
  ·cases hr
  ·rename_i x1 e' h' log' hrun;cases hr;refine wp_region ?_;have hl:=qcG hxs;have:=qBW (k:=s.k) hcall hxs iops 0 _ _ w I m a [] log' _ e' h' s.nx rfl F hrun hQ;rw[hl]at this;rw[List.range_eq_range'];simpa using this
theorem qGd{IP:Prog}{call:qa2}{iops:List IOper}{dr:Option (List (List Nat))}{s:St}{x:X}{s':St}(hr:qbv IP call iops dr s=some (x,s')):s'.k=s.k:=by
 simp only[qbv]at hr;split at hr
 ·split at hr
  ·cases hr
  ·cases hr;rfl
 ·split at hr
  ·cases hr
  ·split at hr
   ·cases hr;rfl
   ·cases hr
  ·split at hr
   ·cases hr;rfl
   ·cases hr
theorem qHt{IP:Prog}{call:qa2}{loop:qgp}(hloop:∀keep ic s x s',loop keep ic s=some (x,s')->s'.k=s.k):∀(ic:ICode) (s:St) (x:X) (s':St),qbY IP call loop ic s=some (x,s')->s'.k=s.k:=by
 intro ic
 induction ic with
 |skip=>intro s x s' h;simp[qbY]at h;rw[h.2]
 |region ops d=>intro s x s' h;exact qGd h
 |seq a b iha ihb=>
  intro s x s' h;simp only[qbY]at h;split at h
  ·rename_i s1 h1;exact(ihb _ _ _ h).trans (iha _ _ _ h1)
  ·exact iha _ _ _ h
 |cond c a b iha ihb=>
  intro s x s' h;simp only[qbY]at h;split at h
  ·exact iha _ _ _ h
  ·exact ihb _ _ _ h
  ·cases h
 |block id c ih=>
  intro s x s' h;simp only[qbY]at h;split at h
  ·rename_i j s1 h1;split at h<;>cases h<;>exact ih _ _ _ h1
  ·exact ih _ _ _ h
 |loop keep c ih=>intro s x s' h;exact hloop _ _ _ _ _ h
 |exit id=>intro s x s' h;simp[qbY]at h;rw[h.2]
 |ret=>intro s x s' h;simp[qbY]at h;rw[h.2]
theorem Ends.out{k n:Nat}{h:Heap}{x:X}{s:St}{e:Exit}{a:Act}{w':World}(E:Ends w I m h k n x s e a w')(hx:x≠ .normal):e≠ .normal:=by
 obtain⟨I',m',f,hm⟩:=E;cases x with
 |normal=>exact absurd rfl hx
 |exit id=>obtain⟨rfl,_⟩:=hm;exact qxM id
 |ret=>obtain⟨rfl,_⟩:=hm;simp
 |pan v=>obtain⟨_,_,_,u,rfl,_⟩:=hm;simp
theorem qKo{IP:Prog}{call:qa2}:∀{ops:List IOper} {e:Env} {h:Heap} {nx:Nat} {log:List Step} {x:X} {r},qcL IP call ops e h nx log=some (x,r)-> ∀id,x≠ .exit id
 | [],e,h,nx,log,x,r,hr=>by simp only[qcL,jA7,jAd]at hr;intro id;rw[<-hr.1];simp
 |o::ops,e,h,nx,log,x,r,hr=>by
  simp only[qcL]at hr;split at hr
  ·cases hr
  ·cases hr;intro id;simp
  ·exact qKo hr
theorem qGe{IP:Prog}{call:qa2}{iops:List IOper}{dr:Option (List (List Nat))}{s:St}{x:X}{s':St}(hr:qbv IP call iops dr s=some (x,s')):∀id,x≠ .exit id:=by
 simp only[qbv]at hr;split at hr
 ·split at hr
  ·cases hr
  ·rename_i h1;cases hr;exact qKo h1
 ·split at hr
  ·cases hr
  ·split at hr
   ·cases hr;intro id;simp
   ·cases hr
  ·split at hr
   ·cases hr;intro id;simp
   ·cases hr
theorem zj2{p:Nat->Bool}{x:X}(h:∀id,x≠ .exit id):okX p x:=by
 cases x with
 |exit id=>exact absurd rfl (h id)
 |_=>trivial
theorem qHs{IP:Prog}{call:qa2}{loop:qgp}(hloop:∀keep ic s x s',loop keep ic s=some (x,s')-> ∀p,okI p ic=true->okX p x):∀(ic:ICode) (p:Nat->Bool),okI p ic=true-> ∀(s:St) (x:X) (s':St),qbY IP call loop ic s=some (x,s')->okX p x:=by
 intro ic
 induction ic with
 |skip=>intro p _ s x s' h;simp[qbY]at h;rw[<-h.1];trivial
 |region ops d=>intro p _ s x s' h;exact zj2 (qGe h)
 |seq a b iha ihb=>
  intro p hp s x s' h;simp only[okI,jA1]at hp;simp only[qbY]at h;split at h
  ·exact ihb p hp.2 _ _ _ h
  ·exact iha p hp.1 _ _ _ h
 |cond c a b iha ihb=>
  intro p hp s x s' h;simp only[okI,jA1]at hp;simp only[qbY]at h;split at h
  ·exact iha p hp.1 _ _ _ h
  ·exact ihb p hp.2 _ _ _ h
  ·cases h
 |block id c ih=>
  intro p hp s x s' h;simp only[okI]at hp;simp only[qbY]at h;split at h
  ·rename_i j s1 h1;have:=ih _ hp _ _ _ h1;split at h
   ·cases h;trivial
   ·rename_i hj;cases h;rcases this with h2|h2
    ·exact .inl h2
    ·simp only[jAv,jB7]at h2;rcases h2 with h2|h2
     ·exact absurd h2 hj
     ·exact .inr h2
  ·rename_i hne;have:=ih _ hp _ _ _ h;cases x with
   |exit j=>exact absurd h (hne j s')
   |_=>trivial
 |loop keep c ih=>intro p hp s x s' h;exact hloop _ _ _ _ _ h p hp
 |exit id=>
  intro p hp s x s' h;simp only[okI,jAv,jA6]at hp;simp[qbY]at h;rw[<-h.1];exact hp
 |ret=>intro p _ s x s' h;simp[qbY]at h;rw[<-h.1];trivial
def Wt(P:Program)(t:Option (List Code))(c:Code)(Q:Exit->Act->World->Prop)(a:Act)(w:World):Prop:=match t with
 |none=>c.wp P Q a w
 |some pre=>Tw P (pre.foldr Code.seq c) c Q a w
theorem qve{t:Option (List Code)}{c:Code}{Q:Exit->Act->World->Prop}(h:c.wp P Q a w):Wt P t c Q a w:=by
 cases t with
 |none=>exact h
 |some pre=>exact q4p h
theorem q2L(k:Nat):∀c:Code,SizeOf.sizeOf (qNP k c)<=SizeOf.sizeOf c:=by
 induction k with
 |zero=>intro c;exact jAj _
 |succ k ih=>
  intro c;cases c with
  |seq a b=>
   have:=ih b;simp only[qNP,Code.seq.sizeOf_spec];omega
  |_=>exact jAj _
theorem qCa{k:Nat}{c:Code}(h:qtH (k+1) c=true):∃a b,c= .seq a b/\(∀l,a≠ .label l)/\qtH k b=true:=by
 cases c with
 |seq a b=>
  cases a with
  |label l=>cases h
  |_=>exact⟨_,_,rfl,(by intro l h;cases h),h⟩
 |_=>cases h
theorem qHh{n:Nat}{a b:Code}{pre:List Code}{ks ks':List (List Nat)}{y:ICode}(ha:∀l,a≠ .label l)(h:qce P hint n (.seq a b) (some pre) ks=some (y,ks')):∃x ks1 y1,qce P hint n a none ks=some (x,ks1)/\qce P hint n b (some (pre++[a])) ks1=some (y1,ks')/\y= .seq x y1:=by
 have key:(match qce P hint n a none ks with
   |some (x,ks)=>match qce P hint n b (Option.map (· ++ [a]) (some pre)) ks with
    |some (y,ks)=>some (ICode.seq x y,ks)
    |none=>none
   |none=>none)=some (y,ks'):=by
  cases a with
  |label l=>exact absurd rfl (ha l)
  |_=>simpa only[qce]using h
 split at key
 ·rename_i x ks1 h1;split at key
  ·rename_i y1 ks2 h2;cases key;exact⟨x,ks1,y1,h1,h2,rfl⟩
  ·cases key
 ·cases key
theorem qHi{n:Nat}:∀(k:Nat) (c:Code) (pre:List Code) (ks:List (List Nat)) (y:ICode) (ks':List (List Nat)) {f r:ICode},qce P hint n c (some pre) ks=some (y,ks')->zc5 k y=some (f,r)->qtH k c=true-> ∃preR ksR,qce P hint n (qNP k c) (some preR) ksR=some (r,ks')/\preR.foldr Code.seq (qNP k c)=pre.foldr Code.seq c
 |0,c,pre,ks,y,ks',f,r,h,hc,_=>by
  cases hc;exact⟨pre,ks,h,rfl⟩
 |k+1,c,pre,ks,y,ks',f,r,h,hc,hp=>by
  obtain⟨a,b,rfl,ha,hp'⟩:=qCa hp;obtain⟨x,ks1,y1,h1,h2,rfl⟩:=qHh ha h;simp only[zc5]at hc;split at hc
  ·rename_i f1 r1 h3;cases hc;obtain⟨preR,ksR,h4,h5⟩:=qHi k b _ _ y1 _ h2 h3 hp';refine⟨preR,ksR,h4,?_⟩;show preR.foldr Code.seq (qNP k b)=_;rw[h5,List.foldr_append];rfl
  ·cases hc
theorem qli{IP:Prog}{call:qa2}{loop:qgp}(hcall:qdF P call)(hloop:ql3 P loop){n:Nat}:∀(c:Code) (t:Option (List Code)) (keeps keeps':List (List Nat)) (ic:ICode),qce P hint n c t keeps=some (ic,keeps') ->
  ∀(s:St) (x:X) (s':St),qbY IP call loop ic s=some (x,s')-> ∀(w:World) (I:Imm) (m:Names) (a:Act) (Q:Exit->Act->World->Prop),Fits w I m s.tm s.hp s.nx n a ->
   (∀e a' w',Ends w I m s.hp s.k n x s' e a' w'->Q e a' w')->Wt P t c Q a w:=by
 have hk:=qHt (IP:=IP) (call:=call) (fun keep ic s x s' h=>(hloop keep ic s x s' h).1);have hids:=qHs (IP:=IP) (call:=call) (fun keep ic s x s' h=>(hloop keep ic s x s' h).2.2.1);intro c
 induction hsz:SizeOf.sizeOf c using Nat.strongRecOn generalizing c with
 |_ sz IH=>
 subst hsz;cases c with
 |skip=>
  intro t keeps keeps' ic hc s x s' hx w I m a Q F hQ;simp[qce]at hc;obtain⟨rfl,rfl⟩:=hc;simp[qbY]at hx;obtain⟨rfl,rfl⟩:=hx;exact qve (wp_skip (hQ _ _ _ ⟨I,m,Fr.refl _,rfl,F⟩))
 |label l=>
  intro t keeps keeps' ic hc s x s' hx w I m a Q F hQ;simp[qce]at hc;obtain⟨rfl,rfl⟩:=hc;simp[qbY]at hx;obtain⟨rfl,rfl⟩:=hx;exact qve (wp_label (hQ _ _ _ ⟨I,m,Fr.refl _,rfl,F⟩))
 |goto l=>
  intro t keeps keeps' ic hc s x s' hx w I m a Q F hQ;simp[qce]at hc;obtain⟨rfl,rfl⟩:=hc;simp[qbY]at hx;obtain⟨rfl,rfl⟩:=hx;exact qve (wp_goto (hQ _ _ _ ⟨I,m,Fr.refl _,(qA3 l).symm,F⟩))
 |exit id=>
  intro t keeps keeps' ic hc s x s' hx w I m a Q F hQ;simp only[qce]at hc;split at hc
  ·rename_i hid;cases hc;simp[qbY]at hx;obtain⟨rfl,rfl⟩:=hx;exact qve (wp_exit (hQ _ _ _ ⟨I,m,Fr.refl _,(qEm hid).symm,F⟩))
  ·cases hc;rw[qdg]at hx;cases hx
 |ret=>
  intro t keeps keeps' ic hc s x s' hx w I m a Q F hQ;simp[qce]at hc;obtain⟨rfl,rfl⟩:=hc;simp[qbY]at hx;obtain⟨rfl,rfl⟩:=hx;exact qve (wp_ret (hQ _ _ _ ⟨I,m,Fr.refl _,rfl,F⟩))
 |region id ops d=>
  intro t keeps keeps' ic hc s x s' hx w I m a Q F hQ;refine qve ?_;simp only[qce,jA7,jAd]at hc;obtain⟨he,rfl⟩:=hc;have hc:q7j P hint n ops d=some ic:=by
   cases hq:q7j P hint n ops d with
   |none=>rw[hq]at he;simp only[Option.getD_none]at he;subst he;rw[qdg]at hx;cases hx
   |some c=>rw[hq]at he;simp only[jC9]at he;rw[he]
  cases ic with
  |region iops dr=>exact qZD hcall hc hx F hQ
  |_=>
   cases d
   ·simp[q7j]at hc
   ·simp only[q7j]at hc;split at hc
    ·split at hc<;>cases hc
    ·cases hc
 |seq c1 c2=>
  have ih1:=IH (SizeOf.sizeOf c1) (by simp;try omega) c1 rfl;have ih2:=IH (SizeOf.sizeOf c2) (by simp;try omega) c2 rfl;have ihk:=fun k=>IH (SizeOf.sizeOf (qNP k c2)) (by have:=q2L k c2;simp;try omega) (qNP k c2) rfl
  intro t keeps keeps' ic hc s x s' hx w I m a Q F hQ;have plain:(match qce P hint n c1 none keeps with
   |some (x,ks)=>match qce P hint n c2 (t.map (· ++ [c1])) ks with
    |some (y,ks)=>some (ICode.seq x y,ks)
    |none=>none
   |none=>none)=some (ic,keeps')->Wt P t (.seq c1 c2) Q a w:=by
   intro hc;split at hc
   ·rename_i x1 ks1 h1;split at hc
    ·rename_i x2 ks2 h2;cases hc;simp only[qbY]at hx;have both:c1.wp P (Exit.then (Wt P (t.map (· ++ [c1])) c2 Q) Q) a w:=by
      split at hx
      ·rename_i s1 hx1;have hk1:=hk _ _ _ _ hx1;refine ih1 none _ _ _ h1 _ _ _ hx1 w I m a _ F ?_;rintro e a' w' ⟨I',m',f,rfl,F'⟩;exact ih2 _ _ _ _ h2 _ _ _ hx w' I' m' a' Q F' fun e'' a'' w'' E=>hQ _ _ _ (by rw[hk1]at E;exact E.after f)
      ·rename_i hne;refine ih1 none _ _ _ h1 _ _ _ hx w I m a _ F ?_;intro e a' w' E;have hne':e≠ .normal:=E.out fun hxn=>by subst hxn;exact hne s' hx
       cases e with
       |normal=>exact absurd rfl hne'
       |_=>exact hQ _ _ _ E
     cases t with
     |none=>exact wp_seq both
     |some pre=>
      refine q0q ?_;have e:(pre++[c1]).foldr Code.seq c2=pre.foldr Code.seq (.seq c1 c2):=by rw[List.foldr_append];rfl
      have both':c1.wp P (Exit.then (Tw P ((pre++[c1]).foldr Code.seq c2) c2 Q) Q) a w:=both;rw[e]at both';exact both'
    ·cases hc
   ·cases hc
  cases t with
  |none=>exact plain (by simpa only[qce]using hc)
  |some pre=>
   cases c1 with
   |label l=>
    cases keeps with
    |nil=>exact plain (by simpa only[qce]using hc)
    |cons k ks=>
     simp only[qce]at hc;split at hc
     ·rename_i y ks1 h1;split at hc
      ·rename_i fr r hcut;split at hc
       ·rename_i hok;cases hc;rw[jA1,jA1]at hok;obtain⟨hpre,hev,hpl⟩:=hok;refine q0q (wp_label ?_);have e:(pre++[Code.label l]).foldr Code.seq c2=pre.foldr Code.seq (.seq (.label l) c2):=by rw[List.foldr_append];rfl
        show Tw P (pre.foldr Code.seq (.seq (.label l) c2)) c2 Q a w;rw[<-e];obtain⟨preR,ksR,hR,hfold⟩:=qHi (qBC l y) c2 _ _ y _ h1 hcut hpl;have rest:∀{s1:St} {z:X},loop k (qFR l fr) s=some (z,s1)->qbY IP call loop r s1=some (x,s')-> ∀{I':Imm} {m':Names} {a':Act} {w':World},Fr s.k w w' I I' m m' s.hp s1.hp->Fits w' I' m' s1.tm s1.hp s1.nx n a'->Tw P ((pre++[Code.label l]).foldr Code.seq c2) (qNP (qBC l y) c2) Q a' w':=by
         intro s1 z hl hr I' m' a' w' f F';have hk1:=(hloop _ _ _ _ _ hl).1;have:=ihk (qBC l y) (some preR) _ _ _ hR _ _ _ hr w' I' m' a' Q F' fun e'' a'' w'' E=>hQ _ _ _ (by rw[hk1]at E;exact E.after f)
         simp only[Wt]at this;rw[hfold]at this;exact this
        have pass:∀{z:X} {s1:St},z≠ .normal-> ∀{e':Exit} {a':Act} {w':World},z=x->s1=s'->Ends w I m s.hp s.k n z s1 e' a' w'->Exit.then (Tw P ((pre++[Code.label l]).foldr Code.seq c2) (qNP (qBC l y) c2) Q) Q e' a' w':=by
         rintro z s1 hz e' a' w' rfl rfl E;have hne':e'≠ .normal:=E.out hz;have:=hQ _ _ _ E;cases e' with
         |normal=>exact absurd rfl hne'
         |_=>exact this
        simp only[qbY]at hx;cases hl:loop k (qFR l fr) s with
        |none=>simp[hl]at hx
        |some q=>
         obtain⟨z,s1⟩:=q;refine(hloop _ _ _ _ _ hl).2.2.2 hint n l pre c2 _ _ y (qBC l y) fr r rfl h1 hcut hpl hpre hev w I m a Q F ?_;intro e' a' w' E;cases z with
         |normal=>
          simp only[hl]at hx;obtain⟨I',m',f,rfl,F'⟩:=E;exact rest hl hx f F'
         |exit j=>
          by_cases hj:j=1000000+2*l+1
          ·simp only[hl,hj,jB2]at hx;simp only[q2n,hj,jB2]at E;obtain⟨I',m',f,rfl,F'⟩:=E;exact rest hl hx f F'
          ·simp only[hl,jAm hj]at hx;simp only[q2n,jAm hj]at E;cases hx;exact pass (by simp) rfl rfl E
         |ret=>
          simp only[hl]at hx;cases hx;exact pass (by simp) rfl rfl E
         |pan v=>
          simp only[hl]at hx;cases hx;exact pass (by simp) rfl rfl E
       ·cases hc;rw[qdg]at hx;cases hx
      ·cases hc;rw[qdg]at hx;cases hx
     ·cases hc
   |_=>exact plain (by simpa only[qce]using hc)
 |cond c c1 c2=>
  have ih1:=IH (SizeOf.sizeOf c1) (by simp;try omega) c1 rfl;have ih2:=IH (SizeOf.sizeOf c2) (by simp;try omega) c2 rfl;intro t keeps keeps' ic hc s x s' hx w I m a Q F hQ;refine qve ?_;simp only[qce]at hc;split at hc
  ·rename_i y hy;split at hc
   ·rename_i x1 ks1 h1;split at hc
    ·rename_i x2 ks2 h2;cases hc;have hr:=qaU F.tm hy;simp only[qbY]at hx;split at hx
     ·rename_i ht;rw[ht]at hr;simp only[Rel]at hr;exact wp_cond_true hr (ih1 none _ _ _ h1 _ _ _ hx w I m a Q F hQ)
     ·rename_i ht;rw[ht]at hr;simp only[Rel]at hr;exact wp_cond_false hr (ih2 none _ _ _ h2 _ _ _ hx w I m a Q F hQ)
     ·cases hx
    ·cases hc
   ·cases hc
  ·cases hc
 |block id c=>
  have ih:=IH (SizeOf.sizeOf c) (by simp;try omega) c rfl;intro t keeps keeps' ic hc s x s' hx w I m a Q F hQ;refine qve ?_;simp only[qce]at hc;split at hc
  ·rename_i x1 ks1 h1;split at hc
   ·rename_i hid;cases hc;simp only[qbY]at hx;split at hx
    ·rename_i j s1 hx1;refine wp_block (ih none _ _ _ h1 _ _ _ hx1 w I m a _ F ?_);rintro e a' w' ⟨I',m',f,rfl,F'⟩;split at hx
     ·rename_i hj;cases hx;subst hj;rw[qEm hid];simp only[Exit.inBlock,jB2];exact hQ _ _ _ ⟨I',m',f,rfl,F'⟩
     ·rename_i hj;cases hx;have hq:=hQ (qNR j) a' w' ⟨I',m',f,rfl,F'⟩;rcases qvz j with h1|⟨_,_,l,h1,_⟩
      ·rw[h1]at hq ⊢;simp only[Exit.inBlock];rw[jAm hj];exact hq
      ·rw[h1]at hq ⊢;exact hq
    ·rename_i hne;refine wp_block (ih none _ _ _ h1 _ _ _ hx w I m a _ F ?_);intro e a' w' E;have hne':∀j,e≠ .exit j:=by
      intro j hj;obtain⟨I',m',f,hm⟩:=E;cases x with
      |normal=>obtain⟨rfl,_⟩:=hm;cases hj
      |exit i=>exact hne i s' hx
      |ret=>obtain⟨rfl,_⟩:=hm;cases hj
      |pan v=>obtain⟨_,_,_,u,rfl,_⟩:=hm;cases hj
     cases e with
     |exit j=>exact absurd rfl (hne' j)
     |_=>exact hQ _ _ _ E
   ·cases hc;rw[qdg]at hx;cases hx
  ·cases hc
 |loop c=>
  have ih:=IH (SizeOf.sizeOf c) (by simp;try omega) c rfl;intro t keeps keeps' ic hc s x s' hx w I m a Q F hQ;cases keeps with
  |nil=>simp only[qce,jA7,jAd]at hc;obtain⟨rfl,rfl⟩:=hc;rw[qdg]at hx;cases hx
  |cons k ks=>
   simp only[qce]at hc;split at hc
   ·rename_i x1 ks1 h1;cases hc;simp only[qbY]at hx;exact qve (q4t ((hloop _ _ _ _ _ hx).2.1 _ _ _ _ _ h1 w I m a Q F hQ))
   ·cases hc
 |scope c=>
  have ih:=IH (SizeOf.sizeOf c) (by simp;try omega) c rfl;intro t keeps keeps' ic hc s x s' hx w I m a Q F hQ;refine qve ?_;simp only[qce]at hc;split at hc
  ·rename_i y ks1 h1;split at hc
   ·rename_i hok;cases hc;have hxid:=hids _ _ hok _ _ _ hx;refine qGZ (ih (some []) _ _ _ h1 _ _ _ hx w I m a _ F ?_);intro e a' w' E;have hq:=hQ e a' w' E;cases e with
    |goto l=>
     obtain⟨I',m',f,hm⟩:=E;cases x with
     |normal=>obtain⟨h,_⟩:=hm;cases h
     |exit i=>
      rcases hxid with hi|hi
      ·obtain⟨h,_⟩:=hm;rw[qEm hi]at h;cases h
      ·cases hi
     |ret=>obtain⟨h,_⟩:=hm;cases h
     |pan v=>obtain⟨_,_,_,u,h,_⟩:=hm;cases h
    |_=>exact hq
   ·cases hc;rw[qdg]at hx;cases hx
  ·cases hc
 |_=>
  intro t keeps keeps' ic hc s x s' hx;simp only[qce,jA7,jAd]at hc;obtain⟨rfl,rfl⟩:=hc;rw[qdg]at hx;cases hx
theorem qlM{IP:Prog}{call:qa2}{loop:qgp}(hcall:qdF P call)(hloop:ql3 P loop){n:Nat}:∀(k:Nat) (c:Code) (pre:List Code) (ks:List (List Nat)) (y:ICode) (ks':List (List Nat)) {f r:ICode},qce P hint n c (some pre) ks=some (y,ks')->zc5 k y=some (f,r)->qtH k c=true ->
  ∀(s:St) (x:X) (s':St),qbY IP call loop f s=some (x,s')-> ∀(w:World) (I:Imm) (m:Names) (a:Act) (Q:Exit->Act->World->Prop),Fits w I m s.tm s.hp s.nx n a ->
   (∀e a' w',Ends w I m s.hp s.k n x s' e a' w'->Exit.then (Tw P (pre.foldr Code.seq c) (qNP k c) Q) Q e a' w')->Tw P (pre.foldr Code.seq c) c Q a w
 |0,c,pre,ks,y,ks',f,r,h,hc,_=>by
  intro s x s' hx w I m a Q F hQ;cases hc;simp[qbY]at hx;obtain⟨rfl,rfl⟩:=hx;exact hQ .normal a w ⟨I,m,Fr.refl _,rfl,F⟩
 |k+1,c,pre,ks,y,ks',f,r,h,hc,hp=>by
  intro s x s' hx w I m a Q F hQ;obtain⟨c1,c2,rfl,ha,hp'⟩:=qCa hp;obtain⟨x1,ks1,y1,h1,h2,rfl⟩:=qHh ha h;simp only[zc5]at hc;split at hc
  ·rename_i f1 r1 h3;cases hc;have hk:=qHt (IP:=IP) (call:=call) (fun keep ic s x s' h=>(hloop keep ic s x s' h).1);have e:(pre++[c1]).foldr Code.seq c2=pre.foldr Code.seq (.seq c1 c2):=by rw[List.foldr_append];rfl
   refine q0q ?_;simp only[qbY]at hx;split at hx
   ·rename_i s1 hx1;have hk1:=hk _ _ _ _ hx1;refine qli hcall hloop c1 none _ _ _ h1 _ _ _ hx1 w I m a _ F ?_;rintro e' a' w' ⟨I',m',f',rfl,F'⟩;have:=qlM hcall hloop k c2 _ _ y1 _ h2 h3 hp' _ _ _ hx w' I' m' a' Q F' fun e'' a'' w'' E=>by
     rw[e];exact hQ _ _ _ (by rw[hk1]at E;exact E.after f')
    rw[e]at this;exact this
   ·rename_i hne;refine qli hcall hloop c1 none _ _ _ h1 _ _ _ hx w I m a _ F ?_;intro e' a' w' E;have hne':e'≠ .normal:=E.out fun hxn=>by subst hxn;exact hne s' hx
    have:=hQ _ _ _ E;cases e' with
    |normal=>exact absurd rfl hne'
    |_=>exact this
  ·cases hc
theorem qcH{IP:Prog}{call:qa2}{loop:qgp}(hcall:qdF P call)(hloop:ql3 P loop){n:Nat}:∀(c:Code) (keeps keeps':List (List Nat)) (ic:ICode),comp P hint n c keeps=some (ic,keeps') ->
  ∀(s:St) (x:X) (s':St),qbY IP call loop ic s=some (x,s')-> ∀(w:World) (I:Imm) (m:Names) (a:Act) (Q:Exit->Act->World->Prop),Fits w I m s.tm s.hp s.nx n a ->
   (∀e a' w',Ends w I m s.hp s.k n x s' e a' w'->Q e a' w')->c.wp P Q a w:=fun c keeps keeps' ic hc=>qli hcall hloop c none keeps keeps' ic hc
end
end Go.Eng
namespace Go.Eng
set_option linter.unusedSectionVars false
variable [Globs]
instance noDfs:Dfs:=⟨[]⟩
section
variable {P:Program} {hint:Nat->Nat} {w:World} {I:Imm} {m:Names} {h:Heap} {nx:Nat} {e:Env} {a:Act}
def zmW(P:Program):ResultVar->Option (Nat×Option (Bool×Nat))
 | .tmp t=>some (t,none)
 | .cell x t=>match qgn P t,qb1 P t with
  |some n,some g=>if g=true\/n=1 then some (x,some (g,n))else none
  |_,_=>none
def qAQ(P:Program):List ResultVar->Option (List (Nat×Option (Bool×Nat)))
 | []=>some []
 |r::rs=>match zmW P r,qAQ P rs with
  |some x,some xs=>some (x::xs)
  |_,_=>none
def qt5(tmps:Array Value):ResultVar->Sem Value
 | .tmp t=>pure (tmps.getD t undef)
 | .cell a t=>do loadVar t (<- asAddr (tmps.getD a undef))
theorem qGc{s:St}{n:Nat}(F:Fits w I m s.tm s.hp nx n a){r:ResultVar}{x:Nat×Option (Bool×Nat)}(hc:zmW P r=some x){v:AV}(hv:q33 s x=some v) :
  ∃u,(qt5 a.tmps r).run P w= .ok u w/\Rel w I v m u:=by
 cases r with
 |tmp t=>
  simp[zmW]at hc;subst hc;simp[q33]at hv;subst hv;exact⟨_,rfl,F.tm t⟩
 |cell y t=>
  simp only[zmW]at hc;split at hc
  ·rename_i n' g hn hg;split at hc
   ·rename_i h1;cases hc;simp only[q33]at hv;split at hv
    ·rename_i cs hcs;obtain⟨b,o,hp,hcells⟩:=qmd F.hp (F.tm y) hcs;obtain⟨u,hu,hr⟩:=qmr (P:=P) hn hg h1 hcells hv;refine⟨u,?_,hr⟩;simp[qt5,hp,asAddr,hu]
    ·cases hv
   ·cases hc
  ·cases hc
theorem qo4{s:St}{n:Nat}(F:Fits w I m s.tm s.hp nx n a):∀{rs:List ResultVar} {xs:List (Nat×Option (Bool×Nat))},qAQ P rs=some xs-> ∀{vs:List AV},qjL s xs=some vs ->
  ∃us,(rs.mapM (qt5 a.tmps)).run P w= .ok us w/\qaQ w I vs m us
 | [],xs,hc,vs,hv=>by
  simp[qAQ]at hc;subst hc;simp[qjL]at hv;subst hv;exact⟨[],rfl,by simp[qaQ]⟩
 |r::rs,xs,hc,vs,hv=>by
  simp only[qAQ]at hc;split at hc
  ·rename_i x xs' h1 h2;cases hc;simp only[qjL]at hv;split at hv
   ·rename_i v vs' h3 h4;cases hv;obtain⟨u,hu,hr⟩:=qGc F h1 h3;obtain⟨us,hus,hrs⟩:=qo4 F h2 h4;refine⟨u::us,by simp[hu,hus],?_⟩;simp only[qaQ];exact⟨u,us,rfl,hr,hrs⟩
   ·cases hv
  ·cases hc
theorem qiA{s:St}{n:Nat}(F:Fits w I m s.tm s.hp nx n a){fn:Func}{xs:List (Nat×Option (Bool×Nat))}(hc:qAQ P fn.results.toList=some xs){vs:List AV}(hv:qjL s xs=some vs) :
  ∃u,(results fn a.tmps).run P w= .ok u w/\Rel w I (one vs) m u:=by
 obtain⟨us,hus,hr⟩:=qo4 F hc hv;have hmap:(results fn a.tmps)=(do let vs <- fn.results.mapM (qt5 a.tmps);pure (if h:vs.size=1 then vs[0]else .tuple vs)):=by
  unfold results
  congr 1
 have hrun:(fn.results.mapM (qt5 a.tmps)).run P w= .ok us.toArray w:=by
  rw[Array.mapM_eq_mapM_toList,<-bind_pure_comp];simp[hus]
 refine⟨if h:us.toArray.size=1 then us.toArray[0]else .tuple us.toArray,by rw[hmap];simp only[Sem.run_bind,hrun,Result.andThen_ok,Sem.run_pure],?_⟩;have hl:=qa7 hr;cases vs with
 |nil=>
  cases us with
  |nil=>simp[one,Rel,qaQ]
  |cons=>simp at hl
 |cons v vs=>
  cases vs with
  |nil=>
   cases us with
   |nil=>simp at hl
   |cons u us=>
    cases us with
    |nil=>
     simp only[qaQ]at hr;obtain⟨v',vs',he,hr,_⟩:=hr;cases he;simpa[one]using hr
    |cons=>simp at hl
  |cons v' vs=>
   have:us.length≠1:=by simp at hl;omega
   simp only[one,Rel,jBw,this,dite_false];exact⟨us,rfl,hr⟩
theorem qs7{IP:Prog}{f k:Nat}(H:HeapAt w I m h){v:AV}{u:Value}(hr:Rel w I v m u){v':AV}{h':Heap}(hl:qva IP f k v h=some (v',h')) :
  ∃I' m',HeapAt w I' m' h'/\Fr k w w I I' m m' h h'/\Rel w I' v' m' u:=by
 simp only[qva]at hl;split at hl
 ·cases hl
 ·rename_i v1 h1 hst;split at hl
  ·cases hl
  ·rename_i r hrch;cases hl;have key:∃I1,HeapAt w I1 m h1/\Fr k w w I I1 m m h h1/\Rel w I1 v1 m u:=by
    split at hst
    ·cases hst;exact⟨I,H,Fr.refl k,hr⟩
    ·obtain⟨I1,ha,hr1,_⟩:=qlY (nx:=0) H hr hst;exact⟨I1,ha.heap,⟨ha.stays,ha.imm,fun i L _ h=>h,ha.frame,ha.newI,ha.owns⟩,qKl hr1⟩
   obtain⟨I1,H1,F1,hr1⟩:=key;obtain⟨hH,hF,hpl⟩:=qCo H1 hrch;exact⟨I1,_,hH,F1.trans hF,qgi hpl _ hr1⟩
theorem qlZ:∀(vs:List AV) (i t:Nat),qbV (params i vs) t=(if i<=t then vs[t-i]?.getD .junk else .junk)
 | [],i,t=>by simp[params,qbV]
 |v::vs,i,t=>by
  simp only[params,qbV];by_cases h:t=i
  ·subst h;simp
  ·rw[jAm h,qlZ vs (i+1) t];by_cases h2:i<=t
   ·have:i+1<=t:=by omega
    have e:t-i=(t-(i+1))+1:=by omega
    simp[h2,this,e]
   ·have:¬i+1<=t:=by omega
    simp[h2,this]
def qDn(P:Program)(f:Nat)(F:Fun):Prop:=
 ∃fn c hint keeps keeps',P.funcs[f]? = some fn/\(fn.name== "runtime.NumGoroutine")=false/\fn.body=some c/\comp P hint fn.ntmps c keeps=some (F.body,keeps')/\qAQ P fn.results.toList=some F.results
def qeA(P:Program)(f:Nat)(g:List AV->Heap->Option (Res×Heap)):Prop:=∀args h r h',g args h=some (r,h') ->
 ∀(w:World) (I:Imm) (m:Names) (vs:List Value),HeapAt w I m h->(∀i,h.length<=i->m i=none)->qaQ w I args m vs->Runs P f vs.toArray w (qKN w I m h r h')
def qP6(P:Program)(f:Nat)(s:Seen):Prop:=∀call,qdF P call->qeA P f (s.g call)
def qP4(P:Program)(IP:Prog):Prop:=(∀f F,IP.fn f=some F->qDn P f F)/\(∀f g,IP.fn f=none->IP.spec f=some g->qeA P f g)/\ ∀f s,IP.fn f=none->IP.spec f=none->IP.seen f=some s->qP6 P f s
theorem qmk:∀(h:Heap) (i:Nat),qak (nzH h) i=(qak h i).map nzB
 | [],_=>rfl
 |(j,b)::h,i=>by
  have ih:=qmk h i;simp only[nzH,jAs,qak]at ih ⊢;split
  ·rfl
  ·exact ih
theorem qU3:∀(cs:List AV) (i:Nat) (c:AV),(nz.nzL cs)[i]? = some c-> ∃c0,cs[i]? = some c0/\c=nz c0
 | [],i,c,h=>by simp[nz.nzL]at h
 |x::cs,0,c,h=>by simp[nz.nzL]at h;exact⟨x,rfl,h.symm⟩
 |x::cs,i+1,c,h=>by simp[nz.nzL]at h;exact qU3 cs i c h
theorem zhO{L:Loc}{b:Blk}(h:BlkAt w I m L b):BlkAt w I m L (nzB b):=by
 cases b with
 |box cs fz=>
  obtain⟨h1,h2,C,e,h3,h4,h5,h6⟩:=h;refine⟨h1,by rw[qth];exact h2,C,e,h3,by rw[qth];exact h4,fun i c hc=>?_,by rw[qth];exact h6⟩;obtain⟨c0,hc0,rfl⟩:=qU3 cs i c hc;obtain⟨v,hv,hr⟩:=h5 i c0 hc0;exact⟨v,hv,qmC c0 hr⟩
 |arr sz es fz=>exact h
 |mp kvs=>exact h
theorem zdx(H:HeapAt w I m h):HeapAt w I m (nzH h):=by
 refine⟨fun i b hb=>?_,fun i j a b L L' ha hb=>?_,H.old,H.glob⟩
 ·rw[qmk]at hb;cases hq:qak h i with
  |none=>rw[hq]at hb;cases hb
  |some b0=>
   rw[hq]at hb;cases hb;obtain⟨L,hL,hat⟩:=H.at_ i b0 hq;exact⟨L,hL,zhO hat⟩
 ·rw[qmk]at ha hb;cases hq:qak h i with
  |none=>rw[hq]at ha;cases ha
  |some a0=>
   cases hq':qak h j with
   |none=>rw[hq']at hb;cases hb
   |some b0=>exact H.apart i j a0 b0 L L' hq hq'
theorem zd0{b:Nat}:Owns m (nzH h) b ↔ Owns m h b:=by
 constructor
 ·rintro⟨i,a,L,ha,hL,hb⟩;rw[qmk]at ha;cases hq:qak h i with
  |none=>rw[hq]at ha;cases ha
  |some a0=>exact⟨i,a0,L,hq,hL,hb⟩
 ·rintro⟨i,a,L,ha,hL,hb⟩;exact⟨i,nzB a,L,by rw[qmk,ha];rfl,hL,hb⟩
theorem zjA{IP:Prog}{f:Nat}(H:HeapAt w I m h):HeapAt w I m (wH IP f h):=by
 unfold wH;cases IP.wid f
 ·exact H
 ·exact zdx H
theorem qVd{IP:Prog}{f b:Nat}:Owns m (wH IP f h) b ↔ Owns m h b:=by
 unfold wH;cases IP.wid f
 ·exact Iff.rfl
 ·exact zd0
theorem zkq{IP:Prog}{f:Nat}{v:AV}{u:Value}(h:Rel w I v m u):Rel w I (wV IP f v) m u:=by
 unfold wV;cases IP.wid f
 ·exact h
 ·exact qmC v h
theorem qdb{IP:Prog}{call:qa2}{loop:qgp}(hcall:qdF P call)(hloop:ql3 P loop){f:Nat}{F:Fun}(hF:qDn P f F){args:List AV}{r:Res}{h':Heap}(hb:body IP call loop f F args h=some (r,h')) :
  qbP P f/\ ∀(w:World) (I:Imm) (m:Names) (vs:List Value),HeapAt w I m h->(∀i,h.length<=i->m i=none)->qaQ w I args m vs->Calls P f vs.toArray w (qKN w I m h r h'):=by
 obtain⟨fn,c,hint,keeps,keeps',hf,hname,hbody,hcomp,hres⟩:=hF;refine⟨⟨fn,hf,hname,by rw[hbody];rfl⟩,fun w I m vs H hm hr=>?_⟩;refine calls_of_wp hf hbody ?_;simp only[body]at hb;have hrl:=qa7 hr
 let a0:Act:={ tmps:=vs.toArray++Array.replicate (fn.ntmps-vs.toArray.size) undef,defers:=[] }
 have F0:Fits w I m (params 0 args) (wH IP f h) h.length fn.ntmps a0:=by
  refine⟨fun t=>?_,zjA H,hm,by simp[a0];omega,rfl⟩;rw[qlZ];simp only[jBa,jB2,Nat.sub_zero];cases hq:args[t]? with
  |none=>simp[Rel]
  |some x=>
   obtain⟨v,hv,hrel⟩:=qcr hr t x hq;have hlt:t<vs.length:=(jAg.1 hv).1;have:a0.tmps.getD t undef=v:=by
    simp only[a0];rw[jAq,Array.getElem?_append_left (by simpa using hlt)];simp[hv]
   simpa[this]using hrel
 have finish:∀{x:X} {s:St} {v v':AV} {h2:Heap} {I':Imm} {m':Names} {w':World} {u:Value},Fr h.length w w' I I' m m' (wH IP f h) s.hp->HeapAt w' I' m' s.hp->Rel w' I' v m' u->qva IP f h.length v s.hp=some (v',h2) ->
   ∃I'' m'',Aft w w' I I'' m m'' h h2/\Rel w' I'' v' m'' u:=by
  intro x s v v' h2 I' m' w' u hfr H' hu hl;obtain⟨I'',m'',H'',hfr',hu'⟩:=qs7 H' hu hl;have:=hfr.trans hfr';refine⟨I'',m'',⟨this.stays,this.imm,fun i L hL=>?_,H'',fun b hb ho=>this.frame b hb fun h=>ho (qVd.1 h),fun b o hi=>(this.newI b o hi).elim .inl fun h=>.inr (h.elim (fun h=>.inl (qVd.1 h)) .inr),fun b hb=>(this.owns b hb).elim (fun h=>.inl (qVd.1 h)) .inr⟩,hu'⟩;rcases jCb i h.length with hi|hi
  ·exact this.names i L hi hL
  ·rw[hm i hi]at hL;cases hL
 split at hb
 ·
  rename_i s hx;split at hb
  ·rename_i xs hxs;split at hb
   ·rename_i v' h2 hl;cases hb;refine qcH hcall hloop c keeps keeps' F.body hcomp _ _ _ hx w I m a0 _ F0 ?_;rintro e a' w' ⟨I',m',hfr,rfl,F'⟩;obtain⟨u,hu,hru⟩:=qiA F' hres hxs;obtain⟨I'',m'',hA,hru'⟩:=finish (x:=.normal) hfr F'.hp hru hl;exact⟨F'.df,u,hu,I'',m'',hA,u,rfl,zkq hru'⟩
   ·cases hb
  ·cases hb
 ·rename_i s hx;split at hb
  ·rename_i xs hxs;split at hb
   ·rename_i v' h2 hl;cases hb;refine qcH hcall hloop c keeps keeps' F.body hcomp _ _ _ hx w I m a0 _ F0 ?_;rintro e a' w' ⟨I',m',hfr,rfl,F'⟩;obtain⟨u,hu,hru⟩:=qiA F' hres hxs;obtain⟨I'',m'',hA,hru'⟩:=finish (x:=.ret) hfr F'.hp hru hl;exact⟨F'.df,u,hu,I'',m'',hA,u,rfl,zkq hru'⟩
   ·cases hb
  ·cases hb
 ·rename_i v s hx;split at hb
  ·rename_i v' h2 hl;cases hb;refine qcH hcall hloop c keeps keeps' F.body hcomp _ _ _ hx w I m a0 _ F0 ?_;rintro e a' w' ⟨I',m',hfr,hdf,H',_,u,rfl,hru⟩;obtain⟨I'',m'',hA,hru'⟩:=finish (x:=.ret) hfr H' hru hl;exact⟨hdf,I'',m'',hA,u,rfl,hru'⟩
  ·cases hb
 ·cases hb
theorem qtm{IP:Prog}(hP:qP4 P IP):∀n,qdF P (qaF IP n).1/\ql3 P (qaF IP n).2
 |0=>⟨fun f args h r h' hc=>by simp[qaF]at hc,fun keep ic s x s' hc=>by simp[qaF]at hc⟩
 |n+1=>by
  obtain⟨hcall,hloop⟩:=qtm hP n;refine⟨fun f args h r h' hc=>?_,fun keep ic s x s' hc=>?_⟩
  ·simp only[qaF]at hc;split at hc
   ·rename_i F hF;exact fun w I m vs H hm hr=>.inl ⟨(qdb hcall hloop (hP.1 f F hF) hc).1,(qdb hcall hloop (hP.1 f F hF) hc).2 w I m vs H hm hr⟩
   ·rename_i hF;split at hc
    ·rename_i g hg;exact hP.2.1 f g hF hg _ _ _ _ hc
    ·rename_i hg;split at hc
     ·rename_i s hs;exact hP.2.2 f s hF hg hs _ hcall _ _ _ _ hc
     ·cases hc
  ·simp only[qaF]at hc;split at hc
   ·cases hc
   ·rename_i s1 hnorm;have hk1:s1.k=s.k:=by
     simp only[norm]at hnorm;split at hnorm
     ·cases hnorm
     ·cases hnorm;rfl
    have hkx:=qHt (IP:=IP) (call:=(qaF IP n).1) (fun keep ic s x s' h=>(hloop keep ic s x s' h).1);have hko:∀{x:X} {s2:St},qyM keep x s2=some (x,s')->s'.k=s2.k:=by
     intro x s2 ho;unfold qyM at ho;split at ho
     ·cases ho;rfl
     ·split at ho
      ·rename_i s3 hs3;cases ho;simp only[norm]at hs3;split at hs3
       ·cases hs3
       ·cases hs3;rfl
      ·cases ho
    have hxo:∀{y:X} {s2:St},qyM keep y s2=some (x,s')->y=x:=by
     intro y s2 ho;unfold qyM at ho;split at ho
     ·cases ho;rfl
     ·split at ho<;>cases ho;rfl
    have hxo':∀{y:X} {s2:St},qyM keep y s2=some (x,s')->y=x:=hxo;have hio:=qHs (IP:=IP) (call:=(qaF IP n).1) (fun keep ic s x s' h=>(hloop keep ic s x s' h).2.2.1);refine⟨?_,?_,?_,?_⟩
    ·split at hc
     ·rename_i s2 hx;exact((hloop _ _ _ _ _ hc).1.trans (hkx _ _ _ _ hx)).trans hk1
     ·rename_i y s2 hne hx;have:=hxo hc;subst this;exact((hko hc).trans (hkx _ _ _ _ hx)).trans hk1
     ·cases hc
    ·intro hint n' c keeps keeps' hcomp w I m a Q F hQ;obtain⟨_,m1,F1,f1⟩:=qdW F hnorm;split at hc
     ·rename_i s2 hx;refine qKG (qcH hcall hloop c keeps keeps' ic hcomp _ _ _ hx w I m1 a (fun e a' w'=>Ends w I m1 s1.hp s1.k n' .normal s2 e a' w') F1 fun _ _ _ h=>h) ?_ ?_
      ·rintro a' w' ⟨I',m',f',_,F'⟩;refine(hloop _ _ _ _ _ hc).2.1 hint n' c keeps keeps' hcomp w' I' m' a' Q F' fun e a'' w'' E=>hQ _ _ _ ?_
       have hk2:=hkx _ _ _ _ hx;rw[hk2]at E;rw[hk1]at E f';exact(E.after f').after f1
      ·rintro e a' w' hne ⟨I',m',f',he,_⟩;exact absurd he hne
     ·rename_i y s2 hne hx;have:=hxo hc;subst this;have hk2:=hkx _ _ _ _ hx;refine qKG (qcH hcall hloop c keeps keeps' ic hcomp _ _ _ hx w I m1 a (fun e a' w'=>Ends w I m1 s1.hp s1.k n' y s2 e a' w') F1 fun _ _ _ h=>h) ?_ ?_
      ·intro a' w' E;exact absurd rfl (E.out fun hxn=>hne hxn)
      ·intro e a' w' _ E;have E2:Ends w I m1 s1.hp s1.k n' y s' e a' w':=by
        obtain⟨I',m',f',hrest⟩:=E;unfold qyM at hc;split at hc
        ·cases hc;exact⟨I',m',f',hrest⟩
        ·rename_i hnp;split at hc
         ·rename_i s3 hs3;cases hc;cases y with
          |pan v=>exact absurd rfl (hnp v)
          |normal=>exact absurd rfl hne
          |exit id=>
           obtain⟨he,F'⟩:=hrest;obtain⟨_,m3,F3,f3⟩:=qdW F' hs3;rw[hk2]at f3;exact⟨I',m3,f'.trans f3,he,F3⟩
          |ret=>
           obtain⟨he,F'⟩:=hrest;obtain⟨_,m3,F3,f3⟩:=qdW F' hs3;rw[hk2]at f3;exact⟨I',m3,f'.trans f3,he,F3⟩
         ·cases hc
       rw[hk1]at E2;exact hQ _ _ _ (E2.after f1)
     ·cases hc
    ·intro p hp;split at hc
     ·exact(hloop _ _ _ _ _ hc).2.2.1 p hp
     ·rename_i y s2 hne hx;have:=hxo hc;subst this;exact hio _ p hp _ _ _ hx
     ·cases hc
    ·intro hint n' l pre c keeps keeps' y kk f r hic hcomp hcut hpl hpre hev w I m a Q F hQ;subst hic;obtain⟨_,m1,F1,f1⟩:=qdW F hnorm;have hf:=q26 (b:=c) hpre;have hcn:∀{z:X} {s2:St},(∀v,z≠ .pan v)->qyM keep z s2=some (x,s')->x=z/\norm (xk keep) s2=some s':=by
      intro z s2 hz ho;refine⟨(hxo' ho).symm,?_⟩;unfold qyM at ho;split at ho
      ·exact absurd rfl (hz _)
      ·split at ho
       ·rename_i s3 hs3;cases ho;exact hs3
       ·cases ho
     have hend:∀{z:X} {s2:St} {e:Exit} {a':Act} {w':World},qbY IP (qaF IP n).1 (qaF IP n).2 f s1=some (z,s2)->qyM keep z s2=some (x,s')->z≠ .normal->Ends w I m1 s1.hp s1.k n' z s2 e a' w'->Ends w I m s.hp s.k n' z s' e a' w':=by
      intro z s2 e a' w' hy ho hzn E;have hk2:=hkx _ _ _ _ hy;have E2:Ends w I m1 s1.hp s1.k n' z s' e a' w':=by
       obtain⟨I',m',f',hrest⟩:=E;cases z with
       |pan v=>unfold qyM at ho;cases ho;exact⟨I',m',f',hrest⟩
       |normal=>exact absurd rfl hzn
       |exit id=>
        obtain⟨he,F'⟩:=hrest;obtain⟨_,m3,F3,f3⟩:=qdW F' (hcn (by intro v;simp) ho).2;rw[hk2]at f3;exact⟨I',m3,f'.trans f3,he,F3⟩
       |ret=>
        obtain⟨he,F'⟩:=hrest;obtain⟨_,m3,F3,f3⟩:=qdW F' (hcn (by intro v;simp) ho).2;rw[hk2]at f3;exact⟨I',m3,f'.trans f3,he,F3⟩
      rw[hk1]at E2;exact E2.after f1
     cases hy:qbY IP (qaF IP n).1 (qaF IP n).2 f s1 with
     |none=>simp[qFR,qbY,hy]at hc
     |some r=>
      obtain⟨z,s2⟩:=r;have hk2:=hkx _ _ _ _ hy;have hT:z≠ .normal->Tw P ((pre++[Code.label l]).foldr Code.seq c) c (fun e a' w'=>Ends w I m1 s1.hp s1.k n' z s2 e a' w') a w:=fun hzn=>
       qlM hcall hloop kk c (pre++[Code.label l]) keeps y keeps' hcomp hcut hpl _ _ _ hy w I m1 a _ F1 fun e a' w' E=>by
        have hne:e≠ .normal:=E.out hzn;cases e with
        |normal=>exact absurd rfl hne
        |_=>exact E
      have hQ':q2n l x≠ .normal-> ∀e a' w',Ends w I m s.hp s.k n' (q2n l x) s' e a' w'->Q e a' w':=fun hzn e a' w' E=>by
       have hne:e≠ .normal:=E.out hzn;have:=hQ e a' w' E;cases e with
       |normal=>exact absurd rfl hne
       |_=>exact this
      cases z with
      |normal=>
       have hc:qyM keep (.exit (1000000+2*l+1)) s2=some (x,s'):=by
        simp only[qFR,qbY,hy]at hc;rw[jAm (by omega)]at hc;exact hc
       obtain⟨hx',hs3⟩:=hcn (by intro v;simp) hc;refine qlM hcall hloop kk c (pre++[Code.label l]) keeps y keeps' hcomp hcut hpl _ _ _ hy w I m1 a _ F1 ?_;rintro e a' w' ⟨I',m',f',rfl,F'⟩;refine hQ .normal a' w' ?_;rw[hx'];simp only[q2n,jB2];obtain⟨_,m3,F3,f3⟩:=qdW F' hs3;rw[hk2,hk1]at f3;rw[hk1]at f';exact Ends.after f1 ⟨I',m3,f'.trans f3,rfl,F3⟩
      |exit j=>
       by_cases hj:j=1000000+2*l
       ·subst hj;have hc:(qaF IP n).2 keep (qFR l f) s2=some (x,s'):=by
         have e:qbY IP (qaF IP n).1 (qaF IP n).2 (qFR l f) s1=some (.normal,s2):=by simp[qFR,qbY,hy]
         rw[e]at hc;exact hc
        refine qra hf (hT (by simp)) ?_ ?_
        ·rintro a' w' ⟨I',m',f',_,F'⟩;refine(hloop _ _ _ _ _ hc).2.2.2 hint n' l pre c keeps keeps' y kk f r rfl hcomp hcut hpl hpre hev w' I' m' a' Q F' fun e a'' w'' E=>hQ _ _ _ ?_
         rw[hk2]at E;rw[hk1]at E f';exact(E.after f').after f1
        ·rintro e a' w' hne ⟨I',m',f',he,_⟩;exact absurd (he.trans (qA3 l)) hne
       ·have hc:qyM keep (.exit j) s2=some (x,s'):=by
         have e:qbY IP (qaF IP n).1 (qaF IP n).2 (qFR l f) s1=some (.exit j,s2):=by simp[qFR,qbY,hy,hj]
         rw[e]at hc;exact hc
        have hx':=(hcn (by intro v;simp) hc).1;have hjid:=hio _ _ hev _ _ _ hy;have hjo:j≠1000000+2*l+1:=by
         rcases hjid with h|h
         ·omega
         ·simp only[zde,jB7]at h;omega
        have hng:qNR j≠ .goto l:=by
         rcases qvz j with h|⟨_,_,l',h,h2⟩
         ·rw[h];simp
         ·rw[h];intro h3;cases h3;exact hj h2
        refine qra hf (hT (by simp)) ?_ ?_
        ·rintro a' w' ⟨I',m',f',he,_⟩;exact absurd he.symm hng
        ·intro e a' w' _ E;refine hQ' (by rw[hx'];simp[q2n,jAm hjo]) _ _ _ ?_;rw[hx'];simp only[q2n,jAm hjo];exact hend hy hc (by simp) E
      |ret=>
       have hc:qyM keep .ret s2=some (x,s'):=by
        have e:qbY IP (qaF IP n).1 (qaF IP n).2 (qFR l f) s1=some (.ret,s2):=by simp[qFR,qbY,hy]
        rw[e]at hc;exact hc
       have hx':=(hcn (by intro v;simp) hc).1;refine qra hf (hT (by simp)) ?_ ?_
       ·rintro a' w' ⟨I',m',f',he,_⟩;cases he
       ·intro e a' w' _ E;refine hQ' (by rw[hx'];simp[q2n]) _ _ _ ?_;rw[hx'];show Ends w I m s.hp s.k n' X.ret s' e a' w';exact hend hy hc (by simp) E
      |pan v=>
       have hc:qyM keep (.pan v) s2=some (x,s'):=by
        have e:qbY IP (qaF IP n).1 (qaF IP n).2 (qFR l f) s1=some (.pan v,s2):=by simp[qFR,qbY,hy]
        rw[e]at hc;exact hc
       have hx':=(hxo' hc).symm;refine qra hf (hT (by simp)) ?_ ?_
       ·rintro a' w' ⟨I',m',f',_,_,_,u,he,_⟩;cases he
       ·intro e a' w' _ E;refine hQ' (by rw[hx'];simp[q2n]) _ _ _ ?_;rw[hx'];show Ends w I m s.hp s.k n' (X.pan v) s' e a' w';exact hend hy hc (by simp) E
end
end Go.Eng
namespace Go.Eng
def zdy:List (Nat×Nat)->Nat->Nat
 | [],_=>0
 |(i,n)::l,d=>if d=i then n else zdy l d
noncomputable def zjr(P:Program)(hs:List (Nat×Nat))(ks:List (List Nat))(fn:Func):Option Fun:=match fn.body with
 |some c=>match comp P (zdy hs) fn.ntmps c ks with
  |some (b,_)=>match qAQ P fn.results.toList with
   |some rs=>some ⟨fn.params.size,fn.ntmps,rs,b⟩
   |none=>none
  |none=>none
 |none=>none
noncomputable def zob(P:Program)(hs:List (Nat×Nat))(ks:List (List Nat))(fn:Func):Fun:=match zjr P hs ks fn with
 |some F=>F
 |none=>⟨0,0,[],.ret⟩
theorem zds{P:Program}{hs:List (Nat×Nat)}{ks:List (List Nat)}{i:Nat}{fn:Func}(hf:P.funcs[i]? = some fn)(h:(zjr P hs ks fn).isSome&& !(fn.name== "runtime.NumGoroutine")=true):qDn P i (zob P hs ks fn):=by
 rw[jA1]at h;obtain⟨h,hn⟩:=h;unfold zob;cases hq:zjr P hs ks fn with
 |none=>rw[hq]at h;cases h
 |some F=>
  simp only;unfold zjr at hq;split at hq
  ·rename_i c hb;split at hq
   ·rename_i b k' hc;split at hq
    ·rename_i rs hr;cases hq;exact⟨fn,c,zdy hs,ks,k',hf,by simpa using hn,hb,hc,hr⟩
    ·cases hq
   ·cases hq
  ·cases hq
def qUD:List (Nat×Fun)->Nat->Option Fun
 | [],_=>none
 |(i,F)::l,f=>if f=i then some F else qUD l f
def TabF(P:Program):List (Nat×Fun)->Prop
 | []=>True
 |(i,F)::l=>qDn P i F/\TabF P l
theorem TabF.look{P:Program}:∀{l:List (Nat×Fun)},TabF P l-> ∀{f F},qUD l f=some F->qDn P f F
 | [],_,f,F,h=>by simp[qUD]at h
 |(i,G)::l,hl,f,F,h=>by
  simp only[qUD]at h;split at h
  ·rename_i e;subst e;cases h;exact hl.1
  ·exact TabF.look hl.2 h
end Go.Eng

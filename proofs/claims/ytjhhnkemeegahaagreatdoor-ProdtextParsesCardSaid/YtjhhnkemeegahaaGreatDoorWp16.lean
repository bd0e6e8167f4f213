/- expr.Parse, which defers and recovers: what is said of it is true, if it is true what is said of its callees. -/
import Derived.Test.YtjhhnkemeegahaaGreatDoorIP16
import Derived.Test.YtjhhnkemeegahaaGreatDoorProg
import Derived.Defers
import Derived.Recover
set_option linter.all false
namespace Go.Eng
set_option linter.unusedSectionVars false
variable [Globs]
theorem qGC{e:Exit}(h:e≠ .normal){next:Act->World->Prop}{R:Exit->Act->World->Prop}{a:Act}{w:World}:Exit.then next R e a w=R e a w:=by
 cases e<;>first|rfl|exact absurd rfl h
theorem qmZ:∀(tm:Env) (t:Nat),(∃p∈tm,p.1=t/\qbV tm t=p.2)\/qbV tm t= .junk
 | [],_=>.inr rfl
 |(i,v)::tm,t=>by
  by_cases h:t=i
  ·subst h;exact .inl ⟨(t,v),by simp,rfl,by simp[qbV]⟩
  ·have e:qbV ((i,v)::tm) t=qbV tm t:=by simp[qbV,h]
   rw[e];rcases qmZ tm t with⟨p,hp,h1,h2⟩|h
   ·exact .inl ⟨p,by simp[hp],h1,h2⟩
   ·exact .inr h
theorem q0f{w:World}{I:Imm}{m:Names}{tm tm':Env}{a:Act}(F:qle w I m tm a)(h:∀p∈tm',qbV tm p.1=p.2):qle w I m tm' a:=by
 intro t;rcases qmZ tm' t with⟨p,hp,rfl,h2⟩|h2
 ·rw[h2,<-h p hp];exact F _
 ·rw[h2];trivial
theorem qGY[Dfs]{P:Program}{IP:Prog}{call:qa2}{loop:qgp}{hint:Nat->Nat}(hcall:qdF P call)(hloop:ql3 P loop){c rest:Code}{n:Nat}{ks ks':List (List Nat)}{ic:ICode}(hc:comp P hint n c ks=some (ic,ks')){s s1:St}{x:X}
  (hx:qbY IP call loop ic s=some (x,s1)) {w:World} {I:Imm} {m:Names} {a:Act} {Q:Exit->Act->World->Prop} (F:Fits w I m s.tm s.hp s.nx n a)
  (hn:x= .normal-> ∀a' w' I' m',Fr s.k w w' I I' m m' s.hp s1.hp->Fits w' I' m' s1.tm s1.hp s1.nx n a'->rest.wp P Q a' w')
  (ho:x≠ .normal-> ∀e a' w',Eng.Ends w I m s.hp s.k n x s1 e a' w'->Q e a' w'):(Code.seq c rest).wp P Q a w:=by
 refine wp_seq (qcH hcall hloop c ks ks' ic hc s x s1 hx w I m a _ F fun e a' w' E=>?_);cases x with
 |normal=>
  obtain⟨I',m',f,rfl,F'⟩:=E;exact hn rfl a' w' I' m' f F'
 |exit j=>obtain⟨I',m',f,rfl,F'⟩:=E;rw[qGC (qxM j)];exact ho (by simp) _ _ _ ⟨I',m',f,rfl,F'⟩
 |ret=>obtain⟨I',m',f,rfl,F'⟩:=E;exact ho (by simp) _ _ _ ⟨I',m',f,rfl,F'⟩
 |pan v=>obtain⟨I',m',f,hd,H',ht,u,rfl,hu⟩:=E;exact ho (by simp) _ _ _ ⟨I',m',f,hd,H',ht,u,rfl,hu⟩
end Go.Eng
namespace Go.Proofs.H16
open Go Go.Eng Go.Tk Go.Proofs
set_option maxRecDepth 100000
def sq1:Code->Code
 | .seq a _=>a
 |c=>c
def sq2:Code->Code
 | .seq _ b=>b
 |c=>c
def qD2(f:Func):Code:=f.body.getD .skip
noncomputable def cA:Code:=sq1 (qD2 Tryz.f157)
noncomputable def cX:Code:=sq1 (sq2 (qD2 Tryz.f157))
noncomputable def cP:Code:=sq1 (sq2 (sq2 (qD2 Tryz.f157)))
noncomputable def cD:Code:=sq1 (sq2 (sq2 (sq2 (qD2 Tryz.f157))))
noncomputable def cB:Code:=sq2 (sq2 (sq2 (sq2 (qD2 Tryz.f157))))
noncomputable def cC:Code:=sq2 (qD2 Tryz.f208)
theorem zaN:Tryz.f157.body=some (.seq cA (.seq cX (.seq cP (.seq cD cB)))):=by kernel_rfl
theorem zaO:Tryz.f208.body=some (.seq (sq1 (qD2 Tryz.f208)) cC):=by kernel_rfl
noncomputable def icO(n:Nat)(c:Code):ICode:=match comp Tryz.prog (fun _=>4) n c []with
 |some (x,_)=>x
 |none=>.skip
theorem okA:comp Tryz.prog (fun _=>4) 38 cA []=some (icO 38 cA,[]):=by kernel_rfl
theorem okX:comp Tryz.prog (fun _=>4) 38 cX []=some (icO 38 cX,[]):=by kernel_rfl
theorem okP:comp Tryz.prog (fun _=>4) 38 cP []=some (icO 38 cP,[]):=by kernel_rfl
theorem okB:comp Tryz.prog (fun _=>4) 38 cB []=some (icO 38 cB,[]):=by kernel_rfl
theorem okC:comp Tryz.prog (fun _=>4) 20 cC []=some (icO 20 cC,[]):=by kernel_rfl
def zks:List (Nat×Option (Bool×Nat)):=[(4,some (true,4)),(5,some (false,1)),(6,some (false,1))]
theorem zql:qAQ Tryz.prog Tryz.f157.results.toList=some zks:=by kernel_rfl
abbrev KT:=Nat×Option (List AV)×List AV×Heap×Nat×Nat
def kx:X->Nat
 | .normal=>0
 | .ret=>1
 | .exit _=>2
 | .pan _=>3
def kA(x:X)(s:St):Option KT:=some (kx x,qjL s zks,[qbV s.tm 0,qbV s.tm 1,qbV s.tm 4,qbV s.tm 5,qbV s.tm 6,qbV s.tm 7],s.hp,s.nx,s.k)
def noK{R:Type}:qi6 R:=fun _ _ _ _=>none
def zna{R:Type}:qDp R:=fun _ _ _ _=>none
noncomputable def pre:ICode:=.seq (icO 38 cA) (.seq (icO 38 cX) (icO 38 cP))
def cK(b1:List AV->Int->Bool)(r1:Res)(h1:Heap)(b2:AV->Bool)(r2:Int)(R:Type):qi6 R:=fun f a h K=>match f,a,h with
 |209,[.ref 0 0 0],[(0,.box [.view 3 es,.int .i64 k] false)]=>br (b1 es k) (K r1 h1) none
 |56,[v],[]=>br (b2 v) (K (.ret (.int .i64 r2)) []) none
 |_,_,_=>none
abbrev KB:=Nat×AV×Option (List AV)×List AV×Heap×Nat×Nat
def kB(x:X)(s:St):Option KB:=some (kx x,(match x with | .pan v=>v|_=>.junk),qjL s zks,[qbV s.tm 4,qbV s.tm 5,qbV s.tm 6],s.hp,s.nx,s.k)
def zB:Blk:=.box [.int .i64 0,.int .i64 0,.str [],.nils ⟨4,.nil⟩] false
def stB(es:List AV)(k:Int):St:=⟨[(0,.view 3 es),(1,.int .i64 k),(4,.ref 0 0 0),(5,.ref 16 0 0),(6,.ref 32 0 0),(7,.ref 224 0 0)],[(224,.box [.view 3 es,.int .i64 k] false),(32,.box [.int .i64 0] false),(16,.box [.int .i64 0] false),(0,zB)],256,64⟩
def kC(x:X)(s:St):Option (Nat×Heap×Nat×Nat):=some (kx x,s.hp,s.nx,s.k)
def exO:AV:=.agg [.int .i64 0,.int .i64 0,.str [],.nils ⟨4,.nil⟩]
def V0(es:List AV)(k:Int):Option Bool:=br (decide (k<0)) (some true) (some (decide (k>(es.length:Int))))
theorem qKF(es:List AV)(k:Int):qi1 (R:=KT) IP (fun _=>noK) zna pre ⟨[(0,.view 3 es),(1,.int .i64 k)],[],0,64⟩ kA =
  br (sm (V0 es k)) (br (gv (V0 es k)) (some (1,some [exO,.int .i64 k,.int .i64 2],[.view 3 es,.int .i64 k,.ref 0 0 0,.ref 16 0 0,.ref 32 0 0,.junk],[(32,.box [.int .i64 2] false),(16,.box [.int .i64 k] false),(0,zB)],256,64))
   (some (0,some [exO,.int .i64 0,.int .i64 0],[.view 3 es,.int .i64 k,.ref 0 0 0,.ref 16 0 0,.ref 32 0 0,.ref 224 0 0],[(224,.box [.view 3 es,.int .i64 k] false),(32,.box [.int .i64 0] false),(16,.box [.int .i64 0] false),(0,zB)],256,64))) none:=by kernel_rfl
theorem zld(es:List AV)(k:Int)(b1:List AV->Int->Bool)(b2:AV->Bool)(o n:Int)(st:List UInt8)(q:Nat)(xs:List AV)(q0:Nat)(es0:List AV)(k' f:Int) :
  qi1 (R:=KB) IP (cK b1 (.ret (.agg [.int .i64 o,.int .i64 n,.str st,.view q xs])) [(0,.box [.view q0 es0,.int .i64 k'] false)] b2 f) zna (icO 38 cB) (stB es k) kB =
  br (b1 es k) (br (b2 (.agg [.int .i64 o,.int .i64 n,.str st,.view q xs])) (br (f != 0)
   (some (1,.junk,some [exO,.int .i64 k,.int .i64 f],[.ref 0 0 0,.ref 16 0 0,.ref 32 0 0],[(32,.box [.int .i64 f] false),(16,.box [.int .i64 k] false),(0,zB),(224,.box [.view q0 es0,.int .i64 k'] false)],480,64))
   (some (1,.junk,some [.agg [.int .i64 o,.int .i64 n,.str st,.view q xs],.int .i64 k',.int .i64 0],[.ref 0 0 0,.ref 16 0 0,.ref 32 0 0],[(32,.box [.int .i64 0] false),(16,.box [.int .i64 k'] false),(0,.box [.int .i64 o,.int .i64 n,.str st,.view q xs] false),(224,.box [.view q0 es0,.int .i64 k'] false)],512,64))) none) none:=by kernel_rfl
def hpP(q0:Nat)(es0:List AV)(k0:Int):Eng.Heap:=[(224,.box [.view q0 es0,.int .i64 k0] false),(32,.box [.int .i64 0] false),(16,.box [.int .i64 0] false),(0,zB)]
theorem zlf(es:List AV)(k:Int)(b1:List AV->Int->Bool)(b2:AV->Bool)(q0:Nat)(es0:List AV)(k' k0 f:Int) :
  qi1 (R:=KB) IP (cK b1 (.pan (.iface 202 (.agg [.int .i64 k']))) [(0,.box [.view q0 es0,.int .i64 k0] false)] b2 f) zna (icO 38 cB) (stB es k) kB =
  br (b1 es k) (some (3,.iface 202 (.agg [.int .i64 k']),some [exO,.int .i64 0,.int .i64 0],[.ref 0 0 0,.ref 16 0 0,.ref 32 0 0],hpP q0 es0 k0,304,64)) none:=by kernel_rfl
def hpM:Eng.Heap:=[(32,.box [.int .i64 0] false),(16,.box [.int .i64 0] false),(0,zB)]
def hpC(k':Int):Eng.Heap:=[(32,.box [.int .i64 2] false),(16,.box [.int .i64 k'] false),(0,zB),(624,.box [.int .i64 k'] false)]
theorem zle(k':Int):qi1 (R:=Nat×Eng.Heap×Nat×Nat) IP (fun _=>noK) zna (icO 20 cC) ⟨[(0,.ref 0 0 0),(1,.ref 16 0 0),(2,.ref 32 0 0),(3,.iface 202 (.agg [.int .i64 k']))],hpM,512,64⟩ kC=some (0,hpC k',800,64):=by kernel_rfl
theorem qU0{R:Type}{call:qa2}:qrf call (noK (R:=R)):=fun _ _ _ _ _ h=>by cases h
theorem qtf[Dfs]:ql3 Tryz.prog (fun _ _ _=>none):=fun _ _ _ _ _ h=>by cases h
theorem zhR{call:qa2}{b1:List AV->Int->Bool}{r1:Res}{h1:Eng.Heap}{b2:AV->Bool}{r2:Int}(q1:∀es k,b1 es k=true->call 209 [.ref 0 0 0] [(0,.box [.view 3 es,.int .i64 k] false)]=some (r1,h1))(q2:∀v,b2 v=true->call 56 [v] []=some (.ret (.int .i64 r2),[]))(R:Type):qrf call (cK b1 r1 h1 b2 r2 R):=by
 intro f a h K ρ hs;unfold cK at hs;split at hs
 ·obtain⟨hb,hs⟩:=qib hs;exact⟨_,_,q1 _ _ hb,hs⟩
 ·obtain⟨hb,hs⟩:=qib hs;exact⟨_,_,q2 _ hb,hs⟩
 ·cases hs
theorem qTK{x:X}:(kx x=0->x= .normal)/\(kx x=1->x= .ret):=by cases x<;>simp[kx]
theorem qHv{call:qa2}{loop:qgp}{a b:ICode}{s s':St}{x:X}(h:qbY IP call loop (.seq a b) s=some (x,s')):∃y s1,qbY IP call loop a s=some (y,s1)/\((y= .normal/\qbY IP call loop b s1=some (x,s'))\/(y≠ .normal/\y=x/\s1=s')):=by
 simp only[qbY]at h;split at h
 ·rename_i s1 h1;exact⟨_,_,h1,.inl ⟨rfl,h⟩⟩
 ·rename_i r hr;exact⟨x,s',h,.inr ⟨fun he=>by subst he;exact hr _ h,rfl,rfl⟩⟩
theorem qR1[Dfs]{w:World}{I:Imm}{m:Names}{h:Eng.Heap}{k n:Nat}{x:X}{s:St}{e:Exit}{a:Act}{w':World}{next:Act->World->Prop}{Q:Exit->Act->World->Prop}(E:Eng.Ends w I m h k n x s e a w')(hx:x≠ .normal)(hq:Q e a w'):Exit.then next Q e a w':=by
 cases x with
 |normal=>exact absurd rfl hx
 |exit j=>obtain⟨_,_,_,rfl,_⟩:=E;rw[qGC (qxM j)];exact hq
 |ret=>obtain⟨_,_,_,rfl,_⟩:=E;exact hq
 |pan v=>obtain⟨_,_,_,_,_,_,_,rfl,_⟩:=E;exact hq
theorem q9U{call:qa2}(hc:qdF Tryz.prog call){s s':St}{x:X}(hx:qbY IP call (fun _ _ _=>none) pre s=some (x,s')){w:World}{I:Imm}{m:Names}{a:Act}{Q:Exit->Act->World->Prop}{rest:Code}(F:Fits w I m s.tm s.hp s.nx 38 a)
  (hQ:∀e a' w',Eng.Ends w I m s.hp s.k 38 x s' e a' w'->Exit.then (rest.wp Tryz.prog Q) Q e a' w'):(Code.seq cA (.seq cX (.seq cP rest))).wp Tryz.prog Q a w:=by
 have hk:=qHt (IP:=IP) (call:=call) (loop:=fun _ _ _=>none) (fun _ _ _ _ _ h=>by cases h);have q:∀{e a' w'},x≠ .normal->Eng.Ends w I m s.hp s.k 38 x s' e a' w'->Q e a' w':=by
  intro e a' w' hne E;have h2:=hQ e a' w' E;cases x with
  |normal=>exact absurd rfl hne
  |exit j=>obtain⟨_,_,_,rfl,_⟩:=E;rw[qGC (qxM j)]at h2;exact h2
  |ret=>obtain⟨_,_,_,rfl,_⟩:=E;exact h2
  |pan v=>obtain⟨_,_,_,_,_,_,_,rfl,_⟩:=E;exact h2
 obtain⟨y,s1,h1,h2⟩:=qHv hx;refine qGY hc qtf okA h1 F (fun hy a1 w1 I1 m1 f1 F1=>?_) fun hy e a1 w1 E1=>?_
 ·rcases h2 with⟨_,h2⟩|⟨h2,_⟩
  ·obtain⟨z,s2,h3,h4⟩:=qHv h2;have hk1:s1.k=s.k:=hk _ _ _ _ h1;refine qGY hc qtf okX h3 F1 (fun hz a2 w2 I2 m2 f2 F2=>?_) fun hz e a2 w2 E2=>?_
   ·rcases h4 with⟨_,h4⟩|⟨h4,_⟩
    ·have hk2:s2.k=s1.k:=hk _ _ _ _ h3;refine qGY hc qtf okP h4 F2 (fun hz3 a3 w3 I3 m3 f3 F3=>?_) fun hz3 e a3 w3 E3=>?_
     ·rw[hk1]at f2;rw[hk2,hk1]at f3;have E:Eng.Ends w I m s.hp s.k 38 .normal s' .normal a3 w3:=⟨I3,m3,(f1.trans f2).trans f3,rfl,F3⟩;subst hz3;exact hQ .normal a3 w3 E
     ·rw[hk2,hk1]at E3;rw[hk1]at f2;exact q hz3 (E3.after (f1.trans f2))
    ·exact absurd hz h4
   ·rcases h4 with⟨h4,_⟩|⟨_,rfl,rfl⟩
    ·exact absurd h4 hz
    ·rw[hk1]at E2;exact q hz (E2.after f1)
  ·exact absurd hy h2
 ·rcases h2 with⟨h2,_⟩|⟨_,rfl,rfl⟩
  ·exact absurd h2 hy
  ·exact q hy E1
theorem q29{k:Nat}{w w':World}{I I':Imm}{m m' m1:Names}{h h' h1:Eng.Heap}(f:Fr k w w' I I' m m' h h')(hn:∀i L,i<k->m1 i=some L->m i=some L)(ho:∀b,Owns m h b->Owns m1 h1 b):Fr k w w' I I' m1 m' h1 h':=
 ⟨f.stays,f.imm,fun i L hi hL=>f.names i L hi (hn i L hi hL),fun b hb hno=>f.frame b hb fun h=>hno (ho b h),fun b o hi=>(f.newI b o hi).imp id fun h=>h.imp (ho b) id,fun b hb=>(f.owns b hb).imp (ho b) id⟩
theorem qKV(p q r:Addr)(w:World) :
  CallsD Tryz.prog 208 #[.pointer (some p),.pointer (some q),.pointer (some r)] .returning w fun e u' w'=>e= .returned (.tuple #[])/\u'= .returning/\w'=w:=by
 refine callsD_of_wpS Tryz.func208 rfl fun c₀ cs hu=>?_
 apply wpS_seq;apply wpS_region;simp[wpOpsS,go_sem,recoverD,hu,Tryz.ntmps208,Exit.thenS];apply wpS_seq;apply wpS_region;simp[wpOpsS,go_sem,Exit.thenS];refine wpS_cond (t:=false) (by simp[Act.eval,Array.replicate]) ?_;simp only[jAn,jBg];refine wpS_of_wp (wp_skip ?_);cases c₀;simp_all[bodyPostS,results,Tryz.results208]
theorem zaJ{w:World}{I:Imm}{m m':Names}{h h':Eng.Heap}(H:HeapAt w I m h)(hs:∀i b,qak h' i=some b->qak h i=some b/\m' i=m i/\ ∃cs fz,b= .box cs fz/\idsA.idsL cs= []):HeapAt w I m' h':=by
 have one:∀(L:Eng.Loc) (cs:List AV) (fz:Bool),idsA.idsL cs= []->BlkAt w I m L (.box cs fz)->BlkAt w I m' L (.box cs fz):=by
  intro L cs fz hc hb;obtain⟨h1,h2,C,e,h3,h4,h5,h6⟩:=hb;refine⟨h1,h2,C,e,h3,h4,fun i c hi=>?_,h6⟩;obtain⟨v,hv,hr⟩:=h5 i c hi;refine⟨v,hv,qjJ c ?_ hr⟩;have:∀(l:List AV) (i:Nat) (c:AV),idsA.idsL l= []->l[i]? = some c->idsA c= []:=by
   intro l
   induction l with
   |nil=>intro i c _ h;simp at h
   |cons x l ih=>
    intro i c hl h;simp only[idsA.idsL,List.append_eq_nil_iff]at hl;cases i with
    |zero=>simp at h;subst h;exact hl.1
    |succ i=>exact ih i c hl.2 (by simpa using h)
  exact this cs i c hc hi
 refine⟨fun i b hi=>?_,fun i j a b L L' hi hj=>?_,H.old,H.glob⟩
 ·obtain⟨h1,h2,cs,fz,rfl,hc⟩:=hs i b hi;obtain⟨L,hL,hat⟩:=H.at_ i _ h1;exact⟨L,by rw[h2];exact hL,one L cs fz hc hat⟩
 ·obtain⟨h1,h2,_⟩:=hs i a hi;obtain⟨h3,h4,_⟩:=hs j b hj;rw[h2,h4];exact H.apart i j a b L L' h1 h3
theorem qD9{w:World}{I:Imm}{m:Names}{q0:Nat}{es0:List AV}{k0 k:Int}(H:HeapAt w I m (hpP q0 es0 k0)){v0 v1 v2:Value}(r0:Rel w I (.ref 0 0 0) m v0)(r1:Rel w I (.ref 16 0 0) m v1)(r2:Rel w I (.ref 32 0 0) m v2) :
  CallsD Tryz.prog 208 #[v0,v1,v2] (.panicking [{ v:=.iface 202 (.agg #[.int .i64 k]),recovered:=false }]) w fun e u' w'=>e= .returned (.tuple #[])/\u'= .panicking [{ v:=.iface 202 (.agg #[.int .i64 k]),recovered:=true }] /\
   ∃I' m',Fr 64 w w' I I' m m' (hpP q0 es0 k0) (hpC k)/\HeapAt w' I' m' (hpC k)/\ ∀i,800<=i->m' i=none:=by
 let mM:Names:=fun i=>if i<64 then m i else none
 have HM:HeapAt w I mM hpM:=zaJ H fun i b hi=>by
  simp only[hpM,qak]at hi;split at hi
  ·rename_i e;subst e;cases hi;exact⟨rfl,rfl,_,_,rfl,rfl⟩
  ·split at hi
   ·rename_i e;subst e;cases hi;exact⟨rfl,rfl,_,_,rfl,rfl⟩
   ·split at hi
    ·rename_i e;subst e;cases hi;exact⟨rfl,rfl,_,_,rfl,rfl⟩
    ·cases hi
 have hw:∀b,Owns mM hpM b->Owns m (hpP q0 es0 k0) b:=by
  rintro b ⟨i,x,L,hi,hL,hb⟩;simp only[hpM,qak]at hi;have hm:∀j,j<64->mM j=m j:=fun j hj=>by simp[mM,hj]
  split at hi
  ·rename_i e;subst e;exact⟨32,_,L,rfl,by rw[<-hm 32 (by omega)];exact hL,hb⟩
  ·split at hi
   ·rename_i e;subst e;exact⟨16,_,L,rfl,by rw[<-hm 16 (by omega)];exact hL,hb⟩
   ·split at hi
    ·rename_i e;subst e;exact⟨0,_,L,rfl,by rw[<-hm 0 (by omega)];exact hL,hb⟩
    ·cases hi
 obtain⟨x,s',hx,hk⟩:=qb9 (call:=fun _ _ _=>none) (loop:=fun _ _ _=>none) (fun R=>qU0) (qcX _) (zle k);simp only[kC,jA7,jAd]at hk;obtain⟨hk1,hk2,hk3,_⟩:=hk;have hxn:=qTK.1 hk1;subst hxn;have hcN:qdF Tryz.prog (fun _ _ _=>none):=fun _ _ _ _ _ h=>by cases h
 refine callsD_of_wpS Tryz.func208 zaO fun c₀ cs hu=>?_
 apply wpS_seq;apply wpS_region;simp[wpOpsS,go_sem,recoverD,hu,Tryz.ntmps208,Exit.thenS];refine wpS_of_wp ?_;refine qcH hcN qtf cC [] [] (icO 20 cC) okC _ _ _ hx w I mM _ _ ⟨?_,HM,?_,?_,rfl⟩ ?_
 ·intro t;have e0:∀i,i<64->mM i=m i:=fun i hi=>by simp[mM,hi]
  have g:∀(i:Nat) (v:Value),i<64->Rel w I (.ref i 0 0) m v->Rel w I (.ref i 0 0) mM v:=fun i v hi h=>by
   simp only[Rel]at h ⊢;rw[e0 i hi];exact h
  rcases qmZ [(0,.ref 0 0 0),(1,.ref 16 0 0),(2,.ref 32 0 0),(3,.iface 202 (.agg [.int .i64 k]))] t with⟨p,hp,rfl,h2⟩|h2
  ·rw[h2];simp only[jAc,jAp,jBp]at hp;rcases hp with rfl|rfl|rfl|rfl
   ·refine(?_:Rel w I (.ref 0 0 0) mM v0) |> fun h=>by simpa using h
    exact g 0 _ (by omega) r0
   ·refine(?_:Rel w I (.ref 16 0 0) mM v1) |> fun h=>by simpa using h
    exact g 16 _ (by omega) r1
   ·refine(?_:Rel w I (.ref 32 0 0) mM v2) |> fun h=>by simpa using h
    exact g 32 _ (by omega) r2
   ·have h:Rel w I (.iface 202 (.agg [.int .i64 k])) mM (.iface 202 (.agg #[.int .i64 k])):=by
     simp only[Rel,qaQ];exact⟨_,rfl,_,rfl,_,_,rfl,rfl,rfl⟩
    simpa using h
  ·rw[h2];trivial
 ·intro i hi;have:¬i<64:=by simp only at hi;omega
  simp[mM,this]
 ·simp
 ·rintro e a' w' ⟨I',m',f,rfl,F'⟩;rw[hk2]at f;have F2:=F'.hp;rw[hk2]at F2;refine⟨F'.df,.panicking [{ v:=.iface 202 (.agg #[.int .i64 k]),recovered:=true }],by cases c₀;simp_all,.tuple #[],by simp[results,Tryz.results208],rfl,rfl,I',m',q29 f (fun i L hi hL=>by simp[mM,hi];exact hL) hw,F2,by have:=F'.nx;rw[hk3]at this;exact this⟩
theorem finish{w:World}{I:Imm}{m:Names}(hm:∀i,m i=none){w2:World}{I2:Imm}{m2:Names}{hp:Eng.Heap}{k:Nat}(f:Fr k w w2 I I2 m m2 [] hp)(H2:HeapAt w2 I2 m2 hp){u:Value}{v:AV}(hu:Rel w2 I2 v m2 u) :
  qKN w I m [] (.ret v) [] (.returned u) w2:=
 ⟨I2,m2,Aft.mk f.stays f.imm (fun i L hL=>by rw[hm i]at hL;cases hL) (H2.sub' (fun i b hi=>by cases(show none=some b from hi))) f.frame f.newI (fun b h=>by obtain⟨i,x,L,hi,_⟩:=h;cases(show none=some x from hi)),u,rfl,hu⟩
theorem qZH{w:World}{I:Imm}{m:Names}{tm:Env}{hp:Eng.Heap}{nx k:Nat}{a:Act}(T:qle w I m tm a)(H:HeapAt w I m hp)(hn:∀i,nx<=i->m i=none){vs:List AV}(hv:qjL ⟨tm,hp,nx,k⟩ zks=some vs) :
  ∃u,(results Tryz.f157 a.tmps).run Tryz.prog w= .ok u w/\Rel w I (Eng.one vs) m u:=
 qiA (a:={ tmps:=a.tmps,defers:=[] }) (s:=⟨tm,hp,nx,k⟩) (n:=0) (nx:=nx) ⟨T,H,hn,jBa _,rfl⟩ zql hv
theorem zeg{w:World}{I:Imm}{m:Names}{u:Value}{k f:Int}(h:Rel w I (.tup [exO,.int .i64 k,.int .i64 f]) m u):Rel w I (.tup [exZ,.int .i64 k,.int .i64 f]) m u:=by
 simp only[exO,exZ,Rel,qaQ,qte]at h ⊢;obtain⟨vs,rfl,_,_,rfl,⟨ws,rfl,_,_,rfl,rfl,_,_,rfl,rfl,_,_,rfl,rfl,_,_,rfl,rfl,rfl⟩,_,_,rfl,rfl,_,_,rfl,rfl,rfl⟩:=h;exact⟨_,rfl,_,_,rfl,⟨_,rfl,_,_,rfl,rfl,_,_,rfl,rfl,_,_,rfl,rfl,_,_,rfl,⟨_,_,rfl,by simp,by simp,by simp⟩,rfl⟩,_,_,rfl,rfl,_,_,rfl,rfl,rfl⟩
def zsW:Array Oper:=#[{ dst:=some 23,op:=.makeFunc (.func 208) #[] #[.tmp 4,.tmp 5,.tmp 6],type:=1,pos := "expr.go:274", after:=#[],guard:=none },
  { dst:=none,op:=.defer { callee:=.value (.tmp 23),args:=#[],argTypes:=#[] },type:=0,pos := "expr.go:274", after:=#[{ on:=0,ground:=.data }],guard:=none }]
theorem znM:cD= .region 4 zsW false:=by kernel_rfl
theorem q3M:qP6 Tryz.prog 157 (qnW 209 56 202):=by
 intro call hc args h r h' hg w I m vs H hm hr;have hg:qJ9 209 56 202 call args h=some (r,h'):=hg;obtain⟨es,k,rfl,rfl,hcase⟩:=qmv hg;refine .inl ⟨⟨_,Tryz.func157,by kernel_rfl,by kernel_rfl⟩,?_⟩;refine calls_of_wp_defers Tryz.func157 zaN ?_;have hrl:=qa7 hr;have hm':∀i,m i=none:=fun i=>hm i (jBa _)
 have F0:Fits w I m [(0,.view 3 es),(1,.int .i64 k)] [] 0 38 { tmps:=vs.toArray++Array.replicate (Tryz.f157.ntmps-vs.toArray.size) undef,defers:=[] }:=by
  refine⟨fun t=>?_,H,fun i _=>hm' i,?_,rfl⟩
  ·show Rel w I (qbV (params 0 [.view 3 es,.int .i64 k]) t) m _;rw[qlZ];simp only[jBa,jB2,Nat.sub_zero];cases hq:([AV.view 3 es,.int .i64 k]:List AV)[t]? with
   |none=>simp[Rel]
   |some x=>
    obtain⟨v,hv,hrel⟩:=qcr hr t x hq;have hlt:t<vs.length:=(jAg.1 hv).1;have:(vs.toArray++Array.replicate (Tryz.f157.ntmps-vs.toArray.size) undef).getD t undef=v:=by
     rw[jAq,Array.getElem?_append_left (by simpa using hlt)];simp[hv]
    rw[this];exact hrel
  ·simp only[Array.size_append,jBw,Array.size_replicate,Tryz.ntmps157];omega
 generalize ({ tmps:=vs.toArray++Array.replicate (Tryz.f157.ntmps-vs.toArray.size) undef,defers:=[] }:Act)=a0 at F0 ⊢;have hL0:ql3 Tryz.prog (fun _ _ _=>none):=qtf;by_cases hk:k<0\/(es.length:Int)<k
 ·
  have hr0:(r,h')=qXj exZ k 2:=by
   rcases hcase with⟨_,h⟩|⟨h,_⟩
   ·exact h
   ·exact absurd hk h
  cases hr0;have hV:V0 es k=some true:=by
   unfold V0;by_cases h0:k<0
   ·rw[jA8 h0];rfl
   ·rw[jAe h0];have:k>(es.length:Int):=by omega
    rw[jA8 this];rfl
  have ht:=qKF es k;rw[hV]at ht;obtain⟨x,s',hx,hkk⟩:=qb9 (call:=call) (loop:=fun _ _ _=>none) (fun R=>qU0) (qcX _) ht;simp only[kA,jA7,jAd]at hkk;obtain⟨q1,q2,q3,q4,q5,q6⟩:=hkk;have hxr:=qTK.2 q1;subst hxr;refine q9U hc hx F0 fun e a' w' E=>?_
  refine qR1 E (by simp) ?_;obtain⟨I',m',f,rfl,F'⟩:=E;obtain⟨u,hu,hru⟩:=qZH (k:=s'.k) F'.tm F'.hp F'.nx q2;have hd:a'.defers= []:=F'.df;simp only[bodyPostD,hd,Leaves];exact⟨u,hu,finish hm' f F'.hp (zeg hru)⟩
 ·have hcase:_:=hcase.resolve_left fun h=>hk h.1
  replace hcase:=hcase.2
  have hV:V0 es k=some false:=by
   unfold V0;rw[jAe (fun h=>hk (.inl h)),jAe (fun h=>hk (.inr h))];rfl
  have ht:=qKF es k;rw[hV]at ht;obtain⟨x,s',hx,hkk⟩:=qb9 (call:=call) (loop:=fun _ _ _=>none) (fun R=>qU0) (qcX _) ht;simp only[kA,jA7,jAd,jC5,and_true]at hkk;obtain⟨q1,q2,⟨t0,t1,t4,t5,t6,t7⟩,q4,q5,q6⟩:=hkk;have hxr:=qTK.1 q1;subst hxr;refine q9U hc hx F0 fun e a1 w1 E=>?_
  obtain⟨I1,m1,f1,rfl,F1⟩:=E;show(cD.seq cB).wp _ _ _ _;have T1:qle w1 I1 m1 (stB es k).tm a1:=q0f F1.tm fun p hp=>by
   simp only[stB,jAc,jAp,jBp]at hp;rcases hp with rfl|rfl|rfl|rfl|rfl|rfl<;>assumption
  have H1:HeapAt w1 I1 m1 (stB es k).hp:=by have:=F1.hp;rw[q4]at this;exact this
  have N1:∀i,256<=i->m1 i=none:=by have:=F1.nx;rw[q5]at this;exact this
  have D1:a1.defers= []:=F1.df;have S1:38<=a1.tmps.size:=F1.sz;rw[q4]at f1;have r4:Rel w1 I1 (.ref 0 0 0) m1 (a1.tmps.getD 4 undef):=T1 4;have r5:Rel w1 I1 (.ref 16 0 0) m1 (a1.tmps.getD 5 undef):=T1 5;have r6:Rel w1 I1 (.ref 32 0 0) m1 (a1.tmps.getD 6 undef):=T1 6;rw[znM];apply wp_seq;apply wp_region;obtain⟨L4,m4,v4⟩:∃L,m1 0=some L/\a1.tmps.getD 4 undef= .pointer (some (ad L.blk (L.base+0*L.sz+0))):=id r4;obtain⟨L5,m5,v5⟩:∃L,m1 16=some L/\a1.tmps.getD 5 undef= .pointer (some (ad L.blk (L.base+0*L.sz+0))):=id r5;obtain⟨L6,m6,v6⟩:∃L,m1 32=some L/\a1.tmps.getD 6 undef= .pointer (some (ad L.blk (L.base+0*L.sz+0))):=id r6;generalize ad L4.blk (L4.base+0*L4.sz+0)=A4 at v4;generalize ad L5.blk (L5.base+0*L5.sz+0)=A5 at v5;generalize ad L6.blk (L6.base+0*L6.sz+0)=A6 at v6;have h23:23<a1.tmps.size:=by omega
  rw[jAq]at v4 v5 v6;simp only[zsW,jBw,jA0,jA4,jCl,Nat.reduceAdd];simp[wpOps,go_sem,List.range,List.range.loop,h23,v4,v5,v6,D1];refine .inl (.inl ?_)
  let d:Deferred:={ target:=.fn (.func 208) #[.pointer (some A4),.pointer (some A5),.pointer (some A6)],args:=#[] }
  let _inst:Dfs:=⟨[d]⟩
  have hT2:∀v,qle w1 I1 m1 (stB es k).tm { tmps:=a1.tmps.setIfInBounds 23 v,defers:=[d] }:=by
   intro v t;rcases qmZ (stB es k).tm t with⟨p,hp,hpt,h2⟩|h2
   ·have:=T1 t;have hne:23≠t:=by
     simp only[stB,jAc,jAp,jBp]at hp;rcases hp with rfl|rfl|rfl|rfl|rfl|rfl<;>simp only at hpt<;>omega
    show Rel w1 I1 _ m1 ((a1.tmps.setIfInBounds 23 v).getD t undef);rw[jAq,Array.getElem?_setIfInBounds_ne hne,<-jAq];exact this
   ·rw[h2];trivial
  have hF2:∀v,Fits w1 I1 m1 (stB es k).tm (stB es k).hp (stB es k).nx 38 { tmps:=a1.tmps.setIfInBounds 23 v,defers:=[d] }:=fun v=>⟨hT2 v,H1,N1,by simpa using S1,rfl⟩
  have r4':Rel w1 I1 (.ref 0 0 0) m1 (.pointer (some A4)):=by rw[<-v4,<-jAq];exact r4
  have r5':Rel w1 I1 (.ref 16 0 0) m1 (.pointer (some A5)):=by rw[<-v5,<-jAq];exact r5
  have r6':Rel w1 I1 (.ref 32 0 0) m1 (.pointer (some A6)):=by rw[<-v6,<-jAq];exact r6
  have hi:∀w:World,(invoke (.fn (.func 208) #[.pointer (some A4),.pointer (some A5),.pointer (some A6)]) #[]).run Tryz.prog w= .ok (.enter 208 #[.pointer (some A4),.pointer (some A5),.pointer (some A6)]) w:=fun w=>by simp[go_sem]
  rcases hcase with⟨o,n,st,q,xs,q0,es0,k',f,c1,c2,hr0⟩|⟨k',q0,es0,k0,c1,hr0⟩
  ·let b1:List AV->Int->Bool:=fun es' k''=>@decide (es'=es/\k''=k) (Classical.propDecidable _)
   let b2:AV->Bool:=fun v=>@decide (v= .agg [.int .i64 o,.int .i64 n,.str st,.view q xs]) (Classical.propDecidable _)
   have hb1:b1 es k=true:=@jA8 _ (Classical.propDecidable _) ⟨rfl,rfl⟩;have hb2:b2 (.agg [.int .i64 o,.int .i64 n,.str st,.view q xs])=true:=@jA8 _ (Classical.propDecidable _) rfl;have tB:=zld es k b1 b2 o n st q xs q0 es0 k' f;rw[hb1,hb2]at tB;have hcK:=zhR (call:=call) (b1:=b1) (r1:=.ret (.agg [.int .i64 o,.int .i64 n,.str st,.view q xs])) (h1:=[(0,.box [.view q0 es0,.int .i64 k'] false)]) (b2:=b2) (r2:=f)
    (fun es' k'' h=>by
     obtain⟨rfl,rfl⟩:=@jBd _ (Classical.propDecidable _) h;exact c1) (fun v h=>by
     obtain rfl:=@jBd _ (Classical.propDecidable _) h;exact c2)
   have fin:∀(x:X) (s2:St),qbY IP call (fun _ _ _=>none) (icO 38 cB) (stB es k)=some (x,s2)->x= .ret-> ∀(e:AV) (k2 f2:Int),qjL s2 zks=some [e,.int .i64 k2,.int .i64 f2] ->
     (∀{w:World} {I:Imm} {m:Names} {u:Value},Rel w I (.tup [e,.int .i64 k2,.int .i64 f2]) m u-> ∃v,r= .ret v/\h'= []/\Rel w I v m u)-> ∀v,Code.wp Tryz.prog cB (bodyPostD Tryz.prog Tryz.f157 (qKN w I m [] r h')) { tmps:=a1.tmps.setIfInBounds 23 v,defers:=[d] } w1:=by
    intro x s2 hx2 hxr e k2 f2 hres hrel v;subst hxr;refine qcH hc qtf cB [] [] (icO 38 cB) okB _ _ _ hx2 w1 I1 m1 _ _ (hF2 v) fun e a3 w3 E=>?_
    obtain⟨I3,m3,f3,rfl,F3⟩:=E;have hd3:a3.defers= [d]:=F3.df;obtain⟨u,hu,hru⟩:=qZH (k:=s2.k) F3.tm F3.hp F3.nx hres;simp only[bodyPostD,hd3];refine leaves_cons (by simp) (hi w3) ?_;refine(qKV _ _ _ w3).mono ?_;rintro e u' w4 ⟨rfl,rfl,rfl⟩;simp only[settle,Leaves];obtain⟨v',rfl,rfl,hv'⟩:=hrel hru;exact⟨u,hu,finish hm' (f1.trans f3) F3.hp hv'⟩
   by_cases hf:f=0
   ·subst hf;rw[jAr rfl]at hr0;cases hr0;obtain⟨x,s2,hx2,hk2⟩:=qb9 (call:=call) (loop:=fun _ _ _=>none) (fun R=>hcK R) (qcX _) tB;simp only[kB,jA7,jAd]at hk2;obtain⟨p1,p2,p3,_⟩:=hk2;exact fin x s2 hx2 (qTK.2 p1) _ _ _ p3 (fun h=>⟨_,rfl,rfl,h⟩) _
   ·rw[jAm hf]at hr0;cases hr0;have hfb:(f != 0)=true:=by simpa using hf
    rw[hfb]at tB;obtain⟨x,s2,hx2,hk2⟩:=qb9 (call:=call) (loop:=fun _ _ _=>none) (fun R=>hcK R) (qcX _) tB;simp only[kB,jA7,jAd]at hk2;obtain⟨p1,p2,p3,_⟩:=hk2;exact fin x s2 hx2 (qTK.2 p1) _ _ _ p3 (fun h=>⟨_,rfl,rfl,zeg h⟩) _
  ·cases hr0
   let b1:List AV->Int->Bool:=fun es' k''=>@decide (es'=es/\k''=k) (Classical.propDecidable _)
   have hb1:b1 es k=true:=@jA8 _ (Classical.propDecidable _) ⟨rfl,rfl⟩;have tB:=zlf es k b1 (fun _=>false) q0 es0 k' k0 0;rw[hb1]at tB;have hcK:=zhR (call:=call) (b1:=b1) (r1:=.pan (.iface 202 (.agg [.int .i64 k']))) (h1:=[(0,.box [.view q0 es0,.int .i64 k0] false)]) (b2:=fun _=>false) (r2:=0)
    (fun es' k'' h=>by
     obtain⟨rfl,rfl⟩:=@jBd _ (Classical.propDecidable _) h;exact c1) (fun v h=>by cases h)
   obtain⟨x,s2,hx2,hk2⟩:=qb9 (call:=call) (loop:=fun _ _ _=>none) (fun R=>hcK R) (qcX _) tB;simp only[kB,jA7,jAd,jC5,and_true]at hk2;obtain⟨p1,p2,p3,⟨g4,g5,g6⟩,p5,p6,p7⟩:=hk2;cases x with
   |normal=>cases p1
   |ret=>cases p1
   |exit j=>cases p1
   |pan v=>
    simp only at p2;subst p2;refine qcH hc qtf cB [] [] (icO 38 cB) okB _ _ _ hx2 w1 I1 m1 _ _ (hF2 _) fun e a3 w3 E=>?_
    obtain⟨I3,m3,f3,hd3,H3,T3,u,rfl,hu⟩:=E;have hd3:a3.defers= [d]:=hd3;have hu':u= .iface 202 (.agg #[.int .i64 k']):=by
     simp only[Rel,qaQ]at hu;obtain⟨y,rfl,ws,rfl,_,_,rfl,rfl,rfl⟩:=hu;rfl
    subst hu';rw[p5]at H3 f3;have up:∀(i:Nat) (v:Value),i<64->Rel w1 I1 (.ref i 0 0) m1 v->Rel w3 I3 (.ref i 0 0) m3 v:=fun i v hi h=>by
     simp only[Rel]at h ⊢;obtain⟨L,hL,hv⟩:=h;exact⟨L,f3.names i L hi hL,hv⟩
    simp only[bodyPostD,hd3];refine leaves_cons (by simp) (hi w3) ?_;refine(qD9 (k:=k') H3 (up 0 _ (by omega) r4') (up 16 _ (by omega) r5') (up 32 _ (by omega) r6')).mono ?_;rintro e u' w4 ⟨rfl,rfl,I4,m4,f4,H4,N4⟩;have T4:qle w4 I4 m4 [(4,.ref 0 0 0),(5,.ref 16 0 0),(6,.ref 32 0 0)] a3:=by
     intro t;have up4:∀(i:Nat) (v:Value),i<64->Rel w3 I3 (.ref i 0 0) m3 v->Rel w4 I4 (.ref i 0 0) m4 v:=fun i v hi h=>by
      simp only[Rel]at h ⊢;obtain⟨L,hL,hv⟩:=h;exact⟨L,f4.names i L hi hL,hv⟩
     rcases qmZ [(4,.ref 0 0 0),(5,.ref 16 0 0),(6,.ref 32 0 0)] t with⟨p,hp,hpt,h2⟩|h2
     ·rw[h2];simp only[jAc,jAp,jBp]at hp;have:=T3 t;rcases hp with rfl|rfl|rfl<;>subst hpt
      ·rw[g4]at this;exact up4 0 _ (by omega) this
      ·rw[g5]at this;exact up4 16 _ (by omega) this
      ·rw[g6]at this;exact up4 32 _ (by omega) this
     ·rw[h2];trivial
    obtain⟨u,hu,hru⟩:=qZH (k:=64) (nx:=800) T4 H4 N4 (vs:=[exO,.int .i64 k',.int .i64 2]) (by kernel_rfl);simp only[settle,List.dropWhile,Leaves];exact⟨u,hu,finish hm' ((f1.trans f3).trans f4) H4 (zeg hru)⟩
end Go.Proofs.H16

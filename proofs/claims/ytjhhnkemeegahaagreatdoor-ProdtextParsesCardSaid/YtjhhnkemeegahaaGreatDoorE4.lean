/- A machine of plain values, and that what it says holds of the program. -/
import Derived.Test.YtjhhnkemeegahaaGreatDoorE3
import Derived.Below
import Derived.Shelf.Strings.Fields
import Derived.Shelf.Strings.Count
import Derived.Shelf.Strings.Search1
import Derived.Shelf.Strconv.ParseIntPublic10
import Derived.Shelf.Strconv.AtoiAll
import Derived.Shelf.Strconv.Itoa4
import Derived.Stop.LaidErr
import Derived.Lib.LaidTab
import Derived.Shelf.Strings.Trim
import Derived.Shelf.Strings.OnBuilder
import Derived.Shelf.Strings.IndexAnyAll
set_option linter.all false
namespace Go.Eng
set_option linter.unusedSectionVars false
variable [Globs]
theorem qlW{w w':World}{I:Imm}(ho:∀b o,I b o->b<w.heap.size)(hb:RowKit.Below w.heap.size w w'):Stays w w' I where
 size:=hb.size
 row:=fun b C e h=>⟨C,by rw[hb.block b (jBf.1 h).1];exact h,rfl⟩
 imm:=fun b o hi=>by simp only[World.cell?,ad];rw[hb.block b (ho b o hi)]
 out:=⟨hb.os,hb.output,hb.tape⟩
theorem qrr{w w':World}{I I':Imm}{m:Names}{h:Heap}(H:HeapAt w I m h)(hb:RowKit.Below w.heap.size w w')(hI:∀b o,I b o->I' b o)(hN:∀b o,I' b o->I b o\/w.heap.size<=b/\b<w'.heap.size):Aft w w' I I' m m h h where
 stays:=qlW H.old hb
 imm:=hI
 names:=fun _ _ h=>h
 heap:={
  at_:=fun i b hi=>by
   obtain⟨L,hL,hat⟩:=H.at_ i b hi;refine⟨L,hL,hat.keep (qlW H.old hb) hI (fun _ _ h=>h) (hb.block _ hat.lt) fun o ho=>?_⟩;rcases hN _ _ ho with h|h
   ·exact h
   ·have:=hat.lt;omega
  apart:=H.apart
  old:=fun b o hi=>by
   rcases hN b o hi with h|h
   ·exact jBz (H.old b o h) hb.size
   ·exact h.2
  glob:=H.glob.mono (qlW H.old hb) hI }
 frame:=fun b hlt _=>hb.block b hlt
 newI:=fun b o hi=>(hN b o hi).imp id fun h=>.inr h.1
 owns:=fun _ h=>.inl h
theorem qb5{w w':World}{I:Imm}{m:Names}{h:Heap}(H:HeapAt w I m h)(hb:RowKit.Below w.heap.size w w'){v:AV}{u:Value}(hu:Rel w' I v m u):qKN w I m h (.ret v) h (.returned u) w':=
 ⟨I,m,qrr H hb (fun _ _ h=>h) fun _ _ h=>.inl h,u,rfl,hu⟩
theorem qHG:∀l:List (List UInt8),flat (l.map .str)=l.map .str
 | []=>rfl
 |s::l=>by
  have:=qHG l;simp only[flat,jAs,List.flatMap_cons,qai]at this ⊢;rw[this];rfl
theorem qXo{w:World}{I:Imm}{m:Names}{h:Heap}(H:HeapAt w I m h)(l:List (List UInt8))(e:TypeId) :
  qKN w I m h (.ret (.view 1 (l.map .str))) h (.returned (.slice (some ⟨w.heap.size,0,none⟩) l.length l.length)) (w.alloc (.cells (l.map fun s=>Value.string ⟨s.toArray⟩).toArray e)):=by
 refine⟨fun b o=>I b o\/b=w.heap.size,m,qrr H ((RowKit.Below.refl _ w).alloc (jAj _) _) (fun _ _=>.inl) (fun b o hi=>hi.imp id fun h=>by simp;omega),_,rfl,?_⟩;simp only[Rel];refine⟨some (ad w.heap.size 0),l.length,by simp[ad],by simp,.inr ⟨w.heap.size,0,rfl,?_⟩,by simp⟩;rw[qko];refine⟨fun x hx=>?_,fun i c hc=>⟨.inr rfl,?_⟩⟩
 ·obtain⟨s,_,rfl⟩:=jCd.1 hx;rfl
 ·rw[qHG,List.getElem?_map,jA3]at hc;obtain⟨s,hs,rfl⟩:=hc;refine⟨rfl,.string ⟨s.toArray⟩,?_,by simp[Rel]⟩;rw[qft (heap_alloc_new w _)];simp[hs]
def gOf(E:Ent):List AV->Heap->Option (Res×Heap):=fun a h=>((E a h).find? fun p=>p.1).map fun p=>p.2
theorem qjs{IP:Prog}{f:Nat}{E:Ent}(hF:IP.fn f=none)(hS:IP.spec f=some (gOf E))(h1:∀a h p q,p∈E a h->q∈E a h->p.1=true->q.1=true->p.2=q.2):Snd IP f E:=by
 intro a h r h' hm;refine qvq hF hS ?_;unfold gOf;cases hq:(E a h).find? fun p=>p.1 with
 |none=>exact absurd rfl (List.find?_eq_none.1 hq _ hm)
 |some q=>
  have hp:=jC4 hq;rw[jBh,h1 a h q _ (jB4 hq) hm hp rfl]
theorem qd5{P:Program}{f:Nat}{E:Ent}(hE:qbP P f)(h1:∀a h r h',(true,r,h')∈E a h-> ∀(w:World) (I:Imm) (m:Names) (vs:List Value),HeapAt w I m h->qaQ w I a m vs->Calls P f vs.toArray w (qKN w I m h r h')):qeA P f (gOf E):=by
 intro a h r h' hg;unfold gOf at hg;rw[jA3]at hg;obtain⟨⟨b,q⟩,hq,rfl⟩:=hg;have hb:=jC4 hq;have hm:=jB4 hq;simp only at hb;subst hb;exact fun w I m vs H _ hr=>.inl ⟨hE,h1 a h r h' hm w I m vs H hr⟩
def qlh(sz bytes:Nat):Ent:=fun a h=>match a,h with
 | [.view sz' es],[]=>if sz'=sz then[(decide (es.length*bytes<=lim),.ret (.view sz es),[])]else[]
 |_,_=>[]
theorem qEa(sz bytes:Nat):∀a h,(qlh sz bytes a h).length<=1:=by
 intro a h;unfold qlh;split
 ·split<;>simp
 ·simp
def zkc:Prog:={ fn:=fun _=>none,mv:=fun _=>false,fresh:=fun _=>false }
theorem zfu{P:Program}{f:Nat}{sz bytes:Nat}(hS:qeA P f (qAW sz bytes)):qeA P f (gOf (qlh sz bytes)):=by
 intro args h r h' hg;unfold gOf qlh at hg;split at hg
 ·rename_i sz' es;split at hg
  ·rename_i hsz;subst hsz;rw[List.find?_cons]at hg;cases hb:decide (es.length*bytes<=lim)
   ·simp[hb]at hg
   ·simp only[hb,jBh,jA7,jAd]at hg;obtain⟨rfl,rfl⟩:=hg;have hb':=jBd hb;intro w I m vs H hm hr;by_cases h0:es.length=0
    ·have hes:es= []:=jAy.1 h0;subst hes;refine(hS [.view sz' []] [] (.ret (.nils ⟨sz',.any⟩)) [] (by simp[qAW]) w I m vs H hm hr).mono ?_;rintro e w' ⟨I',m',ha,u,he,hu⟩;exact⟨I',m',ha,u,he,qmC _ hu⟩
    ·refine(hS [.view sz' es] [] (.ret (.own 0 0 none)) [(0,.arr sz' es false)] (by simp[qAW,h0,hb']) w I m vs H hm hr).mono ?_;rintro e w' ⟨I',m',ha,u,he,hu⟩;have hl:qva zkc 0 0 (.own 0 0 none) [(0,.arr sz' es false)]=some (.view sz' es,[]):=rfl;obtain⟨I'',m'',H'',F'',hu''⟩:=qs7 ha.heap hu hl;have F:=(ha.fr 0).trans F'';refine⟨I'',m'',⟨F.stays,F.imm,fun i L hL=>?_,H'',F.frame,F.newI,F.owns⟩,u,he,hu''⟩;rw[hm i (jBa i)]at hL;cases hL
  ·cases hg
 ·cases hg
end Go.Eng
namespace Go.Eng
open Go.Shelf Go.Proofs
set_option linter.unusedSectionVars false
variable [Globs]
theorem qsK{w:World}{I:Imm}(hg:GlobAt w I){g:Nat}{cs:List AV}(h:Globs.g g=some cs){i:Nat}{c:AV}(hc:cs[i]? = some c):∃v,w.cell? (ad g i)=some v/\Rel w I c m0 v:=by
 obtain⟨_,_,v,hv,hr⟩:=qcq.1 (hg g cs h).1 i c hc;rw[jCl]at hv;exact⟨v,hv,hr⟩
def qxu:List AV:=Lib.asciiSpaceTab.map (.int .u8)
def qlI:Ent:=fun a h=>match a,h with
 | [.str s],[]=>[(s.all (fun b=>decide (b.toNat<128))&&decide (s.length<4294967281),.ret (.view 1 ((Lib.fields s).map .str)),[])]
 |_,_=>[]
theorem qFh{P:Program}{ρ:Ren}(L:Lays.n157 P ρ)(hi9:(P.info? (ρ.t 9)).map (fun i=>(i.zero,i.size,i.bytes))=some (some (.string ByteArray.empty),1,16))(hE:qbP P (ρ.f 157))
  (hg:Globs.g (ρ.g 0)=some qxu):qeA P (ρ.f 157) (gOf qlI):=by
 refine qd5 hE fun a h r h' hm w I m vs H hr=>?_
 unfold qlI at hm;split at hm
 ·rename_i s;simp only[jAt,jAd,jBv (a:=true),jA1,jAb,jA6]at hm;obtain⟨⟨hs,hl⟩,rfl,rfl⟩:=hm;simp only[qaQ,Rel]at hr;obtain⟨_,_,rfl,rfl,rfl⟩:=hr;refine(Any.strings_Fields_core L hi9 ⟨s.toArray⟩ w (by simpa[ByteArray.size]using hl) (fun j b hb=>hs b (jAl (by simpa using hb))) fun c hc=>?_).mono ?_
  ·obtain⟨v,hv,hr⟩:=qsK H.glob hg (i:=c) (c:=.int .u8 (if Lib.isSp (UInt8.ofNat c)then 1 else 0)) (by
    unfold qxu;rw[List.getElem?_map,jAh (by rw[Lib.asciiSpaceTab_length];exact hc),jBh,<-Lib.asciiSpaceTab_at c hc];simp[Lib.asciiSpaceTab_length,hc])
   simp only[Rel]at hr;subst hr;exact hv
  ·rintro e w' ⟨rfl,rfl⟩;exact qXo H _ _
 ·cases hm
def qrA:Ent:=fun a h=>match a,h with
 | [.str s,.str [c]],[]=>[(true,.ret (.int .i64 (Lib.countByte s c)),[])]
 |_,_=>[]
theorem qK1{P:Program}{ρ:Ren}(L:Lays.n138 P ρ)(hE:qbP P (ρ.f 138)):qeA P (ρ.f 138) (gOf qrA):=by
 refine qd5 hE fun a h r h' hm w I m vs H hr=>?_
 unfold qrA at hm;split at hm
 ·rename_i s c;simp only[jAt,jAd,true_and]at hm;obtain⟨rfl,rfl⟩:=hm;simp only[qaQ,Rel]at hr;obtain⟨_,_,rfl,rfl,_,_,rfl,rfl,rfl⟩:=hr;refine(Any.strings_Count_one L ⟨s.toArray⟩ c w).mono ?_;rintro e w' ⟨rfl,rfl⟩;exact qb5 H (RowKit.Below.refl _ _) (by simp[Rel])
 ·cases hm
def zdz:Ent:=fun a h=>match a,h with
 | [.str s,.int .u8 c],[]=>[(true,.ret (.int .i64 (Lib.indexByte s c.toNat.toUInt8)),[])]
 |_,_=>[]
theorem q3g{P:Program}{ρ:Ren}(L:Lays.n217 P ρ)(hE:qbP P (ρ.f 217)):qeA P (ρ.f 217) (gOf zdz):=by
 refine qd5 hE fun a h r h' hm w I m vs H hr=>?_
 unfold zdz at hm;split at hm
 ·rename_i s c;simp only[jAt,jAd,true_and]at hm;obtain⟨rfl,rfl⟩:=hm;simp only[qaQ,Rel]at hr;obtain⟨_,_,rfl,rfl,_,_,rfl,rfl,rfl⟩:=hr;refine(Any.stringslite_IndexByte L ⟨s.toArray⟩ c w).mono ?_;rintro e w' ⟨rfl,rfl⟩;exact qb5 H (RowKit.Below.refl _ _) (by simp[Rel])
 ·cases hm
theorem qiu{E:Ent}(h:∀a h,(E a h).length<=1):∀a h p q,p∈E a h->q∈E a h->p.1=true->q.1=true->p.2=q.2:=by
 intro a b p q hp hq _ _;have:=h a b
 match E a b,this,hp,hq with
 | [x],_,hp,hq=>rw[jAt.1 hp,jAt.1 hq]
theorem qFg:∀a h,(qlI a h).length<=1:=by intro a h;unfold qlI;split<;>simp
theorem qK0:∀a h,(qrA a h).length<=1:=by intro a h;unfold qrA;split<;>simp
theorem q3f:∀a h,(zdz a h).length<=1:=by intro a h;unfold zdz;split<;>simp
end Go.Eng
namespace Go.Eng
open Go.Shelf Go.Proofs
set_option linter.unusedSectionVars false
variable [Globs]
def nOk:Lib.NumEnd Int->Bool
 | .ok _=>true
 |_=>false
def qNU:Lib.NumEnd Int->Int
 | .ok v=>v
 |_=>0
def qhw:Lib.NumEnd Int->Bool
 | .range=>true
 |_=>false
def qc7(x:Lib.NumEnd Int):Bool:=!nOk x&& !qhw x
def qR7(t:TypeId):AV:=.iface t (.ptr [])
def q2m(t:TypeId)(x:Lib.NumEnd Int)(sat:Int)(b:Bool):List (Bool×Res×Heap):=
 [(b&&nOk x,.ret (.tup [.int .i64 (qNU x),.nili]),[]),(b&&qhw x,.ret (.tup [.int .i64 sat,qR7 t]),[]),(b&&qc7 x,.ret (.tup [.int .i64 0,qR7 t]),[])]
def pOk(s:List UInt8):Bool:=decide (s.length<=281474976710656)
def qo2(t:TypeId):Ent:=fun a h=>match a,h with
 | [.str s,.int .i64 10,.int .i64 64],[]=>q2m t (Lib.parseIntB 64 s) (Lib.intSat 64 s) (pOk s)
 |_,_=>[]
def qAK(t:TypeId):Ent:=fun a h=>match a,h with
 | [.str s],[]=>q2m t (Lib.atoiAll s) (Lib.atoiSat s) (pOk s)
 |_,_=>[]
theorem qJ1{t:TypeId}{x:Lib.NumEnd Int}{sat:Int}{b:Bool}{p q:Bool×Res×Heap}(hp:p∈q2m t x sat b)(hq:q∈q2m t x sat b)(h1:p.1=true)(h2:q.1=true):p.2=q.2:=by
 cases x<;>cases b<;>simp[q2m,nOk,qhw,qc7]at hp hq<;>(rcases hp with rfl|rfl|rfl<;>rcases hq with rfl|rfl|rfl<;>simp_all)
theorem qNh{t:TypeId}:∀a h p q,p∈qo2 t a h->q∈qo2 t a h->p.1=true->q.1=true->p.2=q.2:=by
 intro a h p q hp hq;unfold qo2 at hp hq;split at hp
 ·exact qJ1 hp hq
 ·cases hp
theorem qRv{t:TypeId}:∀a h p q,p∈qAK t a h->q∈qAK t a h->p.1=true->q.1=true->p.2=q.2:=by
 intro a h p q hp hq;unfold qAK at hp hq;split at hp
 ·exact qJ1 hp hq
 ·cases hp
theorem qD1{w w':World}{e:TypeId}(h:w'=w\/ ∃t,w'=Lib.bytesWorld w e t):RowKit.Below w.heap.size w w':=by
 rcases h with rfl|⟨t,rfl⟩
 ·exact RowKit.Below.refl _ _
 ·exact Lib.bytesWorld_below _ _ _
theorem qZE{w:World}{I:Imm}{m:Names}{t N:Nat}:Rel w I (qR7 t) m (.iface t (.pointer (some ⟨N,0,none⟩))):=by
 simp only[qR7,Rel];exact⟨_,rfl,N,0,rfl,by simp[qCV]⟩
theorem qJ2{P:Program}{w:World}{I:Imm}{m:Names}{h:Heap}(H:HeapAt w I m h){f:Nat}{vs:Array Value}{t e:TypeId}{x:Lib.NumEnd Int}{sat:Int}{b:Bool}{r:Res}{h':Heap}(hh:h= [])(hm:(true,r,h')∈q2m t x sat b)
  (h1:b=true-> ∀v,x= .ok v->Calls P f vs w fun e' w'=>e'= .returned (.tuple #[.int .i64 v,.nilIface])/\(w'=w\/ ∃t,w'=Lib.bytesWorld w e t))
  (h2:b=true->x= .range->Calls P f vs w fun e' w'=>∃N,e'= .returned (.tuple #[.int .i64 sat,.iface t (.pointer (some ⟨N,0,none⟩))])/\RowKit.Below w.heap.size w w')
  (h3:b=true->qc7 x=true->Calls P f vs w fun e' w'=>∃N,e'= .returned (.tuple #[.int .i64 0,.iface t (.pointer (some ⟨N,0,none⟩))])/\RowKit.Below w.heap.size w w'):Calls P f vs w (qKN w I m h r h'):=by
 subst hh;have hb:b=true:=by
  cases b
  ·simp[q2m]at hm
  ·rfl
 subst hb;rcases x with v|_|_
 ·simp[q2m,nOk,qhw,qc7,qNU]at hm;obtain⟨rfl,rfl⟩:=hm;refine(h1 rfl v rfl).mono ?_;rintro e w' ⟨rfl,hw⟩;exact qb5 H (qD1 hw) (by simp only[Rel,qaQ];exact⟨_,rfl,_,_,rfl,rfl,_,_,rfl,rfl,rfl⟩)
 ·simp[q2m,nOk,qhw,qc7]at hm;obtain⟨rfl,rfl⟩:=hm;refine(h3 rfl rfl).mono ?_;rintro e w' ⟨N,rfl,hw⟩;refine qb5 H hw ?_;have:=qZE (w:=w') (I:=I) (m:=m) (t:=t) (N:=N);simp only[Rel,qaQ];exact⟨_,rfl,_,_,rfl,rfl,_,_,rfl,this,rfl⟩
 ·simp[q2m,nOk,qhw,qc7]at hm;obtain⟨rfl,rfl⟩:=hm;refine(h2 rfl rfl).mono ?_;rintro e w' ⟨N,rfl,hw⟩;refine qb5 H hw ?_;have:=qZE (w:=w') (I:=I) (m:=m) (t:=t) (N:=N);simp only[Rel,qaQ];exact⟨_,rfl,_,_,rfl,rfl,_,_,rfl,this,rfl⟩
theorem qpp{w:World}{I:Imm}(hg:GlobAt w I){g:Nat}{te:TypeId}{x:AV}(h:Globs.g g=some [.iface te x]):∃ev,w.cell? ⟨g,0,none⟩=some ev/\(ev= .nilIface\/ ∃te pe,ev= .iface te pe):=by
 obtain⟨v,hv,hr⟩:=qsK hg h (i:=0) (c:=.iface te x) rfl;simp only[Rel]at hr;obtain⟨y,rfl,_⟩:=hr;exact⟨_,hv,.inr ⟨_,_,rfl⟩⟩
theorem q7h{x y:Lib.NumEnd Int}(hx:qc7 x=true)(hy:qc7 y=true):x=y:=by
 rcases x with _|_|_<;>rcases y with _|_|_<;>first|rfl|(simp[qc7,nOk,qhw]at hx;done)|(simp[qc7,nOk,qhw]at hy;done)
theorem qNi{P:Program}{ρ:Ren}(L:LaysC.n174 P ρ)(hE:qbP P (ρ.f 174)){t1 t2:TypeId}{x1 x2:AV}(h1:Globs.g (ρ.g 15)=some [.iface t1 x1])(h2:Globs.g (ρ.g 16)=some [.iface t2 x2]):qeA P (ρ.f 174) (gOf (qo2 (ρ.t 168))):=by
 refine qd5 hE fun a h r h' hm w I m vs H hr=>?_
 unfold qo2 at hm;split at hm
 ·rename_i s;simp only[qaQ,Rel]at hr;obtain⟨_,_,rfl,rfl,_,_,rfl,rfl,_,_,rfl,rfl,rfl⟩:=hr;obtain⟨e1,c1,d1⟩:=qpp H.glob h1;obtain⟨e2,c2,d2⟩:=qpp H.glob h2;refine qJ2 (e:=ρ.t 5) H rfl hm (fun hb v hv=>?_) (fun hb hv=>?_) (fun hb hv=>?_)<;>simp only[pOk,jA6]at hb
  ·exact Any.strconv_ParseInt_10_at64_ok L ⟨s.toArray⟩ (by simp[ByteArray.size];omega) v (by simpa using hv) w
  ·refine(Any.strconv_ParseInt_10_at64_range L ⟨s.toArray⟩ (by simpa[ByteArray.size]using hb) (by simpa using hv) e2 w c2 d2).mono ?_;rintro e w' ⟨N,rfl,_,_,hw⟩;exact⟨N,rfl,hw⟩
  ·refine(Any.strconv_ParseInt_10_at64_syntax L ⟨s.toArray⟩ (by simpa[ByteArray.size]using hb) (q7h (by simpa using hv) rfl) e1 w c1 d1).mono ?_;rintro e w' ⟨N,rfl,_,_,hw⟩;exact⟨N,rfl,hw⟩
 ·cases hm
theorem qRw{P:Program}{ρ:Ren}(L:LaysC.n172 P ρ)(hE:qbP P (ρ.f 172)){t1 t2:TypeId}{x1 x2:AV}(h1:Globs.g (ρ.g 15)=some [.iface t1 x1])(h2:Globs.g (ρ.g 16)=some [.iface t2 x2]):qeA P (ρ.f 172) (gOf (qAK (ρ.t 168))):=by
 refine qd5 hE fun a h r h' hm w I m vs H hr=>?_
 unfold qAK at hm;split at hm
 ·rename_i s;simp only[qaQ,Rel]at hr;obtain⟨_,_,rfl,rfl,rfl⟩:=hr;obtain⟨e1,c1,d1⟩:=qpp H.glob h1;obtain⟨e2,c2,d2⟩:=qpp H.glob h2;refine qJ2 (e:=ρ.t 5) H rfl hm (fun hb v hv=>?_) (fun hb hv=>?_) (fun hb hv=>?_)<;>simp only[pOk,jA6]at hb
  ·exact Any.strconv_Atoi_ok L ⟨s.toArray⟩ (by simp[ByteArray.size];omega) v (by simpa using hv) w
  ·refine(Any.strconv_Atoi_range L ⟨s.toArray⟩ (by simpa[ByteArray.size]using hb) (by simpa using hv) e2 w c2 d2).mono ?_;rintro e w' ⟨N,rfl,_,_,hw⟩;exact⟨N,rfl,hw⟩
  ·refine(Any.strconv_Atoi_syntax L ⟨s.toArray⟩ (by simpa[ByteArray.size]using hb) (q7h (by simpa using hv) rfl) e1 w c1 d1).mono ?_;rintro e w' ⟨N,rfl,_,_,hw⟩;exact⟨N,rfl,hw⟩
 ·cases hm
theorem q3a{P:Program}{w:World}{I:Imm}(hg:GlobAt w I){g:Nat}{k:IntKind}{zs:List Int}{name:String}(hn:P.globalNamed name=some g)(h:Globs.g g=some (zs.map (.int k))):Lib.TabIs P w name k zs:=by
 obtain⟨_,C,e,hC,hs⟩:=hg g _ h;unfold Lib.TabIs World.var?;simp only[hn,Option.bind_some,hC,jA7];apply Array.ext
 ·simpa using hs
 ·intro i h1 h2;have hi:i<zs.length:=by simpa using h2
  obtain⟨v,hv,hr⟩:=qsK hg h (i:=i) (c:=.int k zs[i]) (by simp[hi]);simp only[Rel]at hr;subst hr;rw[qft hC,Array.getElem?_eq_getElem h1,jA7]at hv;simpa using hv
theorem qu6(w:World)(q:Nat)(os:Array Obj):RowKit.Below w.heap.size w (Sort.grow (w.drewN q) os):=
 ⟨rfl,rfl,rfl,by simp[Sort.grow,World.drewN],fun i hi=>by
  show((w.drewN q).heap++os)[i]? = _;rw[Array.getElem?_append_left (by show i<w.heap.size;omega)];rfl⟩
def qsO:Ent:=fun a h=>match a,h with
 | [.int .i64 n],[]=>[(decide (-9223372036854775808<=n)&&decide (n<=9223372036854775807),.ret (.str (Lib.itoa n)),[])]
 |_,_=>[]
theorem qML:∀a h,(qsO a h).length<=1:=by intro a h;unfold qsO;split<;>simp
theorem qMM{P:Program}{ρ:Ren}(L:LaysM.n171 P ρ)(hE:qbP P (ρ.f 171)){g:Nat}(hgg:P.globalNamed "internal/strconv.uint64pow10" = some g) (h1:Globs.g g=some (Lib.pow10Tab.map (.int .u64))):qeA P (ρ.f 171) (gOf qsO):=by
 refine qd5 hE fun a h r h' hm w I m vs H hr=>?_
 unfold qsO at hm;split at hm
 ·rename_i n;simp only[jAt,jAd,jBv (a:=true),jA1,jA6]at hm;obtain⟨⟨g0,g1⟩,rfl,rfl⟩:=hm;simp only[qaQ,Rel]at hr;obtain⟨_,_,rfl,rfl,rfl⟩:=hr;refine(Any.strconv_Itoa L n g0 g1 w (q3a H.glob hgg h1)).mono ?_;rintro e w' ⟨rfl,k,os,rfl⟩;refine qb5 H ?_ (by simp[Rel]);exact qu6 _ _ _
 ·cases hm
end Go.Eng
namespace Go.Eng
open Go.Shelf
set_option linter.unusedSectionVars false
theorem qIU{P:Program}{W:World}{n:String}{d:DataW Unit}{r:List (String×DataW Unit)}(h:laidMet P ((n,d)::r) W){g:Nat}(hg:P.globalNamed n=some g){cs:Array Value}(hv:W.var? P n=some cs)(hne:0<cs.size):∃e,W.heap[g]? = some (.cells cs e (0,0)):=by
 obtain⟨ps,⟨g0,t0,cs0,f0,p0,q0,hg0,ht0,hv0,hd0,_,e0⟩,_,hrows⟩:=h;obtain rfl:=jC2 (hg.symm.trans hg0);obtain rfl:=jC2 (hv.symm.trans hv0);subst e0;obtain⟨c,t,hc⟩:=(hrows g 0 (by
  simp only[MemPlace.row,jAo];exact .inl (.inl (by simp;omega)))).1
 unfold World.var? at hv;rw[hg,Option.bind_some,hc]at hv;cases hv;exact⟨t,hc⟩
def qAB(W:World)(I:Imm)(g:Nat)(cs:List AV):Prop:=∃(C:Array Value) (e:TypeId),W.heap[g]? = some (Obj.cells C e (0,0))/\C.size=cs.length/\ ∀(i:Nat) (c:AV),cs[i]? = some c->qbn c=true/\ ∃v,C[i]? = some v/\Rel W I c m0 v
theorem qsM{P:Program}{W:World}{I:Imm}{n:String}{k:IntKind}{zs:List Int}{r:List (String×DataW Unit)}(h:laidMet P ((n,Lib.tabData k zs)::r) W){g:Nat}{t e:TypeId}{m:Nat}
  (hg:P.globalNamed n=some g) (hty:(P.globals[g]?).map (·.type)=some t) (ht:P.underlying t=some (.array m e)) (he:P.underlying e=some (.int k)) (hce:P.cellsOf e=1) (hct:P.cellsOf t=m) (hz:0<zs.length):qAB W I g (zs.map (.int k)):=by
 have hv:=Lib.tabIs_of_head hg hty ht he hce hct h;unfold Lib.TabIs at hv;obtain⟨e',hC⟩:=qIU h hg hv (by simpa using hz);refine⟨_,e',hC,by simp,fun i c hc=>?_⟩;rw[List.getElem?_map,jA3]at hc;obtain⟨z,hz,rfl⟩:=hc;exact⟨rfl,.int k z,by simp[hz],by simp[Rel]⟩
theorem qsL{P:Program}{W:World}{I:Imm}{n nm:String}{text:List UInt8}{r:List (String×DataW Unit)}{g:Nat}{ti tp te ts:TypeId}{ms:Array (String×TypeId)}{f:Field}
  (h:laidMet P ((n,.iface nm (.ptr (.agg [.lit (.string text)])))::r) W)
  (hg:P.globalNamed n=some g) (ht:(P.globals[g]?).map (·.type)=some ti) (hi:P.underlying ti=some (.interface ms)) (hrow:∀u,P.typeName? 3 u=some nm->u=tp)
  (hp:P.underlying tp=some (.pointer te)) (he:P.underlying te=some (.struct #[f])) (hft:f.type=ts) (hfo:f.offset=0) (hs:P.underlying ts=some .string) (hc:P.cellsOf te=1) (hcs:P.cellsOf ts=1):qAB W I g [qR7 tp]:=by
 obtain⟨a,s,hv,hcell,_,_⟩:=laid_sentinel h hg ht hi hrow hp he hft hfo hs hc hcs;obtain⟨e',hC⟩:=qIU h hg hv (by simp);refine⟨_,e',hC,by simp,fun i c hi=>?_⟩;have hi0:i=0/\c=qR7 tp:=by
  cases i with
  |zero=>simp at hi;exact⟨rfl,hi.symm⟩
  |succ i=>simp at hi
 obtain⟨rfl,rfl⟩:=hi0;refine⟨rfl,_,rfl,?_⟩;obtain⟨b,o,sp⟩:=a;have hsp:sp=none:=by
  cases sp with
  |none=>rfl
  |some x=>
   simp only[World.cell?,Option.isSome_some,jB2]at hcell;split at hcell<;>cases hcell
 subst hsp;simp only[qR7,Rel];exact⟨_,rfl,b,o,rfl,by simp[qCV]⟩
theorem zdu[Globs]{W:World}{I0:Imm}(h:∀g cs,Globs.g g=some cs->qAB W (fun b o=>I0 b o\/ ∃cs,Globs.g b=some cs/\o<cs.length) g cs):GlobAt W (fun b o=>I0 b o\/ ∃cs,Globs.g b=some cs/\o<cs.length):=by
 intro g cs hg;obtain⟨C,e,hC,hsz,hall⟩:=h g cs hg;refine⟨qcq.2 fun i c hc=>?_,C,e,hC,hsz⟩;obtain⟨h1,v,hv,hr⟩:=hall i c hc;refine⟨.inr ⟨cs,hg,by rw[jCl];exact(jAg.1 hc).1⟩,h1,v,?_,hr⟩;rw[jCl];exact(qft hC).trans hv
theorem zdv[Globs]{W:World}{I0 I:Imm}(h:∀g cs,Globs.g g=some cs->qAB W I g cs)(h0:∀b o,I0 b o->b<W.heap.size):∀b o,(I0 b o\/ ∃cs,Globs.g b=some cs/\o<cs.length)->b<W.heap.size:=by
 rintro b o (hb|⟨cs,hg,_⟩)
 ·exact h0 b o hb
 ·obtain⟨C,e,hC,_⟩:=h b cs hg;exact(jBf.1 hC).1
end Go.Eng
namespace Go.Eng
open Go.Shelf Go.Proofs
set_option linter.unusedSectionVars false
variable [Globs]
def quT:Ent:=fun a h=>match a,h with
 | [.str s,.str [c]],[]=>[(decide (c.toNat<128)&&decide (s.length<=9223372036854775807),.ret (.str (Lib.trimRightB s c)),[])]
 |_,_=>[]
theorem qNK:∀a h,(quT a h).length<=1:=by intro a h;unfold quT;split<;>simp
theorem quU{P:Program}{ρ:Ren}(L:Lays.n162 P ρ)(hE:qbP P (ρ.f 162)):qeA P (ρ.f 162) (gOf quT):=by
 refine qd5 hE fun a h r h' hm w I m vs H hr=>?_
 unfold quT at hm;split at hm
 ·rename_i s c;simp only[jAt,jAd,jBv (a:=true),jA1,jA6]at hm;obtain⟨⟨hc,hs⟩,rfl,rfl⟩:=hm;simp only[qaQ,Rel]at hr;obtain⟨_,_,rfl,rfl,_,_,rfl,rfl,rfl⟩:=hr;refine(Any.strings_TrimRight_one L ⟨s.toArray⟩ c hc w (by simpa[ByteArray.size]using hs)).mono ?_;rintro e w' ⟨rfl,rfl⟩;exact qb5 H (RowKit.Below.refl _ _) (by simp[Rel])
 ·cases hm
end Go.Eng
namespace Go.Eng
open Go.Shelf Go.Proofs
set_option linter.unusedSectionVars false
variable [Globs]
def qCX(s:List UInt8):Bool:=s.all fun c=>decide (c.toNat<128)
theorem qpl{s:List UInt8}(h:qCX s=true):∀(j:Nat) (b:UInt8),(⟨s.toArray⟩:ByteArray).data.toList[j]? = some b->b.toNat<128:=by
 intro j b hb;have:=jAb.1 h b (jAl (by simpa using hb));simpa using this
def zdQ:Ent:=fun a h=>match a,h with
 | [.str s],[]=>[(decide (s.length<=1000000)&&qCX s,.ret (.str (Lib.toLowerA s)),[])]
 |_,_=>[]
theorem q3u:∀a h,(zdQ a h).length<=1:=by intro a h;unfold zdQ;split<;>simp
def upE:Ent:=fun a h=>match a,h with
 | [.str s],[]=>[(decide (s.length<=1000000)&&qCX s,.ret (.str (Lib.toUpperA s)),[])]
 |_,_=>[]
theorem zfr:∀a h,(upE a h).length<=1:=by intro a h;unfold upE;split<;>simp
def qD8:Ent:=fun a h=>match a,h with
 | [.str s,.str t],[]=>[(decide (s.length<=1000000)&&(decide (t.length<=1000000)&&(qCX s&&qCX t)),.ret (.bool (Lib.containsAny s t)),[])]
 |_,_=>[]
theorem qRI:∀a h,(qD8 a h).length<=1:=by intro a h;unfold qD8;split<;>simp
theorem q3v{P:Program}{ρ:Ren}(L:Lays.n159 P ρ)(X:Builder.Extra P ρ)(hE:qbP P (ρ.f 159)):qeA P (ρ.f 159) (gOf zdQ):=by
 refine qd5 hE fun a h r h' hm w I m vs H hr=>?_
 unfold zdQ at hm;split at hm
 ·rename_i s;simp only[jAt,jAd,jBv (a:=true),jA1,jA6]at hm;obtain⟨⟨hs,ha⟩,rfl,rfl⟩:=hm;simp only[qaQ,Rel]at hr;obtain⟨_,_,rfl,rfl,rfl⟩:=hr;refine(Any.strings_ToLower_ascii L X ⟨s.toArray⟩ w (by simp only[ByteArray.size,jBw];omega) (qpl ha)).mono ?_;rintro e w' ⟨rfl,hb⟩;exact qb5 H hb (by simp[Rel])
 ·cases hm
theorem zfs{P:Program}{ρ:Ren}(L:Lays.n158 P ρ)(X:Builder.Extra P ρ)(hE:qbP P (ρ.f 158)):qeA P (ρ.f 158) (gOf upE):=by
 refine qd5 hE fun a h r h' hm w I m vs H hr=>?_
 unfold upE at hm;split at hm
 ·rename_i s;simp only[jAt,jAd,jBv (a:=true),jA1,jA6]at hm;obtain⟨⟨hs,ha⟩,rfl,rfl⟩:=hm;simp only[qaQ,Rel]at hr;obtain⟨_,_,rfl,rfl,rfl⟩:=hr;refine(Any.strings_ToUpper_ascii L X ⟨s.toArray⟩ w (by simp only[ByteArray.size,jBw];omega) (qpl ha)).mono ?_;rintro e w' ⟨rfl,hb⟩;exact qb5 H hb (by simp[Rel])
 ·cases hm
theorem qRJ{P:Program}{ρ:Ren}(L:Lays.n150 P ρ)(h116:(P.info? (ρ.t 116)).map (fun i=>(i.zero,i.size))=some (some (.agg (Array.replicate 256 (.bool false))),256))(hE:qbP P (ρ.f 150)):qeA P (ρ.f 150) (gOf qD8):=by
 refine qd5 hE fun a h r h' hm w I m vs H hr=>?_
 unfold qD8 at hm;split at hm
 ·rename_i s t;simp only[jAt,jAd,jBv (a:=true),jA1,jA6]at hm;obtain⟨⟨hs,ht,ha,hb⟩,rfl,rfl⟩:=hm;simp only[qaQ,Rel]at hr;obtain⟨_,_,rfl,rfl,_,_,rfl,rfl,rfl⟩:=hr;refine(Any.strings_ContainsAny_laid L h116 ⟨s.toArray⟩ ⟨t.toArray⟩ w (by simp only[ByteArray.size,jBw];omega) (by simp only[ByteArray.size,jBw];omega) (qpl ha) (qpl hb)).mono ?_;rintro e w' ⟨rfl,hbel⟩;exact qb5 H hbel (by simp[Rel])
 ·cases hm
end Go.Eng
namespace Prod
abbrev f{a b c d r:Type _}(x:a×b×c×d×r):r:=x.2.2.2.2
abbrev h{a b c d e f g h r:Type _}(x:a×b×c×d×e×f×g×h×r):r:=x.f.f
abbrev i{a b c d e f g h i j k l m n o p r:Type _}(x:a×b×c×d×e×f×g×h×i×j×k×l×m×n×o×p×r):r:=x.h.h
end Prod
namespace Go.Eng
theorem lz{a:Type}{p:Option a}{f g:a}(h:p=some f)(e:f=g:=by kernel_rfl):p=some g:=h.trans (congrArg some e)
end Go.Eng

/- Tokens over plain data: what the program's package token computes. -/
import Derived.Test.YtjhhnkemeegahaaGreatDoorE4
set_option linter.all false
namespace Go.Tk
open Go Go.Eng
set_option maxRecDepth 20000
abbrev Bs:=List UInt8
def qei(x:Int):Bool:=decide (x>=97)&&decide (x<=122)
def qbe(x:Int):Bool:=decide (x>=48)&&decide (x<=57)
def qch(x:Int):Bool:=(qei x||qbe x)||x==95
def qcD(x:Int):Bool:=(qch x||x==46)||x==37
def qgV(x:Int):Bool:=x != 10
def at8(p:Int->Bool)(c:UInt8):Bool:=p (c.toNat:Int)
theorem w32(c:UInt8):IntKind.i32.wrap (c.toNat:Int)=(c.toNat:Int):=by
 have:=c.toNat_lt;simp[IntKind.wrap,IntKind.signed,IntKind.bits];split<;>omega
theorem qbj{n m:Nat}(h:n<=m):leB (n:Int) m=true:=by simp[leB,h]
theorem zdK{n m:Nat}:leB (n:Int) m=decide (n<=m):=by simp[leB]
section
variable {α:Type} {p:α->Bool}
theorem qgt:∀(l:List α),(l.takeWhile p).length<=l.length
 | []=>jAj _
 |x::l=>by
  rw[jBk];cases p x
  ·simp
  ·simpa using qgt l
theorem zfq:∀{l:List α} {n:Nat} (h:n<l.length),n<(l.takeWhile p).length->p l[n]=true
 |x::l,n,h,hn=>by
  rw[jBk]at hn;cases hp:p x
  ·simp[hp]at hn
  ·simp only[hp,jB2,jA0]at hn;cases n with
   |zero=>exact hp
   |succ n=>exact zfq (l:=l) (by simpa using h) (by omega)
theorem q0o:∀{l:List α} (h:(l.takeWhile p).length<l.length),p l[(l.takeWhile p).length]=false
 |x::l,h=>by
  cases hp:p x
  ·simp[jBk,hp]
  ·have h':(l.takeWhile p).length<l.length:=by
    simpa[jBk,hp]using h
   have:=q0o (l:=l) h';simp only[jBk,hp,jB2,jA0,List.getElem_cons_succ];exact this
theorem qiI:∀(l:List α),l.take (l.takeWhile p).length=l.takeWhile p
 | []=>rfl
 |x::l=>by
  rw[jBk];cases p x
  ·rfl
  ·simp[qiI l]
theorem qk8{l:List α}:l.takeWhile p=l ↔ l.all p=true:=by
 induction l with
 |nil=>simp
 |cons x l ih=>
  rw[jBk];cases hp:p x
  ·simp[hp]
  ·simp[hp,ih]
theorem q0p(l:List α):∃r,l=l.takeWhile p++r:=⟨l.dropWhile p,(List.takeWhile_append_dropWhile).symm⟩
theorem q0n{l:List α}:(l.takeWhile p).all p=true:=by
 induction l with
 |nil=>rfl
 |cons x l ih=>
  rw[jBk];cases hp:p x
  ·rfl
  ·simp[hp]
end
theorem q2C{α:Type}{l:List α}{p:α->Bool}:l.any p=decide (l.findIdx p<l.length):=by
 rw[jC7,jA6,List.findIdx_lt_length,List.any_eq_true]
theorem qmx{st:Bs×Int->Option (Rd (Bs×Int))}{p:Int->Bool}{s:Bs}
  (hs:∀n (h:n<s.length),st (s,(n:Int))=some (bif p (s[n].toNat:Int)then .next (s,((n+1:Nat):Int))else .done 0)) (he:st (s,(s.length:Int))=some (.done 0)) :
  qae st (s,0)=some (0,s,((s.takeWhile (at8 p)).length:Int)):=by
 refine qkf (fun n=>(s,(n:Int))) (s.takeWhile (at8 p)).length 0 0 (jBa _) (fun m _ hm=>?_) ?_
 ·have h:=jBz hm (qgt s);have:=zfq h hm;rw[hs m h,show p (s[m].toNat:Int)=true from this];rfl
 ·by_cases h:(s.takeWhile (at8 p)).length<s.length
  ·have:=q0o h;rw[hs _ h,show p (s[(s.takeWhile (at8 p)).length].toNat:Int)=false from this];rfl
  ·have:=qgt (p:=at8 p) s;rw[show(s.takeWhile (at8 p)).length=s.length by omega];exact he
def spI(x:Int):Bool:=x==32||(x==9||x==10)
def blk:Bool->Bs->Nat
 |_,[]=>0
 |false,c::r=>bif spI c.toNat then blk false r+1 else bif (c.toNat:Int)==35 then blk true r+1 else 0
 |true,c::r=>bif qgV c.toNat then blk true r+1 else blk false r+1
theorem qma:∀(b:Bool) (s:Bs),blk b s<=s.length
 |true,[]=>jAj _
 |false,[]=>jAj _
 |false,c::r=>by
  have h1:=qma false r;have h2:=qma true r;simp only[blk,jA0];cases spI c.toNat<;>cases((c.toNat:Int)==35)<;>simp<;>omega
 |true,c::r=>by
  have h1:=qma false r;have h2:=qma true r;simp only[blk,jA0];cases qgV c.toNat<;>simp<;>omega
theorem qxx:∀(s:Bs),blk true s=(s.takeWhile (at8 qgV)).length+blk false (s.drop (s.takeWhile (at8 qgV)).length)
 | []=>rfl
 |c::r=>by
  by_cases h:qgV c.toNat=true
  ·have:=qxx r;rw[List.takeWhile_cons_of_pos (p:=at8 qgV) h,jA0,List.drop_succ_cons];simp only[blk,h,jAa];omega
  ·rw[List.takeWhile_cons_of_neg (p:=at8 qgV) h];have h10:(c.toNat:Int)=10:=by simpa[qgV]using h
   simp[blk,spI,qgV,h10]
def has(l:List Bs)(s:Bs):Bool:=l.any (s== ·)
def wordsS:List Bs:=[[112,114,111,100,117,99,116],[99,117,114,114,101,110,99,121],[99,97,108,101,110,100,97,114],[102,114,111,109],
 [101,118,101,114,121],[111,118,101,114,100,114,97,102,116],[116,97,120],[99,114,101,100,105,116],
 [100,101,98,105,116],[109,97,114,103,105,110,97,108],[119,104,111,108,101],[97,99,116,51,54,48],
 [97,99,116,51,54,53],[97,99,116,117,97,108],[116,104,105,114,116,121],[100,111,119,110],[117,112],
 [102,108,111,111,114],[99,101,105,108],[104,97,108,102,95,117,112],[104,97,108,102,95,101,118,101,110],
 [107,101,101,112],[100,114,111,112],[102,101,101],[108,105,109,105,116],[119,104,101,110],
 [97,109,111,117,110,116,95,111,102],[115,105,110,103,108,101],[100,97,105,108,121],[109,111,110,116,104,108,121],
 [109,111,110,116,104],[114,101,116,117,114,110],[99,108,111,115,101],[101,118,101,110,116],[105,102],
 [116,104,101,110],[101,108,115,101],[97,110,100],[111,114],[110,111,116],[109,105,110],[109,97,120]]
def marksS:List Bs:=[[61,61],[33,61],[60,61],[123],[125],[40],[41],[44],[59],[58],[36],[43],[45],[42],[47],[60]]
def qbT(s:Bs):Bool:=has wordsS s
def qgo(s:Bs):Bool:=s.all (at8 qbe)&&(s != []&&((s.length:Int)==1||s.head? != some 48))
def qdc(t:Bs):Bs×Bs×Bool:=match t.dropWhile (· != 46)with
 | []=>(t,[],false)
 |_::r=>(t.takeWhile (· != 46),r,true)
def qfx(p:Bs):Bool:=p != []&&(decide (p.length<=4)&&(p.all (at8 qbe)&&p.getLast? != some 48))
def qiv(p:Bs):Bs:=p++List.replicate (4-p.length) 48
def qa1(a:Nat)(s:Bs):Nat:=s.foldl (fun a c=>a*10+(c.toNat-48)) a
def qbh(s:Bs):Int×Int:=
 bif s.getLast? == some 37 then
  let c:=qdc s.dropLast
  bif !qgo c.1||(c.2.2&& !qfx c.2.1)then(0,2)
  else bif decide (c.1.length>3)then(0,1)
  else bif decide ((qa1 0 (c.1++qiv c.2.1):Int)>1000000)then(0,1)else(qa1 0 (c.1++qiv c.2.1),0)
 else(0,2)
def qyG(t:Bs):Int×Bs×Int:=
 bif qgo t then(bif nOk (Lib.parseIntB 64 t)then(2,t,0)else(0,[],6))
 else bif (qbh t).2==0 then(3,t,0)else bif (qbh t).2==1 then(0,[],6)else(0,[],2)
def preB(m s:Bs):Bool:=decide (m.length<=s.length)&&s.take m.length==m
def qaw(s:Bs):Int×Bs×Int:=match s with
 | []=>(0,[],2)
 |c::_=>
  bif at8 qei c then
   (bif qbT (s.takeWhile (at8 qch))then(5,s.takeWhile (at8 qch),0)
   else bif decide ((s.takeWhile (at8 qch)).length>16)then(0,[],4)else(1,s.takeWhile (at8 qch),0))
  else bif at8 qbe c then qyG (s.takeWhile (at8 qcD))
  else match marksS.find? (preB · s)with
   |some m=>(4,m,0)
   |none=>(0,[],2)
structure Tok where
 (kind line:Int)
 (text:Bs)
deriving DecidableEq
def Tok.av(x:Tok):AV:=.agg [.int .i64 x.kind,.int .i64 x.line,.str x.text]
abbrev ET(l:List Tok):List AV:=l.map Tok.av
abbrev ksT:List CS:=[CS.int IntKind.i64,CS.int IntKind.i64,CS.str]
theorem hkT(h:Tok):qpd ksT (qai h.av)=true:=rfl
theorem okT{l:List Tok}{n:Nat}(h:n<l.length):qaG ksT (ET l) (n:Int)=true:=qge hkT h
theorem qt0{l:List Tok}{n:Nat}(h:n<l.length):intOf (cellAt (ET l) (n:Int) 0)=l[n].kind:=by rw[qaD h];rfl
theorem qt1{l:List Tok}{n:Nat}(h:n<l.length):intOf (cellAt (ET l) (n:Int) 1)=l[n].line:=by rw[qaD h];rfl
theorem qt2{l:List Tok}{n:Nat}(h:n<l.length):strOf (cellAt (ET l) (n:Int) 2)=l[n].text:=by rw[qaD h];rfl
def qfy:Nat->Bs->Int->List Tok->List Tok×Int×Int
 |0,_,_,_=>([],0,0)
 |k+1,s,line,acc=>
  match s.drop (blk false s)with
  | []=>(acc,0,0)
  |c::r=>
   bif (qaw (c::r)).2.2 != 0 then([],line+(s.take (blk false s)).count 10,(qaw (c::r)).2.2)
   else qfy k ((c::r).drop (qaw (c::r)).2.1.length) (line+(s.take (blk false s)).count 10) (acc++[⟨(qaw (c::r)).1,line+(s.take (blk false s)).count 10,(qaw (c::r)).2.1⟩])
def qbr(s:Bs):List Tok×Int×Int:=bif decide ((s.length:Int)>2048)then([],0,5)else qfy (s.length+1) s 1 []
theorem qcp{s:Bs}(h:(qaw s).2.2=0):(qaw s).2.1≠ []/\ ∃r,s=(qaw s).2.1++r:=by
 unfold qaw at h ⊢;cases s with
 |nil=>simp at h
 |cons c l=>
  simp only at h ⊢;cases hl:at8 qei c
  ·simp only[hl,jA9]at h ⊢;cases hd:at8 qbe c
   ·simp only[hd,jA9]at h ⊢;cases hf:marksS.find? (preB · (c::l))with
    |none=>simp[hf]at h
    |some m=>
     have h1:=jC4 hf;have h2:=jB4 hf;simp only[preB,jA1,jA6,jB7]at h1;refine⟨?_,(c::l).drop m.length,?_⟩
     ·have:∀m∈marksS,m≠ []:=by decide
      exact this m h2
     ·conv=>lhs;rw[<-jCc m.length (c::l),h1.2]
   ·simp only[hd,jAa]at h ⊢;have e:(qyG ((c::l).takeWhile (at8 qcD))).2.2=0->(qyG ((c::l).takeWhile (at8 qcD))).2.1=(c::l).takeWhile (at8 qcD):=by
     unfold qyG;cases qgo ((c::l).takeWhile (at8 qcD))<;>cases nOk (Lib.parseIntB 64 ((c::l).takeWhile (at8 qcD)))<;>cases((qbh ((c::l).takeWhile (at8 qcD))).2==0)<;>cases((qbh ((c::l).takeWhile (at8 qcD))).2==1)<;>simp
    rw[e h];refine⟨?_,q0p _⟩;have hn:at8 qcD c=true:=by
     simp only[at8,qcD,qch]at hd ⊢;simp[hd]
    simp[hn]
  ·simp only[hl,jAa]at h ⊢;have hn:at8 qch c=true:=by
    simp only[at8,qch]at hl ⊢;simp[hl]
   have hne:(c::l).takeWhile (at8 qch)≠ []:=by simp[hn]
   cases hw:qbT ((c::l).takeWhile (at8 qch))
   ·simp only[hw,jA9]at h ⊢;cases hg:decide (((c::l).takeWhile (at8 qch)).length>16)
    ·exact⟨hne,q0p _⟩
    ·simp[hg]at h
   ·exact⟨hne,q0p _⟩
theorem qrD:∀(l:Bs) (a:Nat),a<=qa1 a l
 | [],a=>jAj _
 |c::r,a=>by
  have:=qrD r (a*10+(c.toNat-48));simp only[qa1,jC3]at this ⊢;omega
theorem qKH:∀(l:Bs) (a:Nat),l.all (at8 qbe)=true->a<18446744073709551616->Lib.parseUint10 a l=if qa1 a l<18446744073709551616 then .ok (qa1 a l)else .range
 | [],a,_,ha=>by simp[Lib.parseUint10,qa1,ha]
 |c::r,a,h,ha=>by
  simp only[jAw,jA1]at h;have hc:48<=c.toNat/\c.toNat<=57:=by
   have:=h.1;simp only[at8,qbe,jA1,jA6]at this;omega
  have hd:qa1 a (c::r)=qa1 (a*10+(c.toNat-48)) r:=rfl;have hge:=qrD r (a*10+(c.toNat-48));simp only[Lib.parseUint10,jAr hc,hd];split
  ·rw[jAm (by omega)]
  ·split
   ·rw[jAm (by omega)]
   ·exact qKH r _ h.2 (by omega)
theorem qxv{l:Bs}(h:l.all (at8 qbe)=true)(hn:l≠ []):Lib.atoiAll l=if qa1 0 l<9223372036854775808 then .ok (qa1 0 l:Int)else .range:=by
 cases l with
 |nil=>exact absurd rfl hn
 |cons c r=>
  have hc:48<=c.toNat/\c.toNat<=57:=by
   have:=h;simp only[jAw,at8,qbe,jA1,jA6]at this;omega
  have h1:¬(c.toNat=43\/c.toNat=45):=by omega
  have h2:¬c.toNat=45:=by omega
  simp only[Lib.atoiAll,jAm h1,Lib.parseMag,jAm hn,qKH _ 0 h (by omega)];by_cases hu:qa1 0 (c::r)<18446744073709551616
  ·simp only[jAr hu,h2,not_false_eq_true,true_and,false_and,jBg];by_cases hs:qa1 0 (c::r)<9223372036854775808
   ·rw[jAm (by omega),jAr hs]
   ·rw[jAr (by omega),jAm hs]
  ·rw[jAm hu,jAm (by omega)]
theorem qxD:∀(l:Bs) (a k:Nat),l.all (at8 qbe)=true->a<10^k->qa1 a l<10^(k+l.length)
 | [],a,k,_,ha=>by simpa[qa1]using ha
 |c::r,a,k,h,ha=>by
  simp only[jAw,jA1]at h;have hc:c.toNat<=57:=by
   have:=h.1;simp only[at8,qbe,jA1,jA6]at this;omega
  have:=qxD r (a*10+(c.toNat-48)) (k+1) h.2 (by rw[Nat.pow_succ];omega);rw[show k+(c::r).length=k+1+r.length by simp;omega];exact this
theorem q3i(l:Bs):Lib.indexByte l 46=if (l.takeWhile (· != 46)).length<l.length then((l.takeWhile (· != 46)).length:Int)else -1:=by
 induction l with
 |nil=>rfl
 |cons c r ih=>
  unfold Lib.indexByte;by_cases hc:c=46
  ·subst hc;simp
  ·rw[List.takeWhile_cons_of_pos (p:=(· != 46)) (by simpa using hc)];simp only[jB7,hc,jBg,jA0,Nat.add_lt_add_iff_right,ih];split
   ·rw[jAm (by omega)];simp
   ·simp
theorem drop_tw{α:Type}{p:α->Bool}:∀(l:List α),l.drop (l.takeWhile p).length=l.dropWhile p
 | []=>rfl
 |x::l=>by
  rw[jBk,List.dropWhile_cons];cases p x
  ·rfl
  ·simpa using drop_tw l
abbrev ES(l:List Bs):List AV:=l.map .str
theorem qC0{l:List Bs}{n:Nat}(h:n<l.length):qaG [CS.str] (ES l) (n:Int)=true:=qge (fun _=>rfl) h
theorem qs0{l:List Bs}{n:Nat}(h:n<l.length):strOf (cellAt (ES l) (n:Int) 0)=l[n]:=by rw[qaD h];rfl
end Go.Tk
namespace Go.Tk
open Go Go.Eng
set_option maxRecDepth 20000
def vO(call:qa2)(v:Nat)(t:Tok):Option Bool:=match call v [t.av] []with
 |some (.ret (.bool b),[])=>some b
 |_=>none
def qCY(call:qa2)(v:Nat):Int->List Tok->Option Bool
 |_,[]=>some true
 |n,t::l=>match vO call v t with
  |none=>none
  |some false=>some false
  |some true=>if t.line<n then some false else qCY call v t.line l
def jnF:Nat->Int->Bs->List Tok->Bs×Int
 |_,_,acc,[]=>(acc,0)
 |i,n,acc,t::l=>
  if t.line-n>2048 then([],5)
  else if 2048<(acc++List.replicate (t.line-n).toNat 10++(if i>0/\t.line=n then[32]else[])++t.text).length then([],5)
  else jnF (i+1) t.line (acc++List.replicate (t.line-n).toNat 10++(if i>0/\t.line=n then[32]else[])++t.text) l
def zlc:AV->Option Tok
 | .agg [.int .i64 k,.int .i64 n,.str s]=>some ⟨k,n,s⟩
 |_=>none
def qw0:List AV->Option (List Tok)
 | []=>some []
 |x::l=>match zlc x,qw0 l with
  |some t,some ts=>some (t::ts)
  |_,_=>none
theorem qCM:∀l:List Tok,qw0 (ET l)=some l
 | []=>rfl
 |t::l=>by
  have:=qCM l;simp only[jAs,qw0,this];rfl
theorem quQ:∀{es:List AV} {l:List Tok},qw0 es=some l->es=ET l
 | [],l,h=>by cases h;rfl
 |x::es,l,h=>by
  simp only[qw0]at h;split at h
  ·rename_i t ts h1 h2;cases h;rw[quQ h2];show x::ET ts=t.av::ET ts
   congr 1
   unfold zlc at h1;split at h1
   ·cases h1;rfl
   ·cases h1
  ·cases h
def q37(l:List Tok):Bool:=decide (l.length<=1000000)&&l.all fun t=>decide (t.text.length<=1000000)&&(decide (-9223372036854775808<=t.line)&&decide (t.line<=9223372036854775807))
def qnJ(call:qa2)(v:Nat)(l:List Tok):Option (Bs×Int):=match qCY call v 1 l with
 |none=>none
 |some false=>some ([],1)
 |some true=>some (jnF 0 1 [] l)
def qMN(v:Nat)(call:qa2):List AV->Heap->Option (Res×Heap)
 | [.view _ es],[]=>match qw0 es with
  |some l=>if q37 l=true then match qnJ call v l with
   |some r=>some (.ret (.tup [.str r.1,.int .i64 r.2]),[])
   |none=>none else none
  |none=>none
 |_,_=>none
theorem zft{c c':qa2}(h:∀f a h r,c f a h=some r->c' f a h=some r){v:Nat}{t:Tok}{b:Bool}(hb:vO c v t=some b):vO c' v t=some b:=by
 unfold vO at hb ⊢;cases hq:c v [t.av] []with
 |none=>rw[hq]at hb;cases hb
 |some r=>rw[hq]at hb;rw[h _ _ _ _ hq];exact hb
theorem qAV{c c':qa2}(h:∀f a h r,c f a h=some r->c' f a h=some r){v:Nat}:∀{l:List Tok} {n:Int} {b:Bool},qCY c v n l=some b->qCY c' v n l=some b
 | [],n,b,hb=>hb
 |t::l,n,b,hb=>by
  simp only[qCY]at hb ⊢;cases hv:vO c v t with
  |none=>rw[hv]at hb;cases hb
  |some x=>
   rw[zft h hv];rw[hv]at hb;cases x
   ·exact hb
   ·simp only at hb ⊢;split at hb
    ·rw[jAr (by assumption)];exact hb
    ·rw[jAm (by assumption)];exact qAV h hb
theorem qMP{c c':qa2}(h:∀f a h r,c f a h=some r->c' f a h=some r){v:Nat}{l:List Tok}{r:Bs×Int}(hr:qnJ c v l=some r):qnJ c' v l=some r:=by
 unfold qnJ at hr ⊢;cases hc:qCY c v 1 l with
 |none=>rw[hc]at hr;cases hr
 |some b=>rw[qAV h hc];rw[hc]at hr;exact hr
def qml(v:Nat):Seen where
 g:=qMN v
 mono:=by
  intro c c' h a hp r hr;unfold qMN at hr ⊢;split at hr
  ·split at hr
   ·rename_i l hl;split at hr
    ·rename_i hb;rw[jAr hb];cases hq:qnJ c v l with
     |none=>rw[hq]at hr;cases hr
     |some r'=>rw[qMP h hq];rw[hq]at hr;exact hr
    ·cases hr
   ·cases hr
  ·cases hr
theorem qMO{v:Nat}{call:qa2}{a:List AV}{h:Heap}{r:Res×Heap}(hg:qMN v call a h=some r):∃sz l x,a= [.view sz (ET l)]/\h= []/\q37 l=true/\qnJ call v l=some x/\r=(.ret (.tup [.str x.1,.int .i64 x.2]),[]):=by
 unfold qMN at hg;split at hg
 ·rename_i sz es;split at hg
  ·rename_i l hl;split at hg
   ·rename_i hb;split at hg
    ·rename_i x hx;cases hg;exact⟨sz,l,x,by rw[quQ hl],rfl,hb,hx,rfl⟩
    ·cases hg
   ·cases hg
  ·cases hg
 ·cases hg
def qlg(V:Tok->Bool):Int->List Tok->Bool
 |_,[]=>true
 |n,t::l=>V t&&(decide (n<=t.line)&&qlg V t.line l)
def qnK(V:Tok->Bool)(l:List Tok):Bs×Int:=bif qlg V 1 l then jnF 0 1 [] l else([],1)
theorem qRL{c:qa2}{v:Nat}{V:Tok->Bool}:∀{l:List Tok} {n:Int},(∀t∈l,vO c v t=some (V t))->qCY c v n l=some (qlg V n l)
 | [],_,_=>rfl
 |t::l,n,h=>by
  have ih:=fun n=>qRL (c:=c) (v:=v) (V:=V) (l:=l) (n:=n) fun t ht=>h t (by simp[ht])
  simp only[qCY,qlg,h t (by simp),ih];cases V t
  ·rfl
  ·simp only[jBm];by_cases hl:t.line<n
   ·rw[jAr hl,jAe (by omega)];rfl
   ·rw[jAm hl,jA8 (by omega)];rfl
theorem q3k{c:qa2}{v:Nat}{V:Tok->Bool}{l:List Tok}(h:∀t∈l,vO c v t=some (V t)):qnJ c v l=some (qnK V l):=by
 unfold qnJ qnK;rw[qRL h];cases qlg V 1 l<;>rfl
theorem qMQ{IP:Prog}{f v:Nat}(hF:IP.fn f=none)(hS:IP.spec f=none)(hs:IP.seen f=some (qml v)){V:Tok->Bool}{l:List Tok}(hb:q37 l=true)(hV:∀t∈l,qba IP v [t.av] []=some (.ret (.bool (V t)),[])) :
  qba IP f [.view 3 (ET l)] []=some (.ret (.tup [.str (qnK V l).1,.int .i64 (qnK V l).2]),[]):=by
 have hn:∃n,∀t∈l,(qaF IP n).1 v [t.av] []=some (.ret (.bool (V t)),[]):=by
  clear hb
  induction l with
  |nil=>exact⟨0,fun t ht=>by cases ht⟩
  |cons t l ih=>
   obtain⟨n,hn⟩:=ih fun t ht=>hV t (by simp[ht])
   obtain⟨m,hm⟩:=qcd.1 (hV t (by simp));refine⟨max n m,fun x hx=>?_⟩;rcases jAc.1 hx with rfl|hx
   ·exact(qbI (jCq n m)).1 _ _ _ _ hm
   ·exact(qbI (Nat.le_max_left n m)).1 _ _ _ _ (hn x hx)
 obtain⟨n,hn⟩:=hn;refine qj1 hF hS hs (n:=n) ?_;have e:(qml v).g=qMN v:=rfl;rw[e];unfold qMN;simp only[qCM,jAr hb];rw[q3k (V:=V) fun t ht=>by unfold vO;rw[hn t ht]]
noncomputable def jB(IP:Prog)(f:Nat)(es:List AV):Bool:=@decide (∃s n,qba IP f [.view 3 es] []=some (.ret (.tup [.str s,.int .i64 n]),[])) (Classical.propDecidable _)
open Classical in
noncomputable def jS(IP:Prog)(f:Nat)(es:List AV):Bs:=if h:∃s n,qba IP f [.view 3 es] []=some (.ret (.tup [.str s,.int .i64 n]),[])then h.choose else[]
open Classical in
noncomputable def jN(IP:Prog)(f:Nat)(es:List AV):Int:=if h:∃s n,qba IP f [.view 3 es] []=some (.ret (.tup [.str s,.int .i64 n]),[])then h.choose_spec.choose else 0
theorem zsJ{IP:Prog}{f:Nat}{es:List AV}{s:Bs}{n:Int}(h:qba IP f [.view 3 es] []=some (.ret (.tup [.str s,.int .i64 n]),[])):jB IP f es=true/\jS IP f es=s/\jN IP f es=n:=by
 have hx:∃s n,qba IP f [.view 3 es] []=some (.ret (.tup [.str s,.int .i64 n]),[]):=⟨s,n,h⟩;refine⟨by unfold jB;exact@jA8 _ (Classical.propDecidable _) hx,?_,?_⟩
 ·unfold jS;rw[dif_pos hx];have:=h.symm.trans hx.choose_spec.choose_spec;simp only[jA7,jAd,Res.ret.injEq,AV.tup.injEq,jC5,AV.str.injEq,and_true]at this;exact this.1.symm
 ·unfold jN;rw[dif_pos hx];have:=h.symm.trans hx.choose_spec.choose_spec;simp only[jA7,jAd,Res.ret.injEq,AV.tup.injEq,jC5,AV.int.injEq,and_true,true_and]at this;exact this.2.symm
theorem q7R{IP:Prog}{f:Nat}{es:List AV}(h:jB IP f es=true):qba IP f [.view 3 es] []=some (.ret (.tup [.str (jS IP f es),.int .i64 (jN IP f es)]),[]):=by
 have hx:∃s n,qba IP f [.view 3 es] []=some (.ret (.tup [.str s,.int .i64 n]),[]):=by
  unfold jB at h;exact@jBd _ (Classical.propDecidable _) h
 obtain⟨s,n,hc⟩:=hx;obtain⟨_,h2,h3⟩:=zsJ hc;rw[h2,h3];exact hc
inductive Ex where
 |mk (op num:Int) (txt:Bs) (args:List Ex)
namespace Ex
def op:Ex->Int|mk o _ _ _=>o
def num:Ex->Int|mk _ n _ _=>n
def txt:Ex->Bs|mk _ _ s _=>s
def args:Ex->List Ex|mk _ _ _ l=>l
theorem ind{P:Ex->Prop}(h:∀o n s l,(∀x∈l,P x)->P (mk o n s l)):∀e,P e:=fun e=>
 Ex.rec (motive_1:=P) (motive_2:=fun l=>∀x∈l,P x) (fun o n s l ih=>h o n s l ih) (by intro x hx;cases hx)
  (fun e l he hl x hx=>by
   rcases jAc.1 hx with rfl|hx
   ·exact he
   ·exact hl x hx) e
mutual
def av:Ex->AV
 |mk o n s l=>.agg [.int .i64 o,.int .i64 n,.str s,.view 4 (avs l)]
def avs:List Ex->List AV
 | []=>[]
 |e::l=>av e::avs l
end
theorem avs_eq:∀l:List Ex,avs l=l.map av
 | []=>rfl
 |e::l=>by simp[avs,avs_eq l]
mutual
def nodes:Ex->Nat
 |mk _ _ _ l=>nodesL l+1
def nodesL:List Ex->Nat
 | []=>0
 |e::l=>nodes e+nodesL l
end
mutual
def dep:Ex->Nat
 |mk _ _ _ l=>depL l+1
def depL:List Ex->Nat
 | []=>0
 |e::l=>max (dep e) (depL l)
end
mutual
def allX(p:Ex->Bool):Ex->Bool
 |mk o n s l=>p (mk o n s l)&&allL p l
def allL(p:Ex->Bool):List Ex->Bool
 | []=>true
 |e::l=>allX p e&&allL p l
end
theorem qRq(p:Ex->Bool):∀l:List Ex,allL p l=l.all (allX p)
 | []=>rfl
 |e::l=>by simp[allL,qRq p l]
theorem allX_eq(p:Ex->Bool)(e:Ex):allX p e=(p e&&e.args.all (allX p)):=by
 cases e;simp[allX,qRq,args]
theorem nodesL_mem{x:Ex}:∀{l:List Ex},x∈l->nodes x<=nodesL l
 |e::l,h=>by
  simp only[nodesL];rcases jAc.1 h with rfl|h
  ·omega
  ·have:=nodesL_mem h;omega
theorem depL_mem{x:Ex}:∀{l:List Ex},x∈l->dep x<=depL l
 |e::l,h=>by
  simp only[depL];rcases jAc.1 h with rfl|h
  ·omega
  ·have:=depL_mem h;omega
theorem nodes_pos(e:Ex):1<=nodes e:=by cases e;simp[nodes]
theorem dep_pos(e:Ex):1<=dep e:=by cases e;simp[dep]
theorem nodesL_len:∀l:List Ex,l.length<=nodesL l
 | []=>jAj _
 |e::l=>by
  have:=nodesL_len l;have:=nodes_pos e;simp only[nodesL,jA0];omega
theorem nodesL_app:∀(a b:List Ex),nodesL (a++b)=nodesL a+nodesL b
 | [],b=>by simp[nodesL]
 |e::a,b=>by simp only[jAk,nodesL,nodesL_app a b];omega
theorem nodes_fold:∀(l:List Ex) (a:Nat),l.foldl (fun a x=>a+nodes x) a=a+nodesL l
 | [],a=>rfl
 |e::l,a=>by simp only[jC3,nodesL,nodes_fold l];omega
theorem dep_fold:∀(l:List Ex) (a:Nat),l.foldl (fun a x=>max a (dep x)) a=max a (depL l)
 | [],a=>by simp[depL]
 |e::l,a=>by simp only[jC3,depL,dep_fold l];omega
mutual
theorem dep_le:∀e:Ex,dep e<=nodes e
 |mk _ _ _ l=>by have:=qRX l;simp only[dep,nodes];omega
theorem qRX:∀l:List Ex,depL l<=nodesL l
 | []=>jAj _
 |e::l=>by
  have:=dep_le e;have:=qRX l;simp only[depL,nodesL];omega
end
end Ex
abbrev EX(l:List Ex):List AV:=l.map Ex.av
theorem qiZ(e:Ex):e.av= .agg [.int .i64 e.op,.int .i64 e.num,.str e.txt,.view 4 (EX e.args)]:=by
 cases e;simp[Ex.av,Ex.avs_eq,Ex.op,Ex.num,Ex.txt,Ex.args]
abbrev ksX:List CS:=[CS.int IntKind.i64,CS.int IntKind.i64,CS.str,CS.slice 4]
theorem hkX(e:Ex):qpd ksX (qai e.av)=true:=by rw[qiZ];rfl
theorem okX{l:List Ex}{n:Nat}(h:n<l.length):qaG ksX (EX l) (n:Int)=true:=qge hkX h
theorem qx0{l:List Ex}{n:Nat}(h:n<l.length):intOf (cellAt (EX l) (n:Int) 0)=l[n].op:=by rw[qaD h,qiZ];rfl
theorem qx1{l:List Ex}{n:Nat}(h:n<l.length):intOf (cellAt (EX l) (n:Int) 1)=l[n].num:=by rw[qaD h,qiZ];rfl
theorem qx2{l:List Ex}{n:Nat}(h:n<l.length):strOf (cellAt (EX l) (n:Int) 2)=l[n].txt:=by rw[qaD h,qiZ];rfl
theorem qx3{l:List Ex}{n:Nat}(h:n<l.length):qap (cellAt (EX l) (n:Int) 3)=EX l[n].args:=by rw[qaD h,qiZ];rfl
theorem qJZ(e:Ex):e.nodes=Ex.nodesL e.args+1:=by cases e;rfl
theorem ziY(e:Ex):e.dep=Ex.depL e.args+1:=by cases e;rfl
theorem qBO{e x:Ex}(h:x∈e.args):x.nodes<e.nodes:=by
 have:=Ex.nodesL_mem h;rw[qJZ e];omega
theorem qRY{e x:Ex}(h:x∈e.args):x.dep<e.dep:=by
 have:=Ex.depL_mem h;rw[ziY e];omega
theorem q2G(e:Ex):e.args.length<e.nodes:=by
 have:=Ex.nodesL_len e.args;rw[qJZ];omega
def zuy(e:Ex):Bool:=decide (e.args.length<=big)
def Wd(e:Ex):Prop:=e.allX zuy=true
theorem Wd.len{e:Ex}(h:Wd e):e.args.length<=big:=by
 rw[Wd,Ex.allX_eq,jA1]at h;exact jBd h.1
theorem Wd.arg{e x:Ex}(h:Wd e)(hx:x∈e.args):Wd x:=by
 rw[Wd,Ex.allX_eq,jA1,jAb]at h;exact h.2 x hx
theorem zll:∀{e:Ex},e.nodes<=big->Wd e:=by
 intro e
 induction e using Ex.ind with
 |h o n s l ih=>
  intro h;rw[Wd,Ex.allX_eq,jA1,jAb];have hl:=q2G (.mk o n s l);exact⟨jA8 (by omega),fun x hx=>ih x hx (by have:=qBO (e:=.mk o n s l) (x:=x) hx;omega)⟩
def qaN(op:Int):Int:=
 if op=1\/op=2\/op=3\/op=4 then 0 else if op=9\/op=16 then 1 else if op=19 then 3 else if 5<=op/\op<=18 then 2 else -1
def qg7(op:Int):Int:=if op=1 then 9223372036854775807 else if op=2 then 1000000000000 else if op=3 then 1000000 else 0
def qaL(e:Ex):Bool:=qaN e.op==(e.args.length:Int)&&(decide (e.num>=0)&&(decide (e.num<=qg7 e.op)&&(e.txt== []||e.op==4)))
def qdE(s:Bs):Bool:=(qbr s).2.2==0&&((qbr s).1.length==1&&match (qbr s).1.head? with
 |some t=>t.kind==1&&t.text==s
 |none=>false)
def qbu(e:Ex):Bool:=e.op != 4||qdE e.txt
def qaJ(e:Ex):Int:=bif decide (e.nodes>64)||decide (e.dep>8)then 5 else bif !e.allX qaL then 1 else bif !e.allX qbu then 4 else 0
theorem qna{e:Ex}(h:qaJ e=0):e.nodes<=64/\e.dep<=8/\e.allX qaL=true/\e.allX qbu=true:=by
 unfold qaJ at h;cases h1:decide (e.nodes>64)<;>cases h2:decide (e.dep>8)<;>cases h3:e.allX qaL<;>cases h4:e.allX qbu<;>simp[h1,h2,h3,h4]at h;simp at h1 h2;exact⟨h1,h2,rfl,rfl⟩
def qyC(s:Bs):Bool:=match s with
 | []=>false
 |c::_=>decide (s.length<=16)&&(at8 qei c&&s.all (at8 qch))
theorem qCK:∀(k:Nat) (s:Bs) (line:Int) (acc:List Tok),s.length<k->(qfy k s line acc).2.2=0-> ∃more,(qfy k s line acc).1=acc++more
 |0,s,_,_,h,_=>by omega
 |k+1,s,line,acc,h,h0=>by
  simp only[qfy]at h0 ⊢;cases hd:s.drop (blk false s)with
  |nil=>exact⟨[],by simp⟩
  |cons c r=>
   simp only[hd]at h0 ⊢;cases hz:((qaw (c::r)).2.2 != 0)
   ·have hz':(qaw (c::r)).2.2=0:=by simpa using hz
    simp only[hz,jA9]at h0 ⊢;obtain⟨g1,t,g2⟩:=qcp hz';have hlen:=congrArg List.length hd;simp only[jB0,jA0]at hlen;have g4:1<=(qaw (c::r)).2.1.length:=by
     cases hq:(qaw (c::r)).2.1 with
     |nil=>exact absurd hq g1
     |cons _ _=>simp
    obtain⟨more,hm⟩:=qCK k _ _ _ (by simp only[jB0,jA0];omega) h0;exact⟨_::more,by rw[hm,jAf];rfl⟩
   ·simp only[hz,jAa]at h0;rw[h0]at hz;simp at hz
theorem qUT{s:Bs}(h:(qaw s).2.2=0)(h1:(qaw s).1=1):∃c r,s=c::r/\at8 qei c=true/\qbT (s.takeWhile (at8 qch))=false/\(s.takeWhile (at8 qch)).length<=16/\(qaw s).2.1=s.takeWhile (at8 qch):=by
 unfold qaw at h h1 ⊢;cases s with
 |nil=>simp at h
 |cons c l=>
  simp only at h h1 ⊢;refine⟨c,l,rfl,?_⟩;cases hl:at8 qei c
  ·exfalso;simp only[hl,jA9]at h h1;cases hd:at8 qbe c
   ·simp only[hd,jA9]at h h1;cases hf:marksS.find? (preB · (c::l))with
    |none=>simp[hf]at h
    |some m=>simp[hf]at h1
   ·simp only[hd,jAa]at h h1;unfold qyG at h h1;revert h h1;cases qgo ((c::l).takeWhile (at8 qcD))<;>cases nOk (Lib.parseIntB 64 ((c::l).takeWhile (at8 qcD)))<;>cases((qbh ((c::l).takeWhile (at8 qcD))).2==0)<;>cases((qbh ((c::l).takeWhile (at8 qcD))).2==1)<;>simp
  ·simp only[hl,jAa]at h h1 ⊢;cases hw:qbT ((c::l).takeWhile (at8 qch))
   ·simp only[hw,jA9]at h h1 ⊢;cases hg:decide (((c::l).takeWhile (at8 qch)).length>16)
    ·simp only[jA9];have:=of_decide_eq_false hg;exact⟨trivial,trivial,by omega,trivial⟩
    ·simp[hg]at h
   ·simp[hw]at h1
theorem qoK(s:Bs):qdE s=(qyC s&& !qbT s):=by
 rw[jC7];constructor
 ·intro h;simp only[qdE,jA1,jB7]at h;obtain⟨h1,h2,h3⟩:=h;cases hb:decide ((s.length:Int)>2048)
  ·unfold qbr at h1 h2 h3;simp only[hb,jA9]at h1 h2 h3;simp only[qfy]at h1 h2 h3;cases hd:s.drop (blk false s)with
   |nil=>simp[hd]at h2
   |cons c r=>
    simp only[hd]at h1 h2 h3;cases hz:((qaw (c::r)).2.2 != 0)
    ·have hz':(qaw (c::r)).2.2=0:=by simpa using hz
     simp only[hz,jA9]at h1 h2 h3;obtain⟨g1,t,g2⟩:=qcp hz';have hlen:=congrArg List.length hd;simp only[jB0,jA0]at hlen;have hn:=qma false s;have g4:1<=(qaw (c::r)).2.1.length:=by
      cases hq:(qaw (c::r)).2.1 with
      |nil=>exact absurd hq g1
      |cons _ _=>simp
     obtain⟨more,hm⟩:=qCK s.length _ _ _ (by simp only[jB0,jA0];omega) h1;rw[hm]at h3;simp only[jAx,jAk,List.head?_cons,jA1,jB7]at h3;obtain⟨h3,h4⟩:=h3;have g5:=congrArg List.length h4;have g6:=congrArg List.length g2;simp only[jA2,jA0]at g6;have hn0:blk false s=0:=by omega
     rw[hn0,List.drop_zero]at hd;subst hd;obtain⟨_,_,e1,q1,q2,q3,q4⟩:=qUT hz' h3;cases e1;rw[q4]at h4;rw[h4]at q2 q3;have hall:=qk8.1 h4;simp only[qyC,jA1,jB9];exact⟨⟨jA8 q3,q1,hall⟩,q2⟩
    ·simp only[hz,jAa]at h1;rw[h1]at hz;simp at hz
  ·unfold qbr at h1;simp[hb]at h1
 ·intro h;simp only[qyC,jA1,jB9]at h;obtain⟨h,hw⟩:=h;cases s with
  |nil=>cases h
  |cons c r=>
   simp only[jA1,jA6]at h;obtain⟨h16,hl,hall⟩:=h;have hb:decide (((c::r).length:Int)>2048)=false:=by simp only[jBl];omega
   have hb0:blk false (c::r)=0:=by
    simp only[at8,qei,jA1,jA6]at hl;have e1:spI c.toNat=false:=by
     simp only[spI,jB6,jBj,ne_eq];omega
    have e2:((c.toNat:Int)==35)=false:=by
     simp only[jBj,ne_eq];omega
    simp only[blk,e1,e2,jA9]
   have ht:=qk8.2 hall;have hx:qaw (c::r)=(1,c::r,0):=by
    have hg:decide ((c::r).length>16)=false:=by simp only[jBl];omega
    simp only[qaw,hl,jAa,ht,hw,jA9,hg]
   have htk:qbr (c::r)=([⟨1,1,c::r⟩],0,0):=by
    unfold qbr;rw[hb,jA9];simp only[jA0,qfy,hb0,List.drop_zero,hx];simp[qfy,blk]
   simp[qdE,htk]
def qu2(l:List Bs)(s:Bs):List Bs:=
 if l[(l.takeWhile (qbi · s)).length]? = some s then l else l.take (l.takeWhile (qbi · s)).length++[s]++l.drop (l.takeWhile (qbi · s)).length
theorem qID{l:List Bs}{s x:Bs}:x∈qu2 l s ↔ x∈l\/x=s:=by
 unfold qu2;split
 ·rename_i h;have:=jAl h;constructor
  ·exact .inl
  ·rintro(h|rfl)
   ·exact h
   ·exact this
 ·generalize (l.takeWhile (qbi · s)).length=k;have:x∈l ↔ x∈l.take k\/x∈l.drop k:=by rw[<-jAo,jCc]
  simp only[jAo,jAt,this];constructor
  ·rintro((h|h)|h)
   ·exact .inl (.inl h)
   ·exact .inr h
   ·exact .inl (.inr h)
  ·rintro((h|h)|h)
   ·exact .inl (.inl h)
   ·exact .inr h
   ·exact .inl (.inr h)
theorem qIC(l:List Bs)(s:Bs):(qu2 l s).length<=l.length+1:=by
 unfold qu2;split
 ·omega
 ·simp;omega
theorem qpr{x:Bs}:∀{ns l:List Bs},x∈ns.foldl qu2 l ↔ x∈l\/x∈ns
 | [],l=>by simp
 |s::ns,l=>by
  rw[jC3,qpr,qID,jAc,or_assoc]
theorem qx5:∀(ns l:List Bs),(ns.foldl qu2 l).length<=l.length+ns.length
 | [],l=>by simp
 |s::ns,l=>by
  have:=qx5 ns (qu2 l s);have:=qIC l s;simp only[jC3,jA0];omega
mutual
def Ex.names:Ex->List Bs
 | .mk o _ s l=>Ex.namesL (if o=4 then[s]else[]) l
def Ex.namesL:List Bs->List Ex->List Bs
 |acc,[]=>acc
 |acc,e::l=>Ex.namesL ((Ex.names e).foldl qu2 acc) l
end
mutual
theorem qtd:∀e:Ex,e.names.length<=e.nodes
 | .mk o n s l=>by
  have:=qwv (if o=4 then[s]else[]) l;simp only[Ex.names,Ex.nodes];split at this<;>simp_all<;>omega
theorem qwv:∀(acc:List Bs) (l:List Ex),(Ex.namesL acc l).length<=acc.length+Ex.nodesL l
 |acc,[]=>by simp[Ex.namesL]
 |acc,e::l=>by
  have h1:=qtd e;have h2:=qx5 e.names acc;have h3:=qwv (e.names.foldl qu2 acc) l;simp only[Ex.namesL,Ex.nodesL];omega
end
mutual
theorem qBM:∀e:Ex,e.names.all qdE=e.allX qbu
 | .mk o n s l=>by
  simp only[Ex.names,Ex.allX,qwu,qbu,Ex.op,Ex.txt];by_cases h:o=4<;>simp[h]
theorem qwu:∀(acc:List Bs) (l:List Ex),(Ex.namesL acc l).all qdE=(acc.all qdE&&Ex.allL qbu l)
 |acc,[]=>by simp[Ex.namesL,Ex.allL]
 |acc,e::l=>by
  have h1:=qBM e;simp only[Ex.namesL,Ex.allL,qwu];have:(e.names.foldl qu2 acc).all qdE=(acc.all qdE&&e.names.all qdE):=by
   rw[jC7,jA1,jAb,jAb,jAb];constructor
   ·exact fun h=>⟨fun x hx=>h x (qpr.2 (.inl hx)),fun x hx=>h x (qpr.2 (.inr hx))⟩
   ·rintro⟨h,h'⟩ x hx;exact(qpr.1 hx).elim (h x) (h' x)
  rw[this,h1,Bool.and_assoc]
end
def exZ:AV:=.agg [.int .i64 0,.int .i64 0,.str [],.view 4 []]
def qXj(e:AV)(k f:Int):Res×Heap:=(.ret (.tup [e,.int .i64 k,.int .i64 f]),[])
def qJ9(fE fV tw:Nat)(call:qa2):List AV->Heap->Option (Res×Heap)
 | [.view sz es,.int .i64 k],[]=>
  if sz=3 then
   if k<0\/(es.length:Int)<k then some (qXj exZ k 2)
   else match call fE [.ref 0 0 0] [(0,.box [.view 3 es,.int .i64 k] false)]with
    |some (.ret (.agg [.int .i64 o,.int .i64 n,.str s,.view q xs]),[(0,.box [.view q0 es0,.int .i64 k'] false)])=>
     match call fV [.agg [.int .i64 o,.int .i64 n,.str s,.view q xs]] []with
     |some (.ret (.int .i64 f),[])=>if f=0 then some (qXj (.agg [.int .i64 o,.int .i64 n,.str s,.view q xs]) k' 0)else some (qXj exZ k f)
     |_=>none
    |some (.pan (.iface t (.agg [.int .i64 k'])),[(0,.box [.view q0 es0,.int .i64 k0] false)])=>if t=tw then some (qXj exZ k' 2)else none
    |_=>none
  else none
 |_,_=>none
theorem qmv{fE fV tw:Nat}{call:qa2}{a:List AV}{h:Heap}{r:Res×Heap}(hg:qJ9 fE fV tw call a h=some r):∃es k,a= [.view 3 es,.int .i64 k]/\h= [] /\
    (((k < 0 \/ (es.length:Int) < k) /\ r = qXj exZ k 2) \/ (¬ (k < 0 \/ (es.length:Int) < k) /\
      ((∃ o n s q xs q0 es0 k' f,call fE [.ref 0 0 0] [(0,.box [.view 3 es,.int .i64 k] false)] = some (.ret (.agg [.int .i64 o,.int .i64 n,.str s,.view q xs]),[(0,.box [.view q0 es0,.int .i64 k'] false)]) /\
        call fV [.agg [.int .i64 o,.int .i64 n,.str s,.view q xs]] []=some (.ret (.int .i64 f),[])/\r=if f=0 then qXj (.agg [.int .i64 o,.int .i64 n,.str s,.view q xs]) k' 0 else qXj exZ k f) \/
       (∃k' q0 es0 k0,call fE [.ref 0 0 0] [(0,.box [.view 3 es,.int .i64 k] false)]=some (.pan (.iface tw (.agg [.int .i64 k'])),[(0,.box [.view q0 es0,.int .i64 k0] false)])/\r=qXj exZ k' 2)))):=by
  unfold qJ9 at hg;split at hg
  · rename_i sz es k
    split at hg
    · rename_i hsz
      subst hsz;refine⟨es,k,rfl,rfl,?_⟩;split at hg
      · rename_i hk
        cases hg;exact .inl ⟨hk,rfl⟩
      · rename_i hk
        refine .inr ⟨hk,?_⟩;split at hg
        · rename_i o n s q xs q0 es0 k' hc
          split at hg
          · rename_i f hf
            refine .inl ⟨o,n,s,q,xs,q0,es0,k',f,hc,hf,?_⟩;split at hg<;>cases hg<;>rename_i h0
            · rw[jAr h0]
            · rw[jAm h0]
          · cases hg
        · rename_i t k' q0 es0 k0 hc
          split at hg
          · rename_i ht
            subst ht;cases hg;exact .inr ⟨k',q0,es0,k0,hc,rfl⟩
          · cases hg
        · cases hg
    · cases hg
  · cases hg
theorem qXi{c c':qa2}(h:∀f a h r,c f a h=some r->c' f a h=some r){fE fV tw:Nat}{a:List AV}{hp:Heap}{r:Res×Heap}(hg:qJ9 fE fV tw c a hp=some r):qJ9 fE fV tw c' a hp=some r:=by
 obtain⟨es,k,rfl,rfl,hr⟩:=qmv hg;simp only[qJ9,jB2];rcases hr with⟨hk,rfl⟩|⟨hk,⟨o,n,s,q,xs,q0,es0,k',f,h1,h2,rfl⟩|⟨k',q0,es0,k0,h1,rfl⟩⟩
 ·rw[jAr hk]
 ·rw[jAm hk,h _ _ _ _ h1];simp only[h _ _ _ _ h2];split<;>rfl
 ·rw[jAm hk,h _ _ _ _ h1];simp
def qnW(fE fV tw:Nat):Seen where
 g:=qJ9 fE fV tw
 mono:=fun _ _ h _ _ _ hg=>qXi h hg
theorem qB9{IP:Prog}{f fE fV tw:Nat}(hF:IP.fn f=none)(hS:IP.spec f=none)(hs:IP.seen f=some (qnW fE fV tw)){es:List AV}{k:Int}{r:Res×Heap}(hg:qJ9 fE fV tw (qba IP) [.view 3 es,.int .i64 k] []=some r):qba IP f [.view 3 es,.int .i64 k] []=some r:=by
 obtain⟨es',k0,he,_,hr⟩:=qmv hg;cases he;have e:(qnW fE fV tw).g=qJ9 fE fV tw:=rfl;rcases hr with⟨hk,rfl⟩|⟨hk,⟨o,n,s,q,xs,q0,es0,k',f',h1,h2,rfl⟩|⟨k',q0,es0,k0,h1,rfl⟩⟩
 ·refine qj1 hF hS hs (n:=0) ?_;rw[e];simp only[qJ9,jB2,jAr hk]
 ·obtain⟨n1,hn1⟩:=qcd.1 h1;obtain⟨n2,hn2⟩:=qcd.1 h2;refine qj1 hF hS hs (n:=max n1 n2) ?_;rw[e];simp only[qJ9,jB2,jAm hk,(qbI (Nat.le_max_left n1 n2)).1 _ _ _ _ hn1,(qbI (jCq n1 n2)).1 _ _ _ _ hn2];split<;>rfl
 ·obtain⟨n1,hn1⟩:=qcd.1 h1;refine qj1 hF hS hs (n:=n1) ?_;rw[e];simp only[qJ9,jB2,jAm hk,hn1]
abbrev PaR:Type:=Int×Int×Bs×List AV×Int×Int
def paF(r:PaR):Res×Heap:=qXj (.agg [.int .i64 r.1,.int .i64 r.2.1,.str r.2.2.1,.view 4 r.2.2.2.1]) r.2.2.2.2.1 r.2.2.2.2.2
noncomputable def paB(IP:Prog)(f:Nat)(es:List AV)(k:Int):Bool:=@decide (∃r,qba IP f [.view 3 es,.int .i64 k] []=some (paF r)) (Classical.propDecidable _)
open Classical in
noncomputable def paV(IP:Prog)(f:Nat)(es:List AV)(k:Int):PaR:=if h:∃r,qba IP f [.view 3 es,.int .i64 k] []=some (paF r)then h.choose else(0,0,[],[],0,0)
theorem zka{IP:Prog}{f:Nat}{es:List AV}{k:Int}{r:PaR}(h:qba IP f [.view 3 es,.int .i64 k] []=some (paF r)):paB IP f es k=true/\paV IP f es k=r:=by
 have hx:∃r,qba IP f [.view 3 es,.int .i64 k] []=some (paF r):=⟨r,h⟩;refine⟨by unfold paB;exact@jA8 _ (Classical.propDecidable _) hx,?_⟩;unfold paV;rw[dif_pos hx];have:=h.symm.trans hx.choose_spec;obtain⟨a,b,c,d,e,g⟩:=r;generalize hx.choose=z at this;obtain⟨a',b',c',d',e',g'⟩:=z;simp only[paF,qXj,jA7,jAd,Res.ret.injEq,AV.tup.injEq,AV.agg.injEq,jC5,AV.int.injEq,AV.str.injEq,AV.view.injEq,and_true,true_and]at this;obtain⟨⟨rfl,rfl,rfl,rfl⟩,rfl,rfl⟩:=this;rfl
theorem zd2{IP:Prog}{f:Nat}{es:List AV}{k:Int}(h:paB IP f es k=true):qba IP f [.view 3 es,.int .i64 k] []=some (paF (paV IP f es k)):=by
 have hx:∃r,qba IP f [.view 3 es,.int .i64 k] []=some (paF r):=by
  unfold paB at h;exact@jBd _ (Classical.propDecidable _) h
 obtain⟨r,hr⟩:=hx;rw[(zka hr).2];exact hr
noncomputable def paO(IP:Prog)(f:Nat)(es:List AV)(k:Int):Int:=(paV IP f es k).1
noncomputable def paN(IP:Prog)(f:Nat)(es:List AV)(k:Int):Int:=(paV IP f es k).2.1
noncomputable def paS(IP:Prog)(f:Nat)(es:List AV)(k:Int):Bs:=(paV IP f es k).2.2.1
noncomputable def paX(IP:Prog)(f:Nat)(es:List AV)(k:Int):List AV:=(paV IP f es k).2.2.2.1
noncomputable def paK(IP:Prog)(f:Nat)(es:List AV)(k:Int):Int:=(paV IP f es k).2.2.2.2.1
noncomputable def paE(IP:Prog)(f:Nat)(es:List AV)(k:Int):Int:=(paV IP f es k).2.2.2.2.2
noncomputable def zqg(IP:Prog)(f:Nat):Ent:=fun a h=>match a,h with
 | [.view 3 es,.int .i64 k],[]=>[(paB IP f es k,.ret (.tup [.agg [.int .i64 (paO IP f es k),.int .i64 (paN IP f es k),.str (paS IP f es k),.view 4 (paX IP f es k)],.int .i64 (paK IP f es k),.int .i64 (paE IP f es k)]),[])]
 |_,_=>[]
theorem zd5(IP:Prog)(f:Nat):Snd IP f (zqg IP f):=by
 intro a h r h' hm;unfold zqg at hm;split at hm
 ·simp only[jAt,jAd,jBv (a:=true)]at hm;obtain⟨h1,rfl,rfl⟩:=hm;exact zd2 h1
 ·cases hm
end Go.Tk

/- Definitions of products: which products the program prints. -/
import Derived.Test.YtjhhnkemeegahaaGreatDoorX16Pri
import Derived.Test.YtjhhnkemeegahaaGreatDoorX16Tok
import Derived.Test.YtjhhnkemeegahaaGreatDoorTkA
import Derived.Test.YtjhhnkemeegahaaGreatDoorX16Tks
import Derived.Test.YtjhhnkemeegahaaGreatDoorE3
set_option linter.all false
namespace Go.Proofs.H16
open Go Go.Eng Go.Tk
set_option maxRecDepth 20000
theorem qi3(s:Bs):qhI s=some (qcE s):=by
 rw[qN6,qrB,qee,qcE];simp only[ev_bi_some,br_eq,cond_some,jA5];cases h0:((qbp s).2.2==0)
 ·simp
 ·cases hl:(qbp s).1 with
  |nil=>simp
  |cons t l=>
   cases l with
   |nil=>
    have e1:qaD ksT (ET [t]) 0=true:=okT (l:=[t]) (n:=0) (by simp);have e2:intOf (cellAt (ET [t]) 0 0)=t.kind:=qt0 (l:=[t]) (n:=0) (by simp);have e3:strOf (cellAt (ET [t]) 0 2)=t.text:=qt2 (l:=[t]) (n:=0) (by simp);simp only[jAa,e1,e2,e3,jA0,jA4,List.head?_cons];cases hk:(t.kind==1)<;>simp
   |cons u l=>
    have:(((t::u::l).length:Int)==1)=false:=by simp;omega
    simp only[this,jAa,jA9,ev_bi_some,ev_at];simp
abbrev qAg(x:Int):Bool:=decide (x>=65)&&decide (x<=90)
theorem qP0{s:Bs}(hl:s.length<=big):qD3 (s,(s.length:Int),0)=some (bif s.any (fun c=>!at8 qAg c)then 0 else 1,s,(s.length:Int),((s.findIdx fun c=>!at8 qAg c:Nat):Int)):=by
 rw[qD4,<-qaP];refine qaH (hd:=fun i=>(s,(s.length:Int),(i:Int))) (jx:=fun _=>0) _ 1 (fun i hn=>?_) ?_
 ·simp only[qwK,qwL,qaR hn,qaW hn,qaX hn,ev_br,br_eq,jAa,at8,qAg,qan hn hl];have e1:decide ((s[i].toNat:Int)>=65)= !decide ((s[i].toNat:Int)<65):=by
   by_cases h:(s[i].toNat:Int)<65
   ·simp[h]
   ·simp[h];omega
  have e2:decide ((s[i].toNat:Int)<=90)= !decide ((s[i].toNat:Int)>90):=by
   by_cases h:(s[i].toNat:Int)>90
   ·simp[h]
   ·simp[h];omega
  simp only[e1,e2];cases decide ((s[i].toNat:Int)<65)<;>cases decide ((s[i].toNat:Int)>90)<;>rfl
 ·simp[qwK,qwL]
theorem qgt{α:Type}(p:α->Bool)(l:List α):l.any (fun c=>!p c)= !l.all p:=by rw[List.all_eq_not_any_not,Bool.not_not]
theorem qyd{s:Bs}(hl:s.length<=1000000):∃x,qyc s=some (x,qFN s)/\(qFN s=true->x=qhm s):=by
 have hL:=qP0 (s:=s) (by simp only[big];omega);rw[qgt]at hL;rw[qVL,qCI,hL];unfold qFN;show ∃x,_=some (x,s.all (at8 qAg)&&_)/\_;cases hc:s.all (at8 qAg)
 ·exact⟨[],rfl,fun h=>by cases h⟩
 ·obtain⟨h1,h2⟩:=qXi hc;have hd:(decide (s.length<=1000000)&&qDg s)=true:=by rw[h2,jA8 hl];rfl
  have h3:((s.length:Int)==3)=(s.length==3):=by
   rw[jC7,jB7,jB7];omega
  refine⟨qhm s,(biN (by rfl)).trans ((biS (v:=(s,(s.length:Int),((s.findIdx fun c=>!at8 qAg c:Nat):Int))) (by rfl)).trans ((brT hd).trans ?_)),fun _=>rfl⟩;show(DT.bi (br ((s.length:Int)==3) (br (sm (qbU (Lib.toLowerA s))) (some !gv (qbU (Lib.toLowerA s))) none) (some false)) (fun y1=>DT.at (Lib.toLowerA s,y1)) DT.no).ev=_;rw[h1,qdj,h3];cases(s.length==3)<;>rfl
theorem qtN(n:Int):qj9 n=some (decide (n>=0)&&decide (n<=1000000)):=by
 rw[qN7,qrC,q95];rfl
theorem qlb{n:Int}{l:List AV}{k:Nat}(hk:l.length=k):qqy n l=some (qjT n (k:Int)):=by
 rw[qV0,qCZ,q95,hk];rfl
abbrev HdI(x:In)(i:Int):qhA:=(ETr x.tiers,(x.tiers.length:Int),i,ETr x.tiers,x.marg,x.basis,x.mode,x.keep)
theorem qye{x:In}(hl:x.tiers.length<=big):qqw (ETr x.tiers) x.marg x.basis x.mode x.keep=some (qnq x):=by
 have hL:qD5 (HdI x 0)=some (bif x.tiers.any (fun t=>!qjU t)then 0 else 1,HdI x ((x.tiers.findIdx fun t=>!qjU t:Nat):Int)):=by
  rw[qD6,<-qaP];refine qaH (hd:=fun i=>HdI x (i:Int)) (jx:=fun _=>0) _ 1 (fun i hn=>?_) ?_
  ·simp only[qwM,qwN,qaR hn,zgU hn,zjR hn,zjS hn,qtN,sm_some,gv_some,ev_br,br_eq,jAa,qan hn hl,qjU];have e1:decide (x.tiers[i].from_>=0)= !decide (x.tiers[i].from_<0):=by
    by_cases h:x.tiers[i].from_<0
    ·simp[h]
    ·simp[h];omega
   simp only[e1];cases decide (x.tiers[i].from_<0)<;>cases(decide (x.tiers[i].ppm>=0)&&decide (x.tiers[i].ppm<=1000000))<;>rfl
  ·simp[qwM,qwN]
 rw[qgt]at hL;rw[qVM,qCJ,jA5];simp only[HdI]at hL;rw[hL];unfold qnq;cases hc:x.tiers.all qjU
 ·rfl
 ·refine(biN (by rfl)).trans ((biS (v:=HdI x ((x.tiers.findIdx fun t=>!qjU t:Nat):Int)) (by rfl)).trans ((biS qec).trans ((biS (qlb (k:=4) rfl)).trans ?_)));show(DT.br (qjT x.basis 4) _ _).ev=_;cases qjT x.basis 4
  ·rfl
  ·exact(brT rfl).trans ((biS qed).trans ((biS (qlb (k:=6) rfl)).trans rfl))
structure Sml (p:Pr):Prop where
 cur:p.cur.length<=1000000
 cr:p.cr.tiers.length<=2048
 de:p.de.tiers.length<=2048
 fl:p.fees.length<=2048
 rl:p.rules.length<=2048
 fees:∀x∈p.fees,x.when_.nodes<=big/\x.amount.nodes<=big
 rules:∀x∈p.rules,x.amount.nodes<=big
abbrev HdW(p:Pr)(i:Int):qhB:=(EF p.fees,(p.fees.length:Int),i,p.name,p.cur,p.cal,p.from_,p.every,p.over,p.tax,ETr p.cr.tiers,p.cr.marg,p.cr.basis,p.cr.mode,p.cr.keep,ETr p.de.tiers,p.de.marg,p.de.basis,p.de.mode,p.de.keep,EF p.fees,ER p.rules)
theorem qP1{p:Pr}(hs:Sml p):qD7 (HdW p 0)=some (bif p.fees.any (fun x=>!feB x)then 0 else 1,HdW p ((p.fees.findIdx fun x=>!feB x:Nat):Int)):=by
 rw[qD8,<-qaP];refine qaH (hd:=fun i=>HdW p (i:Int)) (jx:=fun _=>0) _ 1 (fun i hn=>?_) ?_
 ·obtain⟨n1,n2⟩:=hs.fees _ (jAi hn);simp only[qwO,qwP,qaR hn,Tk.okF hn,qf0 hn,qf1 hn,qf2 hn,qf3 hn,qf4 hn,qf5 hn,qf6 hn,qf7 hn,qf8 hn,qf9 hn,qi3,qhi,qlb (l:=ES eventsL) (k:=4) rfl,qef n1,qef n2,ev_bi_some,ev_br,jAa,qan hn (show p.fees.length<=big by have:=hs.fl;simp only[big];omega),feB,bne];cases qcE p.fees[i].name<;>cases qjT p.fees[i].event 4<;>cases(qaL p.fees[i].when_==0)<;>cases(qaL p.fees[i].amount==0)<;>rfl
 ·simp[qwO,qwP]
theorem qP2{l:List Ru}(hl:l.length<=big)(hs:∀x∈l,x.amount.nodes<=big):qD9 (ER l,(l.length:Int),0)=some (bif l.any (fun x=>!ruB x)then 0 else 1,ER l,(l.length:Int),((l.findIdx fun x=>!ruB x:Nat):Int)):=by
 rw[qEa,<-qaP];refine qaH (hd:=fun i=>(ER l,(l.length:Int),(i:Int))) (jx:=fun _=>0) _ 1 (fun i hn=>?_) ?_
 ·have n1:=hs _ (jAi hn);simp only[qwQ,qwR,qaR hn,Tk.okR hn,qr0 hn,qr1 hn,qr2 hn,qr3 hn,qr4 hn,qr5 hn,qi3,qcW,qlb (l:=ES windowsL) (k:=3) rfl,qef n1,ev_bi_some,ev_br,jAa,qan hn hl,ruB,bne];cases qcE l[i].name<;>cases qjT l[i].window 3<;>cases(qaL l[i].amount==0)<;>rfl
 ·simp[qwQ,qwR]
theorem zu9(n:Int):decide (n<0)= !decide (n>=0):=by
 by_cases h:n<0
 ·simp[h]
 ·simp[h];omega
theorem qPK{p:Pr}(hs:Sml p):qDJ p.name p.cur p.cal p.from_ p.every p.over p.tax (ETr p.cr.tiers) p.cr.marg p.cr.basis p.cr.mode p.cr.keep (ETr p.de.tiers) p.de.marg p.de.basis p.de.mode p.de.keep (EF p.fees) (ER p.rules)=some (qzM p):=by
 obtain⟨x,hc,_⟩:=qyd hs.cur;have i1:=qye (x:=p.cr) (by have:=hs.cr;simp only[big];omega);have i2:=qye (x:=p.de) (by have:=hs.de;simp only[big];omega);have l0:=qP1 hs;have l1:=qP2 (l:=p.rules) (by have:=hs.rl;simp only[big];omega) hs.rules;rw[qgt]at l0 l1;rw[qVN,qCK,hc,qi3,qi3,que,qtN,i1,i2];simp only[sm_some,gv_some,ev_bi_some,qeY,zu9,br_eq,jAa,cond_some];unfold qzM;generalize qFN p.cur=b1;generalize qcE p.name=b2;generalize qcE p.cal=b3;generalize (decide (p.from_>=0)&&decide (p.from_<=73048))=b4;generalize decide (p.every>=0)=b5;generalize decide (p.over>=0)=b6;generalize (decide (p.tax>=0)&&decide (p.tax<=1000000))=b7;generalize qnq p.cr=b8;generalize qnq p.de=b9;cases b1
 ·rfl
 cases b2
 ·rfl
 cases b3
 ·rfl
 cases b4
 ·rfl
 cases b5
 ·rfl
 cases b6
 ·rfl
 cases b7
 ·rfl
 cases b8
 ·rfl
 cases b9
 ·rfl
 refine(brF rfl).trans ?_;simp only[HdW]at l0;simp only[jA5];rw[l0];cases p.fees.all feB
 ·rfl
 ·refine(biN (by rfl)).trans ((biS (v:=HdW p ((p.fees.findIdx fun x=>!feB x:Nat):Int)) (by rfl)).trans ?_);simp only[HdW,jA5];rw[l1];cases p.rules.all ruB<;>rfl
end Go.Proofs.H16
namespace Go.Tk
open Go Go.Eng
set_option maxRecDepth 20000
def zjO:List (Int×Bs)->Prop
 | []=>True
 |x::l=>(kindP x.2=x.1/\x.2.isEmpty=false)/\zjO l
theorem kd{k:Int}{s:Bs}(h:(kindP s==k&& !s.isEmpty)=true):kindP s=k/\s.isEmpty=false:=by
 simpa using h
theorem kN{s:Bs}(h:qcE s=true):kindP s=1/\s.isEmpty=false:=by
 rw[qqm,jA1]at h;obtain⟨h1,h2⟩:=h;have h2':qbO s=false:=by simpa using h2
 cases s with
 |nil=>cases h1
 |cons c r=>
  unfold qBa at h1;simp only[jA1]at h1;refine⟨?_,rfl⟩;unfold kindP;rw[h2',jA9];simp only;rw[h1.2.1];rfl
theorem kWn{ws:List Bs}(hw:ws.all (fun w=>kindP w==5&& !w.isEmpty)=true){b k:Int}(h:qjT b k=true)(hk:k=(ws.length:Int)):kindP (qxp ws b)=5/\(qxp ws b).isEmpty=false:=by
 unfold qjT at h;simp only[jA1,jA6]at h;have hb:(b-1).toNat<ws.length:=by omega
 have hm:qxp ws b∈ws:=by
  unfold qxp;rw[jAh hb];exact jAi hb
 exact kd (jAb.1 hw _ hm)
theorem qIM:∀{l:List (Int×Bs)} (n:Int),zjO l->(l.map fun x=>AV.str x.2).map (tkA n)=ET (lnT n l)
 | [],n,_=>rfl
 |x::l,n,h=>by
  have e:tkA n (.str x.2)=Tok.av ⟨x.1,n,x.2⟩:=by
   show AV.agg [.int .i64 (kindP x.2),.int .i64 n,.str x.2]=_;rw[h.1.1];rfl
  show tkA n (.str x.2)::(l.map fun x=>AV.str x.2).map (tkA n)=Tok.av ⟨x.1,n,x.2⟩::ET (lnT n l);rw[e,qIM n h.2]
theorem qAZ:∀{l:List (Int×Bs)},zjO l->(l.map fun x=>AV.str x.2).all strB=true
 | [],_=>rfl
 |x::l,h=>by
  rw[jAs,jAw,qAZ h.2];show(!x.2.isEmpty&&true)=true;rw[h.1.2];rfl
theorem qhU{L:List AV}{acc:List Tok}(h:L=ET acc){k k' ln m:Int}{s:Bs}(hk:k=k')(hl:ln=m):L++[AV.agg [AV.int IntKind.i64 k,AV.int IntKind.i64 ln,AV.str s]]=ET (acc++[⟨k',m,s⟩]):=by
 rw[h,hk,hl];exact(jCi (f:=Tok.av) (l₁:=acc) (l₂:=[⟨k',m,s⟩])).symm
theorem zj6(a b:List Tok):ET (a++b)=ET a++ET b:=jCi ..
theorem qpu{L:List AV}{acc:List Tok}(h:L=ET acc)(hl:acc.length<=1000000):room (L.length+1) 32=true:=by
 rw[h,jA5];exact qcm (by simp only[lim];omega)
theorem q3g(e:Ex):wrB e≠ []:=by
 obtain⟨o,n,s,l⟩:=e
 match l with
 | []=>
  rw[qcQ rfl];unfold qxw
  (repeat' split)<;>simp
 | [a]=>rw[qjQ rfl];simp
 | [a,b]=>
  by_cases h:o=17\/o=18
  ·rw[qg4 (e:=.mk o n s [a,b]) rfl h];simp
  ·rw[qov (e:=.mk o n s [a,b]) rfl (fun e=>h (.inl e)) (fun e=>h (.inr e))];simp
 |a::b::c::m=>rw[qFE rfl];simp
section
variable {α τ:Type}
def qFL(g:Nat->α->List Tok):Nat->List α->List Tok
 |_,[]=>[]
 |n,x::l=>g n x++qFL g (n+1) l
theorem qMz(g:Int->α->List Tok):∀(l:List α) (k:Nat) (m:Int),qbY g (m+(k:Nat)) l=qFL (fun n=>g (m+(n:Nat))) k l
 | [],_,_=>rfl
 |x::l,k,m=>by
  rw[qbY,qFL,<-qMz g l (k+1) m]
  congr 2
  omega
theorem qif(g:Int->α->List Tok)(l:List α)(m:Int):qbY g m l=qFL (fun n=>g (m+(n:Nat))) 0 l:=by
 rw[<-qMz g l 0 m];congr 1;simp
theorem qA6(f:α->Tok):∀(l:List α) (k:Nat),l.map f=qFL (fun _ x=>[f x]) k l
 | [],_=>rfl
 |x::l,k=>by rw[jAs,qFL,qA6 f l (k+1)];rfl
theorem qqg:∀(l:List Tr) (n:Int),qcp n l=qbY qm4 n l
 | [],_=>rfl
 |t::l,n=>by rw[qcp,qbY,qqg l (n+1)]
theorem qJI{st:τ->Option (Rd τ)}{xs:List α}(hd:Nat->List Tok->τ)(g:Nat->α->List Tok)(jx:Nat)
  (hs:∀n (hn:n<xs.length) acc,acc.length+(g n xs[n]).length<=1000000->st (hd n acc)=some (.next (hd (n+1) (acc++g n xs[n]))))
  (he:∀acc,st (hd xs.length acc)=some (.done jx)):∀(k n:Nat) (acc:List Tok),n+k=xs.length->acc.length+(qFL g n (xs.drop n)).length<=1000000 ->
  qae st (hd n acc)=some (jx,hd xs.length (acc++qFL g n (xs.drop n))):=by
 intro k
 induction k with
 |zero=>
  intro n acc hn hl;have:n=xs.length:=by omega
  subst this;rw[jC0,qFL,jC6];exact qaf (he acc)
 |succ k ih=>
  intro n acc hn hl;have hlt:n<xs.length:=by omega
  rw[List.drop_eq_getElem_cons hlt,qFL]at hl ⊢;rw[jA2]at hl;rw[qal (hs n hlt acc (by omega)),ih (n+1) _ (by omega) (by rw[jA2];omega),jAf]
theorem qgu{st:τ->Option (Rd τ)}{xs:List α}(hd:Nat->List Tok->τ)(g:Nat->α->List Tok)(jx:Nat)
  (hs:∀n (hn:n<xs.length) acc,acc.length+(g n xs[n]).length<=1000000->st (hd n acc)=some (.next (hd (n+1) (acc++g n xs[n]))))
  (he:∀acc,st (hd xs.length acc)=some (.done jx)) {acc:List Tok} (hl:acc.length+(qFL g 0 xs).length<=1000000) :
  qae st (hd 0 acc)=some (jx,hd xs.length (acc++qFL g 0 xs)):=qJI hd g jx hs he xs.length 0 acc (by omega) hl
end
end Go.Tk
namespace Go.Proofs.H16
open Go Go.Eng Go.Tk
set_option maxRecDepth 20000
theorem qzJ{ln m:Int}(hm:ln+1=m)(h0:0<=m/\m<=1000000):IntKind.i64.wrap (ln+1)=m:=by
 obtain⟨k,rfl⟩:∃k:Nat,m=(k:Int):=⟨m.toNat,by omega⟩;cases k with
 |zero=>
  have:ln= -1:=by omega
  subst this;rfl
 |succ k=>
  have:ln=(k:Int):=by omega
  subst this;exact qan (m:=k+1) (by omega) (by simp only[big];omega)
theorem zg3(l:List (Int×Bs)){ln m:Int}(hm:ln+1=m)(h0:0<=m/\m<=1000000)(hk:zjO l)(hl:1<=l.length/\l.length<=1000):qx8 (l.map fun x=>AV.str x.2) ln=some (m,ET (lnT m l)):=by
 rw[qVh,qB9,qAZ hk,qzJ hm h0,qIM m hk,jA5];have e:(l.map fun x=>AV.str x.2).isEmpty=false:=by cases l with
  |nil=>simp at hl
  |cons x l=>rfl
 rw[e,qcm (by simp only[lim,Prod.i,Prod.h,Prod.f];omega)];rfl
theorem q6E(l:List (Int×Bs)){ln m:Int}(hm:ln+1=m)(h0:0<=m/\m<=1000000){L:List AV}{acc:List Tok}(hL:L=ET acc)(hk:zjO l)(hl:1<=l.length/\l.length+acc.length<=1000000):qcJ (l.map fun x=>AV.str x.2) ln L=some (m,ET (acc++lnT m l)):=by
 rw[qVf,qB4,qAZ hk,qzJ hm h0,qIM m hk,jA5,hL,jA5];have e:(l.map fun x=>AV.str x.2).isEmpty=false:=by cases l with
  |nil=>simp at hl
  |cons x l=>rfl
 rw[e,qcm (by simp only[lim,Prod.i,Prod.h,Prod.f];omega),zj6];rfl
theorem zsK{k ln m:Int}{s:Bs}(hm:ln=m){L:List AV}{acc:List Tok}(hL:L=ET acc)(hl:acc.length<1000000):qd4 k s ln L=some (m,ET (acc++[⟨k,m,s⟩])):=by
 rw[quF,qjD];refine(brT (qpu hL (by omega))).trans ?_;rw[qhU hL rfl hm,hm];rfl
theorem zw6{n ln m:Int}(hn:0<=n/\n<=9223372036854775807)(hm:ln=m){L:List AV}{acc:List Tok}(hL:L=ET acc)(hl:acc.length<1000000):qkf n ln L=some (m,ET (acc++[⟨2,m,Lib.itoa n⟩])):=by
 rw[qVj,qCe];have h:(decide (-9223372036854775808<=n)&&decide (n<=9223372036854775807))=true:=by
  rw[jA8 (by omega),jA8 hn.2];rfl
 exact(brT h).trans ((biS (zsK hm hL hl)).trans rfl)
theorem qZ2{n:Int}(hn:0<=n/\n<=1000000):qQh n=(qiJ n.toNat,0):=by
 have e:(decide (n<0)||decide (n>1000000))=false:=by rw[jAe (by omega),jAe (by omega)];rfl
 unfold qQh;rw[e];rfl
theorem zsO{n ln m:Int}(hn:0<=n/\n<=1000000)(hm:ln=m){L:List AV}{acc:List Tok}(hL:L=ET acc)(hl:acc.length<1000000):quD n ln L=some (m,ET (acc++[⟨3,m,qiJ n.toNat⟩])):=by
 rw[qVt,qCq];refine(biS (qmo n)).trans ?_;rw[qZ2 hn];exact(biS (zsK hm hL hl)).trans rfl
theorem k47:Tk.kindP [47]=4:=(kd (by kernel_rfl)).1
theorem k58:Tk.kindP [58]=4:=(kd (by kernel_rfl)).1
theorem k59:Tk.kindP [59]=4:=(kd (by kernel_rfl)).1
theorem kAm:Tk.kindP [97,109,111,117,110,116,95,111,102]=5:=(kd (by kernel_rfl)).1
theorem qdg(l:List (Int×Bs))(m:Int)(acc:List Tok)(h0:0<=m/\m<=1000000)(hk:zjO l)(hl:1<=l.length/\l.length+acc.length<=1000000):∃a,a=acc++lnT m l/\a.length=acc.length+l.length/\ ∀{ln:Int} {L:List AV},ln+1=m->L=ET acc->qcJ (l.map fun x=>AV.str x.2) ln L=some (m,ET a):=
 ⟨_,rfl,by rw[jA2,lnT,jA5],fun hm hL=>q6E l hm h0 hL hk hl⟩
theorem zj2{n:Int}(m:Int)(acc:List Tok)(hn:0<=n/\n<=9223372036854775807)(hl:acc.length<1000000):∃a,a=acc++[⟨2,m,Lib.itoa n⟩]/\a.length=acc.length+1/\ ∀{ln:Int} {L:List AV},ln=m->L=ET acc->qkf n ln L=some (m,ET a):=
 ⟨_,rfl,by simp,fun hm hL=>zw6 hn hm hL hl⟩
theorem zog{n:Int}(m:Int)(acc:List Tok)(hn:0<=n/\n<=1000000)(hl:acc.length<1000000):∃a,a=acc++[⟨3,m,qiJ n.toNat⟩]/\a.length=acc.length+1/\ ∀{ln:Int} {L:List AV},ln=m->L=ET acc->quD n ln L=some (m,ET a):=
 ⟨_,rfl,by simp,fun hm hL=>zsO hn hm hL hl⟩
theorem qeR(acc:List Tok)(t:Tok):∃a,a=acc++[t]/\a.length=acc.length+1:=⟨_,rfl,by simp⟩
noncomputable def qqP(p:Pr):List Tok:=lnT 1 [(5,[112,114,111,100,117,99,116]),(1,p.name),(4,[123])]++(lnT 2 [(5,[99,117,114,114,101,110,99,121]),(1,qhm p.cur),(4,[59])]++(lnT 3 [(5,[99,97,108,101,110,100,97,114]),(1,p.cal),(4,[59])] ++
 (lnT 4 [(5,[102,114,111,109]),(2,Lib.itoa (qc4 p.from_).1),(4,[47]),(2,Lib.itoa (qc4 p.from_).2.1),(4,[47]),(2,Lib.itoa (qc4 p.from_).2.2),(4,[59])] ++
 (lnT 5 [(5,[101,118,101,114,121]),(2,Lib.itoa p.every),(4,[59])]++(lnT 6 [(5,[111,118,101,114,100,114,97,102,116]),(4,[36]),(2,Lib.itoa p.over),(4,[59])]++lnT 7 [(5,[116,97,120]),(3,qiJ p.tax.toNat),(4,[59])])))))
theorem znK{p:Pr}(hs:Sml p)(h:qzM p=true)(hf:FitP p)(t1:List AV)(m1:Bool)(b1 o1:Int)(k1:Bool)(t2:List AV)(m2:Bool)(b2 o2:Int)(k2:Bool)(fs rs:List AV):qDF p.name p.cur p.cal p.from_ p.every p.over p.tax t1 m1 b1 o1 k1 t2 m2 b2 o2 k2 fs rs 0=some (7,ET (qqP p)):=by
 obtain⟨x,hc,hx⟩:=qyd hs.cur;obtain⟨hP,hN⟩:=qxl h hf;have hcb:qFN p.cur=true:=by
  unfold qzM at h;simp only[jA1]at h;exact h.1
 have hx':=hx hcb;subst hx';have rg:∀z:Int,0<=z->z<=99999->0<=z/\z<=9223372036854775807:=fun z a b=>by omega
 have y0:0<=(qc4 p.from_).1/\(qc4 p.from_).1<=9223372036854775807:=hP.y0;have m0:0<=(qc4 p.from_).2.1/\(qc4 p.from_).2.1<=9223372036854775807:=hP.m0;have d0:0<=(qc4 p.from_).2.2/\(qc4 p.from_).2.2<=9223372036854775807:=hP.d0;obtain⟨a1,e1,n1⟩:∃a,a=lnT 1 [(5,[112,114,111,100,117,99,116]),(1,p.name),(4,[123])]/\a.length=3:=⟨_,rfl,rfl⟩;have h1:qx8 [AV.str [112,114,111,100,117,99,116],AV.str p.name,AV.str [123]] 0=some (1,ET a1):=by
  rw[e1];exact zg3 [(5,[112,114,111,100,117,99,116]),(1,p.name),(4,[123])] (m:=1) rfl (by decide) ⟨kd (by kernel_rfl),kN hN.name,kd (by kernel_rfl),trivial⟩ ⟨by simp,by simp⟩
 obtain⟨a2,e2,n2,h2⟩:=qdg [(5,[99,117,114,114,101,110,99,121]),(1,qhm p.cur),(4,[59])] 2 a1 (by decide) ⟨kd (by kernel_rfl),kN hN.cur,kd (by kernel_rfl),trivial⟩ (by simp only[jA0,jA4];omega);obtain⟨a3,e3,n3,h3⟩:=qdg [(5,[99,97,108,101,110,100,97,114]),(1,p.cal),(4,[59])] 3 a2 (by decide) ⟨kd (by kernel_rfl),kN hN.cal,kd (by kernel_rfl),trivial⟩ (by simp only[jA0,jA4]at *;omega);obtain⟨a4,e4,n4,h4⟩:=qdg [(5,[102,114,111,109])] 4 a3 (by decide) ⟨kd (by kernel_rfl),trivial⟩ (by simp only[jA0,jA4]at *;omega);simp only[jA0,jA4]at n2 n3 n4;obtain⟨a5,e5,n5,h5⟩:=zj2 4 a4 y0 (by omega);obtain⟨a6,e6,n6⟩:=qeR a5 ⟨4,4,[47]⟩;obtain⟨a7,e7,n7,h7⟩:=zj2 4 a6 m0 (by omega);obtain⟨a8,e8,n8⟩:=qeR a7 ⟨4,4,[47]⟩;obtain⟨a9,e9,n9,h9⟩:=zj2 4 a8 d0 (by omega);obtain⟨b1',f1,m1'⟩:=qeR a9 ⟨4,4,[59]⟩;obtain⟨b2',f2,m2',g2⟩:=qdg [(5,[101,118,101,114,121])] 5 b1' (by decide) ⟨kd (by kernel_rfl),trivial⟩ (by simp only[jA0,jA4];omega);simp only[jA0,jA4]at m2';obtain⟨b3,f3,m3,g3⟩:=zj2 5 b2' hP.every (by omega);obtain⟨b4,f4,m4⟩:=qeR b3 ⟨4,5,[59]⟩;obtain⟨b5,f5,m5,g5⟩:=qdg [(5,[111,118,101,114,100,114,97,102,116]),(4,[36])] 6 b4 (by decide) ⟨kd (by kernel_rfl),kd (by kernel_rfl),trivial⟩ (by simp only[jA0,jA4];omega);simp only[jA0,jA4]at m5;obtain⟨b6,f6,m6,g6⟩:=zj2 6 b5 hP.over (by omega);obtain⟨b7,f7,m7⟩:=qeR b6 ⟨4,6,[59]⟩;obtain⟨b8,f8,m8,g8⟩:=qdg [(5,[116,97,120])] 7 b7 (by decide) ⟨kd (by kernel_rfl),trivial⟩ (by simp only[jA0,jA4];omega);simp only[jA0,jA4]at m8;obtain⟨b9,f9,m9,g9⟩:=zog 7 b8 hP.tax (by omega);have fin:b9++[⟨4,7,[59]⟩]=qqP p:=by
  rw[f9,f8,f7,f6,f5,f4,f3,f2,f1,e9,e8,e7,e6,e5,e4,e3,e2,e1];simp only[qqP,lnT,jAs,jCe,jAf,jAk,jAx]
 rw[qVr,qCo];refine(biS hc).trans ((biS h1).trans ((biS (h2 rfl rfl)).trans ((biS (h3 rfl rfl)).trans ((biS (qHC p.from_)).trans ((biS (h4 rfl rfl)).trans ((biS (h5 rfl rfl)).trans ?_))))));refine(brT (qpu rfl (by omega))).trans ((biS (h7 rfl ((qhU rfl k47 rfl).trans (congrArg ET e6.symm)))).trans ?_);refine(brT (qpu rfl (by omega))).trans ((biS (h9 rfl ((qhU rfl k47 rfl).trans (congrArg ET e8.symm)))).trans ?_);refine(brT (qpu rfl (by omega))).trans ((biS (g2 rfl ((qhU rfl k59 rfl).trans (congrArg ET f1.symm)))).trans ((biS (g3 rfl rfl)).trans ?_));refine(brT (qpu rfl (by omega))).trans ((biS (g5 rfl ((qhU rfl k59 rfl).trans (congrArg ET f4.symm)))).trans ((biS (g6 rfl rfl)).trans ?_));refine(brT (qpu rfl (by omega))).trans ((biS (g8 rfl ((qhU rfl k59 rfl).trans (congrArg ET f7.symm)))).trans ((biS (g9 rfl rfl)).trans ?_));refine(brT (qpu rfl (by omega))).trans ?_;refine congrArg some (Prod.ext rfl ?_);exact(qhU rfl k59 (m:=7) rfl).trans (congrArg ET fin)
end Go.Proofs.H16
namespace Go.Proofs.H16
open Go Go.Eng Go.Tk
set_option maxRecDepth 20000
theorem zgE{ts:List Tr}(ht:∀t∈ts,qjP t){ln:Int}{acc:List Tok}(h0:0<=ln)(hb:ln+ts.length<=999999)(hl:acc.length+(qcp (ln+1) ts).length<=1000000) :
  qqz (ETr ts,(ts.length:Int),0,ln,ET acc)=some (0,ETr ts,(ts.length:Int),(ts.length:Int),ln+(ts.length:Int),ET (acc++qcp (ln+1) ts)):=by
 rw[qqg,qif]at hl ⊢;have e0:((ETr ts,(ts.length:Int),0,ln,ET acc):qgo)=(ETr ts,(ts.length:Int),((0:Nat):Int),ln+((0:Nat):Int),ET acc):=by simp
 rw[qDV,e0];refine qgu (hd:=fun n acc=>(ETr ts,(ts.length:Int),(n:Int),ln+(n:Int),ET acc)) (fun n=>qm4 (ln+1+(n:Int))) 0 (fun n hn acc hl'=>?_) (fun acc=>?_) hl
 ·obtain⟨q1,q2,q3,q4⟩:=ht _ (jAi hn);have hl5:acc.length+5<=1000000:=hl';obtain⟨a1,e1,n1,h1⟩:=qdg [(4,[36])] (ln+1+(n:Int)) acc ⟨by omega,by omega⟩ ⟨kd (by kernel_rfl),trivial⟩ (by simp only[jA0,jA4];omega);simp only[jA0,jA4]at n1;obtain⟨a2,e2,n2,h2⟩:=zj2 (ln+1+(n:Int)) a1 ⟨q1,q2⟩ (by omega);obtain⟨a3,e3,n3⟩:=qeR a2 ⟨4,ln+1+(n:Int),[58]⟩;obtain⟨a4,e4,n4,h4⟩:=zog (ln+1+(n:Int)) a3 ⟨q3,q4⟩ (by omega);have fin:a4++[⟨4,ln+1+(n:Int),[59]⟩]=acc++qm4 (ln+1+(n:Int)) ts[n]:=by
   rw[e4,e3,e2,e1];simp only[qm4,lnT,jAs,jCe,jAf,jAk,jAx]
  show(qkM _ _ _ _ _).ev=_;unfold qkM;rw[zjR hn,zjS hn];refine(brT (by rw[qaR hn])).trans ((brT (zgU hn)).trans ((biS (h1 (by show ln+(n:Int)+1=ln+1+(n:Int);omega) rfl)).trans ((biS (h2 rfl rfl)).trans ?_)));refine(brT (qpu rfl (by omega))).trans ((biS (h4 rfl ((qhU rfl k58 rfl).trans (congrArg ET e3.symm)))).trans ?_);refine(brT (qpu rfl (by omega))).trans ?_;refine congrArg (fun z=>some (Rd.next z)) ?_;show((ETr ts,(ts.length:Int),IntKind.i64.wrap ((n:Int)+1),ln+1+(n:Int),_):qgo)=_;rw[qan hn (by simp only[big];omega),<-fin,<-(qhU rfl k59 rfl:ET a4++[AV.agg [AV.int IntKind.i64 (Tk.kindP [59]),AV.int IntKind.i64 (ln+1+(n:Int)),AV.str [59]]]=_)];have e:ln+1+(n:Int)=ln+((n+1:Nat):Int):=by omega
  rw[e]
 ·show(qkM _ _ _ _ _).ev=_;unfold qkM;exact(brF (by simp)).trans rfl
theorem qqD{ws:List Bs}{b k:Int}(h:qjT b k=true)(hk:k=(ws.length:Int))(hs:ws.length<=1000):qaD [CS.str] (ES ws) (IntKind.i64.wrap (b-1))=true/\strOf (cellAt (ES ws) (IntKind.i64.wrap (b-1)) 0)=qxp ws b:=by
 unfold qjT at h;simp only[jA1,jA6]at h;obtain⟨n,rfl⟩:∃n:Nat,b=(n:Int):=⟨b.toNat,by omega⟩;have hn:n-1<ws.length:=by omega
 rw[qxk (by omega) (by simp only[big];omega)];refine⟨qBh hn,?_⟩;rw[qs0 hn];unfold qxp;have e:((n:Int)-1).toNat=n-1:=by omega
 rw[e,jAh hn];rfl
theorem znL{w:Bs}(hw:Tk.kindP w=5/\w.isEmpty=false){x:In}(hx:q55 x){ln:Int}{acc:List Tok}(h0:0<=ln)(hb:ln+x.tiers.length<=900000)(hl:acc.length+(inT w (ln+1) x).length<=1000000) :
  qxY w (ETr x.tiers) x.marg x.basis x.mode x.keep ln (ET acc)=some (ln+2+(x.tiers.length:Int),ET (acc++inT w (ln+1) x)):=by
 obtain⟨ht,b1,b2,b3,b4⟩:=hx;have rb:qjT x.basis 4=true:=by unfold qjT;rw[jA8 b1,jA8 b2];rfl
 have rm:qjT x.mode 6=true:=by unfold qjT;rw[jA8 b3,jA8 b4];rfl
 obtain⟨o1,s1⟩:=qqD (ws:=qd3) rb rfl (by decide);obtain⟨o2,s2⟩:=qqD (ws:=qd7) rm rfl (by decide);have kb:=kWn (ws:=qd3) (by kernel_rfl) rb rfl;have km:=kWn (ws:=qd7) (by kernel_rfl) rm rfl;rw[<-s1]at kb;rw[<-s2]at km;have kh:Tk.kindP (bif x.marg then[109,97,114,103,105,110,97,108]else[119,104,111,108,101])=5/\(bif x.marg then([109,97,114,103,105,110,97,108]:Bs)else[119,104,111,108,101]).isEmpty=false:=by
  cases x.marg<;>exact kd (by kernel_rfl)
 have kr:Tk.kindP (bif x.keep then[107,101,101,112]else[100,114,111,112])=5/\(bif x.keep then([107,101,101,112]:Bs)else[100,114,111,112]).isEmpty=false:=by
  cases x.keep<;>exact kd (by kernel_rfl)
 have hlen:=hl;rw[qmQ]at hlen;obtain⟨a1,e1,n1,h1⟩:=qdg [(5,w),(5,bif x.marg then[109,97,114,103,105,110,97,108]else[119,104,111,108,101]),(5,strOf (cellAt (ES qd3) (IntKind.i64.wrap (x.basis-1)) 0)),(5,strOf (cellAt (ES qd7) (IntKind.i64.wrap (x.mode-1)) 0)),(5,bif x.keep then[107,101,101,112]else[100,114,111,112]),(4,[123])] (ln+1) acc ⟨by omega,by omega⟩
  ⟨hw,kh,kb,km,kr,kd (by kernel_rfl),trivial⟩ (by simp only[jA0,jA4];omega)
 simp only[jA0,jA4]at n1;rw[s1,s2]at e1;have htl:(qcp (ln+1+1) x.tiers).length=5*x.tiers.length:=by
  have:=qmQ w (ln+1) x;simp only[inT,jA2,lnT,jA5,jA0,jA4]at this;omega
 have h2:=zgE (ts:=x.tiers) ht (ln:=ln+1) (acc:=a1) (by omega) (by omega) (by omega);obtain⟨a2,e2,n2,h3⟩:=qdg [(4,[125])] (ln+2+(x.tiers.length:Int)) (a1++qcp (ln+1+1) x.tiers) ⟨by omega,by omega⟩ ⟨kd (by kernel_rfl),trivial⟩ (by rw[jA2];simp only[jA0,jA4];omega);have fin:a2=acc++inT w (ln+1) x:=by
  rw[e2,e1];unfold inT;have e:ln+1+1+(x.tiers.length:Int)=ln+2+(x.tiers.length:Int):=by omega
  rw[e];simp only[jAf]
 have e3:ln+1+(x.tiers.length:Int)+1=ln+2+(x.tiers.length:Int):=by omega
 have h2':pj 0 (qqz (ETr x.tiers,(x.tiers.length:Int),0,ln+1,ET a1))=some (ETr x.tiers,(x.tiers.length:Int),(x.tiers.length:Int),ln+1+(x.tiers.length:Int),ET (a1++qcp (ln+1+1) x.tiers)):=by
  rw[h2];rfl
 rw[qVb,qB0,jA5,<-fin];have h1':=@h1 ln (ET acc) rfl rfl;have h3':=h3 e3 rfl;cases hm:x.marg<;>cases hk:x.keep<;>rw[hm,hk]at h1'
 ·exact(brF rfl).trans ((brF rfl).trans ((biS qec).trans ((brT o1).trans ((biS qed).trans ((brT o2).trans ((biS h1').trans ((biS h2').trans ((biS h3').trans rfl))))))))
 ·exact(brF rfl).trans ((brT rfl).trans ((biS qec).trans ((brT o1).trans ((biS qed).trans ((brT o2).trans ((biS h1').trans ((biS h2').trans ((biS h3').trans rfl))))))))
 ·exact(brT rfl).trans ((brF rfl).trans ((biS qec).trans ((brT o1).trans ((biS qed).trans ((brT o2).trans ((biS h1').trans ((biS h2').trans ((biS h3').trans rfl))))))))
 ·exact(brT rfl).trans ((brT rfl).trans ((biS qec).trans ((brT o1).trans ((biS qed).trans ((brT o2).trans ((biS h1').trans ((biS h2').trans ((biS h3').trans rfl))))))))
theorem q3e{e:Ex}(he:e.nodes<=big)(hv:qaL e=0){ln:Int}{L:List AV}{acc:List Tok}(hL:L=ET acc)(hl:acc.length+(exT ln e).length<=1000000):qjL e.op e.num e.txt (EX e.args) ln L=some (.inr (ln,ET (acc++exT ln e))):=by
 have htk:=qHv he;rw[hv]at htk;obtain⟨t,ts,ht⟩:=List.exists_cons_of_ne_nil (q3g e);have hls:(wrB e).length=ts.length+1:=by rw[ht];rfl
 have hlx:(exT ln e).length=ts.length+1:=by unfold exT;rw[jA5,hls]
 have hpos:0<(wrB e).length:=by omega
 have step:∀n (hn:n<(wrB e).length) (acc:List Tok),acc.length<1000000->qd4 (intOf (cellAt (ET (wrB e)) (n:Int) 0)) (strOf (cellAt (ET (wrB e)) (n:Int) 2)) ln (ET acc)=some (ln,ET (acc++[⟨(wrB e)[n].kind,ln,(wrB e)[n].text⟩])):=by
  intro n hn acc h;rw[qt0 hn,qt2 hn];exact zsK rfl rfl h
 have hbg:(wrB e).length<=big:=by simp only[big];omega
 have s0:(fun v=>(qwD v).ev) (Sum.inl (ET (wrB e),((wrB e).length:Int),0,ln,ET acc))=some (.next (.inr (ET (wrB e),((wrB e).length:Int),((1:Nat):Int),ln,ET (acc++[⟨t.kind,ln,t.text⟩])))):=by
  show(qwE _ _ _ _ _).ev=_;unfold qwE;have h:=step 0 hpos acc (by omega);have hd:decide ((0:Int)<((wrB e).length:Int))=true:=jA8 (by omega);have hg:(wrB e)[0]=t:=by simp only[ht,List.getElem_cons_zero]
  rw[hg]at h;exact(brT hd).trans ((brT (okT (n:=0) hpos)).trans ((biS h).trans rfl))
 have hloop:qvl (Sum.inl (ET (wrB e),((wrB e).length:Int),0,ln,ET acc))=some (1,.inr (ET (wrB e),((wrB e).length:Int),((wrB e).length:Int),ln,ET (acc++exT ln e))):=by
  rw[qDX,qal s0];have h:=qJI (st:=fun v=>(qwD v).ev) (xs:=wrB e) (hd:=fun n acc=>.inr (ET (wrB e),((wrB e).length:Int),(n:Int),ln,ET acc)) (fun _ t=>[⟨t.kind,ln,t.text⟩]) 1 (fun n hn acc hl'=>?_) (fun acc=>?_) ts.length 1 (acc++[⟨t.kind,ln,t.text⟩]) (by omega) ?_
  ·rw[h];have e1:acc++[⟨t.kind,ln,t.text⟩]++qFL (fun _ (t:Tok)=>[(⟨t.kind,ln,t.text⟩:Tok)]) 1 ((wrB e).drop 1)=acc++exT ln e:=by
    unfold exT;rw[<-qA6 (fun t:Tok=>(⟨t.kind,ln,t.text⟩:Tok)),ht];simp
   rw[e1]
  ·have hl1:acc.length+1<=1000000:=hl';show(qkP _ _ _ _ _).ev=_;unfold qkP;refine(brT (by rw[qaR hn])).trans ((brT (okT hn)).trans ((biS (step n hn acc (by omega))).trans ?_));show some (Rd.next (Sum.inr (ET (wrB e),((wrB e).length:Int),IntKind.i64.wrap ((n:Int)+1),ln,_)))=_;rw[qan hn hbg]
  ·show(qkP _ _ _ _ _).ev=_;unfold qkP;exact(brF (by simp)).trans rfl
  ·rw[<-qA6 (fun t:Tok=>(⟨t.kind,ln,t.text⟩:Tok)),ht];simp only[jA2,jA5,jB0,jA0,jA4];omega
 rw[qVq,qCn,hL];refine(biS htk).trans ?_;show(DT.bi (pj 0 (qvl (Sum.inl (ET (wrB e),((ET (wrB e)).length:Int),0,ln,ET acc)))) _ _).ev=_;rw[jA5];refine(biN (by rw[hloop];rfl)).trans ?_;show(DT.bi (pj 1 (qvl (Sum.inl (ET (wrB e),((ET (wrB e)).length:Int),0,ln,ET acc)))) _ _).ev=_;rw[jA5];exact(biS (v:=.inr (ET (wrB e),((wrB e).length:Int),((wrB e).length:Int),ln,ET (acc++exT ln e))) (by rw[hloop];rfl)).trans rfl
end Go.Proofs.H16
namespace Go.Proofs.H16
open Go Go.Eng Go.Tk
set_option maxRecDepth 20000
theorem qLl{l:List Tok}(hb:q5b l=true):jB IP 24 (ET l)=true/\jS IP 24 (ET l)=(qnr qaS l).1/\jN IP 24 (ET l)=(qnr qaS l).2:=
 zvf (qPY (IP:=IP) (f:=24) (v:=66) (by kernel_rfl) (by kernel_rfl) (by kernel_rfl) hb fun t _=>qUs (t.kind,t.line,t.text) (qaS t) (qHz _ _ _))
end Go.Proofs.H16
namespace Go.Proofs.H16
open Go Go.Eng Go.Tk
set_option maxRecDepth 20000
abbrev HdF(p:Pr)(i ln:Int)(acc:List Tok):qgq:=(EF p.fees,(p.fees.length:Int),i,p.name,p.cur,p.cal,p.from_,p.every,p.over,p.tax,ETr p.cr.tiers,p.cr.marg,p.cr.basis,p.cr.mode,p.cr.keep,ETr p.de.tiers,p.de.marg,p.de.basis,p.de.mode,p.de.keep,EF p.fees,ER p.rules,ln,ET acc)
theorem zkg(p:Pr){i i' ln ln':Int}{A:List AV}{acc:List Tok}(h1:i=i')(h2:ln=ln')(h3:A=ET acc):((EF p.fees,(p.fees.length:Int),i,p.name,p.cur,p.cal,p.from_,p.every,p.over,p.tax,ETr p.cr.tiers,p.cr.marg,p.cr.basis,p.cr.mode,p.cr.keep,ETr p.de.tiers,p.de.marg,p.de.basis,p.de.mode,p.de.keep,EF p.fees,ER p.rules,ln,A):qgq)=HdF p i' ln' acc:=by subst h1;subst h2;subst h3;rfl
theorem zkh(L:List AV)(k:Int){i i' ln ln':Int}{A A':List AV}(h1:i=i')(h2:ln=ln')(h3:A=A'):((L,k,i,ln,A):qgr)=(L,k,i',ln',A'):=by subst h1;subst h2;subst h3;rfl
theorem zmb{p:Pr}(hs:Sml p)(hx:∀x∈p.fees,zau x/\qcE x.name=true){ln:Int}{acc:List Tok}(h0:0<=ln)(hb:ln+p.fees.length<=900000)(hl:acc.length+(qbY feT (ln+1) p.fees).length<=1000000) :
  qEf (HdF p 0 ln acc)=some (0,HdF p (p.fees.length:Int) (ln+(p.fees.length:Int)) (acc++qbY feT (ln+1) p.fees)):=by
 rw[qif]at hl ⊢;have e0:HdF p 0 ln acc=HdF p ((0:Nat):Int) (ln+((0:Nat):Int)) acc:=by simp
 rw[qEg,e0];refine qgu (hd:=fun n acc=>HdF p (n:Int) (ln+(n:Int)) acc) (fun n=>feT (ln+1+(n:Int))) 0 (fun n hn acc hl'=>?_) (fun acc=>?_) hl
 ·obtain⟨⟨q1,q2,q3,q4⟩,q5⟩:=hx _ (jAi hn);obtain⟨k1,k2⟩:=hs.fees _ (jAi hn);have rb:qjT p.fees[n].event 4=true:=by unfold qjT;rw[jA8 q1,jA8 q2];rfl
  obtain⟨o1,s1⟩:=qqD (ws:=eventsL) rb rfl (by decide);have kb:=kWn (ws:=eventsL) (by kernel_rfl) rb rfl;rw[<-s1]at kb;have hlen:(feT (ln+1+(n:Int)) p.fees[n]).length=6+(exT (ln+1+(n:Int)) p.fees[n].when_).length+(exT (ln+1+(n:Int)) p.fees[n].amount).length:=by
   simp only[feT,lnT,jA2,jA5,jA0,jA4];omega
  rw[hlen]at hl';obtain⟨a1,e1,n1,h1⟩:=qdg [(5,[102,101,101]),(1,p.fees[n].name),(5,strOf (cellAt (ES eventsL) (IntKind.i64.wrap (p.fees[n].event-1)) 0)),(5,[119,104,101,110])] (ln+1+(n:Int)) acc ⟨by omega,by omega⟩
   ⟨kd (by kernel_rfl),kN q5,kb,kd (by kernel_rfl),trivial⟩ (by simp only[jA0,jA4];omega)
  simp only[jA0,jA4]at n1;rw[s1]at e1;obtain⟨a2,e2,n2⟩:∃a,a=a1++exT (ln+1+(n:Int)) p.fees[n].when_/\a.length=a1.length+(exT (ln+1+(n:Int)) p.fees[n].when_).length:=⟨_,rfl,jA2 ..⟩;have h2:=q3e k1 q3 (ln:=ln+1+(n:Int)) (L:=ET a1) rfl (by omega);rw[<-e2]at h2;obtain⟨a3,e3,n3⟩:=qeR a2 ⟨5,ln+1+(n:Int),[97,109,111,117,110,116,95,111,102]⟩;obtain⟨a4,e4,n4⟩:∃a,a=a3++exT (ln+1+(n:Int)) p.fees[n].amount/\a.length=a3.length+(exT (ln+1+(n:Int)) p.fees[n].amount).length:=⟨_,rfl,jA2 ..⟩;have h4:=q3e k2 q4 (ln:=ln+1+(n:Int)) ((qhU (L:=ET a2) rfl kAm rfl).trans (congrArg ET e3.symm)) (by omega);rw[<-e4]at h4;have fin:a4++[⟨4,ln+1+(n:Int),[59]⟩]=acc++feT (ln+1+(n:Int)) p.fees[n]:=by
   rw[e4,e3,e2,e1];simp only[feT,lnT,jAs,jCe,jAf,jAk,jAx]
  show(qkX _ _ _ _ _ _ _ _ _ _ _ _ _ _ _ _ _ _ _ _ _ _ _ _).ev=_;unfold qkX;rw[qf0 hn,qf1 hn,qf2 hn,qf3 hn,qf4 hn,qf5 hn,qf6 hn,qf7 hn,qf8 hn,qf9 hn];refine(brT (by rw[qaR hn])).trans ((brT (Tk.okF hn)).trans ((biS qhi).trans ((brT o1).trans ((biS (h1 (by show ln+(n:Int)+1=ln+1+(n:Int);omega) rfl)).trans ?_))));refine(qqM h2).trans ((biR h2).trans ((brT (qpu rfl (by omega))).trans ((qqM h4).trans ((biR h4).trans ((brT (qpu rfl (by omega))).trans ?_)))));have e:ln+1+(n:Int)=ln+((n+1:Nat):Int):=by omega
  exact congrArg (fun z=>some (Rd.next z)) (zkg p (qan hn (by simp only[big];omega)) e ((qhU rfl k59 rfl).trans (congrArg ET fin)))
 ·show(qkX _ _ _ _ _ _ _ _ _ _ _ _ _ _ _ _ _ _ _ _ _ _ _ _).ev=_;unfold qkX;exact(brF (by simp)).trans rfl
theorem zgC{l:List Ru}(hs:∀x∈l,x.amount.nodes<=big)(hx:∀x∈l,zcG x/\qcE x.name=true){ln:Int}{acc:List Tok}(h0:0<=ln)(hb:ln+l.length<=900000)(hl:acc.length+(qbY ruT (ln+1) l).length<=1000000) :
  qy2 (ER l,(l.length:Int),0,ln,ET acc)=some (0,ER l,(l.length:Int),(l.length:Int),ln+(l.length:Int),ET (acc++qbY ruT (ln+1) l)):=by
 rw[qif]at hl ⊢;have e0:((ER l,(l.length:Int),0,ln,ET acc):qgr)=(ER l,(l.length:Int),((0:Nat):Int),ln+((0:Nat):Int),ET acc):=by simp
 rw[qEh,e0];refine qgu (hd:=fun n acc=>(ER l,(l.length:Int),(n:Int),ln+(n:Int),ET acc)) (fun n=>ruT (ln+1+(n:Int))) 0 (fun n hn acc hl'=>?_) (fun acc=>?_) hl
 ·obtain⟨⟨q1,q2,q3⟩,q5⟩:=hx _ (jAi hn);have k1:=hs _ (jAi hn);have rb:qjT l[n].window 3=true:=by unfold qjT;rw[jA8 q1,jA8 q2];rfl
  obtain⟨o1,s1⟩:=qqD (ws:=windowsL) rb rfl (by decide);have kb:=kWn (ws:=windowsL) (by kernel_rfl) rb rfl;rw[<-s1]at kb;have hlen:(ruT (ln+1+(n:Int)) l[n]).length=4+(exT (ln+1+(n:Int)) l[n].amount).length:=by
   simp only[ruT,lnT,jA2,jA5,jA0,jA4];omega
  rw[hlen]at hl';obtain⟨a1,e1,n1,h1⟩:=qdg [(5,[108,105,109,105,116]),(1,l[n].name),(5,strOf (cellAt (ES windowsL) (IntKind.i64.wrap (l[n].window-1)) 0))] (ln+1+(n:Int)) acc ⟨by omega,by omega⟩
   ⟨kd (by kernel_rfl),kN q5,kb,trivial⟩ (by simp only[jA0,jA4];omega)
  simp only[jA0,jA4]at n1;rw[s1]at e1;obtain⟨a2,e2,n2⟩:∃a,a=a1++exT (ln+1+(n:Int)) l[n].amount/\a.length=a1.length+(exT (ln+1+(n:Int)) l[n].amount).length:=⟨_,rfl,jA2 ..⟩;have h2:=q3e k1 q3 (ln:=ln+1+(n:Int)) (L:=ET a1) rfl (by omega);rw[<-e2]at h2;have fin:a2++[⟨4,ln+1+(n:Int),[59]⟩]=acc++ruT (ln+1+(n:Int)) l[n]:=by
   rw[e2,e1];simp only[ruT,lnT,jAs,jCe,jAf,jAk,jAx]
  show(qkY _ _ _ _ _).ev=_;unfold qkY;rw[qr0 hn,qr1 hn,qr2 hn,qr3 hn,qr4 hn,qr5 hn];refine(brT (by rw[qaR hn])).trans ((brT (Tk.okR hn)).trans ((biS qcW).trans ((brT o1).trans ((biS (h1 (by show ln+(n:Int)+1=ln+1+(n:Int);omega) rfl)).trans ?_))));refine(qqM h2).trans ((biR h2).trans ((brT (qpu rfl (by omega))).trans ?_));have e:ln+1+(n:Int)=ln+((n+1:Nat):Int):=by omega
  exact congrArg (fun z=>some (Rd.next z)) (zkh _ _ (qan hn (by simp only[big];omega)) e ((qhU rfl k59 rfl).trans (congrArg ET fin)))
 ·show(qkY _ _ _ _ _).ev=_;unfold qkY;exact(brF (by simp)).trans rfl
theorem qzj(p:Pr):qd0 qc4 p=qqP p++(inT [99,114,101,100,105,116] (7+1) p.cr++(inT [100,101,98,105,116] (7+2+(p.cr.tiers.length:Int)+1) p.de++(qbY feT (7+2+(p.cr.tiers.length:Int)+2+(p.de.tiers.length:Int)+1) p.fees++(qbY ruT (7+2+(p.cr.tiers.length:Int)+2+(p.de.tiers.length:Int)+(p.fees.length:Int)+1) p.rules ++
  lnT (7+2+(p.cr.tiers.length:Int)+2+(p.de.tiers.length:Int)+(p.fees.length:Int)+(p.rules.length:Int)+1) [(4,[125])])))):=by
 have e1:(7:Int)+1=8:=rfl;have e2:7+2+(p.cr.tiers.length:Int)+1=10+p.cr.tiers.length:=by omega
 have e3:7+2+(p.cr.tiers.length:Int)+2+(p.de.tiers.length:Int)+1=12+p.cr.tiers.length+p.de.tiers.length:=by omega
 have e4:7+2+(p.cr.tiers.length:Int)+2+(p.de.tiers.length:Int)+(p.fees.length:Int)+1=12+p.cr.tiers.length+p.de.tiers.length+p.fees.length:=by omega
 have e5:7+2+(p.cr.tiers.length:Int)+2+(p.de.tiers.length:Int)+(p.fees.length:Int)+(p.rules.length:Int)+1=12+p.cr.tiers.length+p.de.tiers.length+p.fees.length+p.rules.length:=by omega
 rw[e1,e2,e3,e4,e5];unfold qd0 qqP;simp only[jAf]
theorem qmm{p:Pr}(hs:Sml p)(hf:FitP p)(hl:qzM p=true->(qd0 qc4 p).length<=1000000) :
  qj6 p.name p.cur p.cal p.from_ p.every p.over p.tax (ETr p.cr.tiers) p.cr.marg p.cr.basis p.cr.mode p.cr.keep (ETr p.de.tiers) p.de.marg p.de.basis p.de.mode p.de.keep (EF p.fees) (ER p.rules)=some (qjl p):=by
 rw[qNW,qrr];refine(biS (qPK hs)).trans ?_;unfold qjl;cases hw:qzM p
 ·exact(brT rfl).trans rfl
 ·obtain⟨hP,hN⟩:=qxl hw hf;have hlen:=hl hw;have hrng:=zcE hP hN hlen;obtain⟨s1,s2,s3,s4⟩:p.cr.tiers.length<=2048/\p.de.tiers.length<=2048/\p.fees.length<=2048/\p.rules.length<=2048:=⟨hs.cr,hs.de,hs.fl,hs.rl⟩;rw[qzj]at hlen hrng ⊢;simp only[jA2]at hlen;have hw1:=znK hs hw hf (ETr p.cr.tiers) p.cr.marg p.cr.basis p.cr.mode p.cr.keep (ETr p.de.tiers) p.de.marg p.de.basis p.de.mode p.de.keep (EF p.fees) (ER p.rules);obtain⟨a1,e1,n1⟩:∃a,a=qqP p/\a.length=(qqP p).length:=⟨_,rfl,rfl⟩;rw[<-e1]at hw1;obtain⟨a2,e2,n2⟩:∃a,a=a1++inT [99,114,101,100,105,116] (7+1) p.cr/\a.length=a1.length+(inT [99,114,101,100,105,116] (7+1) p.cr).length:=⟨_,rfl,jA2 ..⟩;have h2:=znL (w:=[99,114,101,100,105,116]) (kd (by kernel_rfl)) hP.cr (ln:=7) (acc:=a1) (by omega) (by omega) (by omega);rw[<-e2]at h2;obtain⟨a3,e3,n3⟩:∃a,a=a2++inT [100,101,98,105,116] (7+2+(p.cr.tiers.length:Int)+1) p.de/\a.length=a2.length+(inT [100,101,98,105,116] (7+2+(p.cr.tiers.length:Int)+1) p.de).length:=⟨_,rfl,jA2 ..⟩;have h3:=znL (w:=[100,101,98,105,116]) (kd (by kernel_rfl)) hP.de (ln:=7+2+(p.cr.tiers.length:Int)) (acc:=a2) (by omega) (by omega) (by omega);rw[<-e3]at h3;have h4:=zmb hs (fun x hx=>⟨hP.fees x hx,hN.fees x hx⟩) (ln:=7+2+(p.cr.tiers.length:Int)+2+(p.de.tiers.length:Int)) (acc:=a3) (by omega) (by omega) (by omega);obtain⟨a4,e4,n4⟩:∃a,a=a3++qbY feT (7+2+(p.cr.tiers.length:Int)+2+(p.de.tiers.length:Int)+1) p.fees/\a.length=a3.length+(qbY feT (7+2+(p.cr.tiers.length:Int)+2+(p.de.tiers.length:Int)+1) p.fees).length:=⟨_,rfl,jA2 ..⟩;rw[<-e4]at h4;have h5:=zgC hs.rules (fun x hx=>⟨hP.rules x hx,hN.rules x hx⟩) (ln:=7+2+(p.cr.tiers.length:Int)+2+(p.de.tiers.length:Int)+(p.fees.length:Int)) (acc:=a4) (by omega) (by omega) (by omega);obtain⟨a5,e5,n5⟩:∃a,a=a4++qbY ruT (7+2+(p.cr.tiers.length:Int)+2+(p.de.tiers.length:Int)+(p.fees.length:Int)+1) p.rules/\a.length=a4.length+(qbY ruT (7+2+(p.cr.tiers.length:Int)+2+(p.de.tiers.length:Int)+(p.fees.length:Int)+1) p.rules).length:=⟨_,rfl,jA2 ..⟩;rw[<-e5]at h5;have hbl:(lnT (7+2+(p.cr.tiers.length:Int)+2+(p.de.tiers.length:Int)+(p.fees.length:Int)+(p.rules.length:Int)+1) [((4:Int),([125]:Bs))]).length=1:=rfl;obtain⟨a6,e6,n6,h6⟩:=qdg [(4,[125])] (7+2+(p.cr.tiers.length:Int)+2+(p.de.tiers.length:Int)+(p.fees.length:Int)+(p.rules.length:Int)+1) a5 ⟨by omega,by omega⟩ ⟨kd (by kernel_rfl),trivial⟩ (by simp only[jA0,jA4];omega);have fin:a6=qqP p++(inT [99,114,101,100,105,116] (7+1) p.cr++(inT [100,101,98,105,116] (7+2+(p.cr.tiers.length:Int)+1) p.de++(qbY feT (7+2+(p.cr.tiers.length:Int)+2+(p.de.tiers.length:Int)+1) p.fees++(qbY ruT (7+2+(p.cr.tiers.length:Int)+2+(p.de.tiers.length:Int)+(p.fees.length:Int)+1) p.rules ++
    lnT (7+2+(p.cr.tiers.length:Int)+2+(p.de.tiers.length:Int)+(p.fees.length:Int)+(p.rules.length:Int)+1) [(4,[125])])))):=by
   rw[e6,e5,e4,e3,e2,e1];simp only[jAf]
  rw[<-fin]at hrng ⊢;obtain⟨j1,j2,j3⟩:=qLl hrng;have h4':pj 0 (qEf (HdF p 0 (7+2+(p.cr.tiers.length:Int)+2+(p.de.tiers.length:Int)) a3))=some (HdF p (p.fees.length:Int) (7+2+(p.cr.tiers.length:Int)+2+(p.de.tiers.length:Int)+(p.fees.length:Int)) a4):=by rw[h4];rfl
  have h5':pj 0 (qy2 (ER p.rules,(p.rules.length:Int),0,7+2+(p.cr.tiers.length:Int)+2+(p.de.tiers.length:Int)+(p.fees.length:Int),ET a4))=some (ER p.rules,(p.rules.length:Int),(p.rules.length:Int),7+2+(p.cr.tiers.length:Int)+2+(p.de.tiers.length:Int)+(p.fees.length:Int)+(p.rules.length:Int),ET a5):=by rw[h5];rfl
  have hfl:((EF p.fees).length:Int)=(p.fees.length:Int):=by rw[jA5]
  have hrl:((ER p.rules).length:Int)=(p.rules.length:Int):=by rw[jA5]
  rw[hfl];refine(brF rfl).trans ((biS hw1).trans ((biS h2).trans ((biS h3).trans ((biS h4').trans ?_))));show(DT.bi (pj 0 (qy2 (ER p.rules,((ER p.rules).length:Int),0,7+2+(p.cr.tiers.length:Int)+2+(p.de.tiers.length:Int)+(p.fees.length:Int),ET a4))) _ _).ev=_;rw[hrl];refine(biS h5').trans ((biS (h6 rfl rfl)).trans ((brT j1).trans ?_));show some (jS IP 24 (ET a6),jN IP 24 (ET a6))=_;rw[j2,j3];rfl
end Go.Proofs.H16
namespace Go.Proofs.H16
open Go Go.Eng Go.Tk
set_option maxRecDepth 20000
theorem qIu{s:Bs}(hl:s.length<=big):qvh (s,0)=some (qjX (fun c=>!at8 qcs c) (fun _=>0) 1 s,s,((s.findIdx (fun c=>!at8 qcs c):Nat):Int)):=by
 rw[qyS];refine qaH (hd:=fun n=>(s,(n:Int))) (jx:=fun _=>0) _ 1 (fun n h=>?_) ?_
 ·simp only[qn9,qp1,qaR h,qaW h,qaX h,qan h hl,br_eq,jAa,ev_br,ev_at,cond_some,ev_bi_some,at8,qcs,qes,qbh];have e1:decide ((s[n].toNat:Int)<97)= !decide ((s[n].toNat:Int)>=97):=by by_cases h:(s[n].toNat:Int)>=97<;>simp[h]<;>omega
  have e2:decide ((s[n].toNat:Int)>122)= !decide ((s[n].toNat:Int)<=122):=by by_cases h:(s[n].toNat:Int)<=122<;>simp[h]<;>omega
  have e3:decide ((s[n].toNat:Int)<48)= !decide ((s[n].toNat:Int)>=48):=by by_cases h:(s[n].toNat:Int)>=48<;>simp[h]<;>omega
  have e4:decide ((s[n].toNat:Int)>57)= !decide ((s[n].toNat:Int)<=57):=by by_cases h:(s[n].toNat:Int)<=57<;>simp[h]<;>omega
  rw[e1,e2,e3,e4,bne];cases decide ((s[n].toNat:Int)>=97)<;>cases decide ((s[n].toNat:Int)<=122)<;>cases decide ((s[n].toNat:Int)>=48)<;>cases decide ((s[n].toNat:Int)<=57)<;>cases((s[n].toNat:Int)==95)<;>rfl
 ·simp[qn9,qp1]
theorem qHV(s:Bs):qut s=some (qBa s):=by
 rw[qPg,qsP];cases s with
 |nil=>rfl
 |cons c r=>
  have e0:decide (((c::r).length:Int)<1)=false:=by simp only[jA0,jBl];omega
  have e1:inB (c::r).length 0=true:=by simp[inB]
  have e2:qai (c::r) 0=(c.toNat:Int):=by simp[qai,qhD]
  have e3:decide (((c::r).length:Int)>16)= !decide ((c::r).length<=16):=by
   by_cases h:(c::r).length<=16<;>simp only[h,decide_true,decide_false,Bool.not_true,Bool.not_false,jA6,jBl]<;>omega
  simp only[e0,e1,e2,e3,br_eq,jA9,jAa,cond_some,ev_bi_some,ev_br,ev_at,qBa,at8,qes];cases h16:decide ((c::r).length<=16)
  ·rfl
  ·have hl:(c::r).length<=big:=jAz (jBd h16) (by decide);rw[qIu hl,qaP];have e4:decide ((c.toNat:Int)<97)= !decide ((c.toNat:Int)>=97):=by by_cases h:(c.toNat:Int)>=97<;>simp[h]<;>omega
   have e5:decide ((c.toNat:Int)>122)= !decide ((c.toNat:Int)<=122):=by by_cases h:(c.toNat:Int)<=122<;>simp[h]<;>omega
   rw[e4,e5];have e6:(c::r).any (fun c=>!at8 qcs c)= !(c::r).all (at8 qcs):=by rw[List.any_eq_not_all_not];simp
   rw[e6];show _=some (_&&(_&&(c::r).all (at8 qcs)));cases decide ((c.toNat:Int)>=97)<;>cases decide ((c.toNat:Int)<=122)<;>cases(c::r).all (at8 qcs)<;>simp
theorem qC9:qoT=some (ES wordsS):=by
 rw[qx9,qop];rfl
theorem qGf(s:Bs):qpg (s,ES wordsS,0)=some (qjX (s== ·) (fun _=>0) 1 wordsS,s,ES wordsS,((wordsS.findIdx (s== ·):Nat):Int)):=by
 rw[qph];refine qaH (hd:=fun n=>(s,ES wordsS,(n:Int))) (jx:=fun _=>0) _ 1 (fun n h=>?_) ?_
 ·simp only[qjw,qiA,jA5,qaR h,qBh h,qs0 h,ev_br,ev_at,jAa,qan h (show wordsS.length<=big by decide)];rw[BEq.comm (a:=wordsS[n]) (b:=s)];cases(s==wordsS[n])<;>rfl
 ·simp[qjw,qiA]
theorem qGg(s:Bs):qe4 s=some (qbO s):=by
 rw[qya,qoq,qC9];simp only[ev_bi_some,qGf,qaP,qbO,has];cases wordsS.any (s== ·)<;>simp
theorem qgA(s:Bs):qgz s=some (qcE s):=by
 rw[qOg,qrL,qHV,qGg,qqm];cases qBa s<;>simp
theorem qz1:∀(e:Ex),Wd e-> ∀(most:Nat),most<=1000000-> ∀n,e.dep<=n->qea n e.op e.num e.txt (EX e.args) (most:Int)=some ((min e.nodes (most+1):Nat):Int):=by
 intro e
 induction e using Ex.ind with
 |h o n s l ih=>
  intro hw most hmost m hm;have hlen:=hw.len;simp only[Ex.args]at hlen;have hwa:∀x∈l,Wd x:=fun x hx=>hw.arg (e:=.mk o n s l) hx
  simp only[Ex.dep]at hm;cases m with
  |zero=>omega
  |succ k=>
   simp only[qea,qCc,Ex.op,Ex.num,Ex.txt,Ex.args];have key:∀(r i c:Nat),i+r=l.length->c<=most+1-> ∃q,qva (qea k) ((most:Int),(c:Int),(i:Int),o,n,s,EX l)=some (0,(most:Int),((min (c+Ex.nodesL (l.drop i)) (most+1):Nat):Int),q):=by
    intro r
    induction r with
    |zero=>
     intro i c hi hc;have:i=l.length:=by omega
     subst this;refine⟨((l.length:Int),o,n,s,EX l),?_⟩;rw[qlh,qaf (j:=0)]
     ·rw[jC0];simp only[Ex.nodesL,Nat.add_zero];rw[Nat.min_eq_left hc]
     ·simp[Prod.f,Prod.h,qjv,qlI]
    |succ r ihr=>
     intro i c hi hc;have hn:i<l.length:=by omega
     by_cases hcm:c<=most
     ·have hx:l[i]∈l:=jAi hn;have h2:=Ex.depL_mem hx;have hwr:IntKind.i64.wrap ((most:Int)-(c:Int))=((most-c:Nat):Int):=by
       rw[wrap64 (by omega) (by omega)];omega
      have hg:=ih l[i] hx (hwa _ hx) (most-c) (by omega) k (by omega);have hpos:=Ex.nodes_pos l[i];have hws:IntKind.i64.wrap ((c:Int)+((min l[i].nodes (most-c+1):Nat):Int))=((c+min l[i].nodes (most-c+1):Nat):Int):=by
       rw[wrap64 (by omega) (by omega)];omega
      have hst:(qjv (qea k) ((most:Int),(c:Int),(i:Int),o,n,s,EX l)).ev=some (.next ((most:Int),((c+min l[i].nodes (most-c+1):Nat):Int),((i+1:Nat):Int),o,n,s,EX l)):=by
       have e1:decide ((c:Int)<=(most:Int))=true:=by simp;omega
       simp only[Prod.f,Prod.h,qjv,qlI,jA5,qaR hn,e1,br_eq,jAa,ev_bi_some,ev_br,ev_at,okX hn,qx0 hn,qx1 hn,qx2 hn,qx3 hn,hwr,hg,hws,qan hn hlen]
      obtain⟨q,hq⟩:=ihr (i+1) (c+min l[i].nodes (most-c+1)) (by omega) (by omega);refine⟨q,?_⟩;rw[qlh]at hq ⊢;rw[qal hst,hq,drop_at hn];simp only[Ex.nodesL]
      congr 4
      omega
     ·refine⟨((i:Int),o,n,s,EX l),?_⟩;rw[qlh,qaf (j:=0)]
      ·have:min (c+Ex.nodesL (l.drop i)) (most+1)=c:=by omega
       rw[this]
      ·have e1:decide ((c:Int)<=(most:Int))=false:=by simp;omega
       simp only[Prod.f,Prod.h,qjv,qlI,jA5,qaR hn,e1,br_eq,jAa,jA9,ev_bi_some,ev_br,ev_at]
   obtain⟨q,hq⟩:=key l.length 0 1 (by omega) (by omega);have hq':qva (qea k) ((most:Int),1,0,o,n,s,EX l)=some (0,(most:Int),((min (1+Ex.nodesL (l.drop 0)) (most+1):Nat):Int),q):=hq;rw[hq'];simp only[pj_some,jB2,ev_bi_some,ev_at,List.drop_zero,Ex.nodes]
   congr 3;omega
theorem qul{e:Ex}(hw:Wd e){most:Nat}(hm:most<=1000000):qe3 e.op e.num e.txt (EX e.args) (most:Int)=some (decide (e.nodes>most)):=by
 have hc:qAz e.op e.num e.txt (EX e.args) (most:Int)=some ((min e.nodes (most+1):Nat):Int):=qdo (qz1 e hw most hm);rw[qO2,qsB,hc];simp only[ev_bi_some,ev_at]
 congr 1
 by_cases h:e.nodes>most<;>simp[h]<;>omega
theorem qHM{e:Ex}(h:e.nodes<=big):quk e.op e.num e.txt (EX e.args)=some (e.dep:Int):=by
 refine qdo (n:=e.dep) ?_
 induction e using Ex.ind with
 |h o n s l ih=>
  intro m hm;cases m with
  |zero=>simp[Ex.dep]at hm
  |succ k=>
   have hdl:=Ex.dep_le (.mk o n s l);simp only[Ex.op,Ex.num,Ex.txt,Ex.args,qhy,qCa];simp only[Ex.nodes,Ex.dep]at h hm hdl;have hll:=Ex.nodesL_len l;have key:qAT (qhy k) (0,0,o,n,s,EX l)=some (0,((l.foldl (fun a x=>max a (Ex.dep x)) 0:Nat):Int),(l.length:Int),o,n,s,EX l):=by
    rw[qyI];refine qvq (l:=l) (hd:=fun i a=>(((a:Nat):Int),(i:Int),o,n,s,EX l)) (f:=fun a x=>max a (Ex.dep x)) (jx:=fun _=>0) (inv:=fun _ _=>True) trivial (fun _ _ _ _=>trivial) ?_ ?_
    ·intro i a hn _;have hx:l[i]∈l:=jAi hn;have h1:=Ex.nodesL_mem hx;have h2:=Ex.depL_mem hx;have hg:=ih l[i] hx (by omega) k (by omega);have hm:(if (l[i].dep:Int)>(a:Int)then(l[i].dep:Int)else(a:Int))=((max a l[i].dep:Nat):Int):=by
      by_cases hc:a<l[i].dep
      ·rw[jAr (by omega),Nat.max_eq_right (by omega)]
      ·rw[jAm (by omega),Nat.max_eq_left (by omega)]
     simp only[Prod.f,Prod.h,qn3,qpS,jA5,qaR hn,okX hn,qx0 hn,qx1 hn,qx2 hn,qx3 hn,hg,ev_br,ev_at,ev_bi_some,jAa,hm,qan hn (show l.length<=big by omega)]
    ·intro a _;simp[Prod.f,Prod.h,qn3,qpS]
   rw[key,Ex.dep_fold];have hw:IntKind.i64.wrap (((max 0 (Ex.depL l):Nat):Int)+1)=((Ex.depL l+1:Nat):Int):=by
    simp only[big]at h;rw[Nat.zero_max,wrap64 (by omega) (by omega)];simp
   simp only[pj_some,jB2,ev_bi_some,ev_at,Ex.dep,hw]
theorem qHn(op:Int):qtS op=some (qaJ op):=by
 rw[qOe,qrJ];simp only[br_eq,cond_some,ev_bi_some,ev_br,ev_at,qaJ];by_cases h0:op<1
 ·simp[h0];rw[jAm (by omega),jAm (by omega),jAm (by omega),jAm (by omega)]
 by_cases h1:op>19
 ·simp[h0,h1];rw[jAm (by omega),jAm (by omega),jAm (by omega),jAm (by omega)]
 by_cases h2:op<=4
 ·have e:op=1\/op=2\/op=3\/op=4:=by omega
  rw[jAr e];simp[h0,h1,h2]
 by_cases h3:op=9
 ·subst h3;simp
 by_cases h4:op=16
 ·subst h4;simp
 by_cases h5:op=19
 ·subst h5;simp
 simp[h0,h1,h2,h3,h4,h5];rw[jAm (by omega),jAr (by omega)]
theorem qH1(op:Int):quz op=some (qe6 op):=by
 rw[qPn,qsX];simp only[ev_br,ev_at,cond_some,qe6];by_cases h1:op=1
 ·simp[h1]
 by_cases h2:op=2
 ·simp[h2]
 by_cases h3:op=3
 ·simp[h3]
 have e1:(op==1)=false:=by simpa using h1
 have e2:(op==2)=false:=by simpa using h2
 have e3:(op==3)=false:=by simpa using h3
 simp[h1,h2,h3,e1,e2,e3]
theorem qHQ{e:Ex}(h:e.nodes<=big):qAB e.op e.num e.txt (EX e.args)=some (e.allX qaM):=by
 refine qdo (n:=e.dep) ?_
 induction e using Ex.ind with
 |h o n s l ih=>
  intro m hm;cases m with
  |zero=>simp[Ex.dep]at hm
  |succ k=>
   have hal:=Ex.allX_eq qaM (.mk o n s l);show qgl (k+1) o n s (EX l)=some ((Ex.mk o n s l).allX qaM);simp only[qgl,qCd];simp only[Ex.nodes,Ex.dep]at h hm;have hll:=Ex.nodesL_len l;have key:qmS (qgl k) (0,o,n,s,EX l)=some (qjX (fun x=>!Ex.allX qaM x) (fun _=>0) 1 l,((l.findIdx (fun x=>!Ex.allX qaM x):Nat):Int),o,n,s,EX l):=by
    rw[qyJ];refine qaH (hd:=fun i=>((i:Int),o,n,s,EX l)) (jx:=fun _=>0) _ 1 (fun i hn=>?_) ?_
    ·have hx:l[i]∈l:=jAi hn;have h1:=Ex.nodesL_mem hx;have h2:=Ex.depL_mem hx;have hg:=ih l[i] hx (by omega) k (by omega);simp only[Prod.f,Prod.h,qn4,qpW,jA5,qaR hn,okX hn,qx0 hn,qx1 hn,qx2 hn,qx3 hn,hg,ev_br,ev_at,ev_bi_some,jAa,qan hn (show l.length<=big by omega)];cases l[i].allX qaM<;>rfl
    ·simp[Prod.f,Prod.h,qn4,qpW]
   rw[key,hal,qaP,qHn,qH1,Ex.args];have e1:decide (n<0)= !decide (n>=0):=by by_cases h:n>=0<;>simp[h]<;>omega
   have e2:decide (n>qe6 o)= !decide (n<=qe6 o):=by by_cases h:n<=qe6 o<;>simp[h]<;>omega
   have e3:((l.length:Int)==qaJ o)=(qaJ o==(l.length:Int)):=by rw[jC7,jB7,jB7];exact jBv
   have hna:l.any (fun x=>!Ex.allX qaM x)= !l.all (Ex.allX qaM):=by
    rw[List.any_eq_not_all_not];simp
   simp only[ev_bi_some,ev_br,ev_at,jA5,bne,e3,hna,pj_some];rw[e1,e2];show _=some ((qaJ o==(l.length:Int)&&(decide (n>=0)&&(decide (n<=qe6 o)&&(s== []||o==4))))&&_);cases(qaJ o==(l.length:Int))<;>cases decide (n>=0)<;>cases decide (n<=qe6 o)<;>cases(s== [])<;>cases(o==4)<;>cases l.all (Ex.allX qaM)<;>rfl
theorem qIl{l:List Bs}(hl:l.length<=big)(s:Bs):qAO (ES l,s,0)=some (0,ES l,s,(((l.takeWhile (qbl · s)).length:Nat):Int)):=by
 rw[qyy];refine qlm (fun n=>(ES l,s,(n:Int))) (l.takeWhile (qbl · s)).length 0 0 (jBa _) (fun m _ hm=>?_) ?_
 ·have h:=jBz hm (qg9 l);have:=zit h hm;simp only[Prod.f,Prod.h,qlF,qlG,jA5,qaR h,qBh h,qs0 h,br_eq,jAa,ev_bi_some,ev_br,ev_at,this,qan h hl]
 ·by_cases h:(l.takeWhile (qbl · s)).length<l.length
  ·have:=q25 h;simp only[Prod.f,Prod.h,qlF,qlG,jA5,qaR h,qBh h,qs0 h,br_eq,jAa,ev_bi_some,ev_br,ev_at,this,jA9]
  ·have h2:=qg9 (p:=(qbl · s)) l;simp only[Prod.f,Prod.h,qlF,qlG,jA5,qMw h,br_eq,jA9,ev_bi_some,ev_br,ev_at]
theorem qHB{l:List Bs}(hl:l.length<=1000000)(s:Bs):qkb (ES l) s=some (ES (qxo l s)):=by
 have hb:l.length<=big:=jAz hl (by decide);rw[qOL,qsk,qIl hb];have hk:=qg9 (p:=(qbl · s)) l;unfold qxo;generalize hkk:(l.takeWhile (qbl · s)).length=k at hk;simp only[pj_some,jB2,ev_bi_some,jA5,jB5];have hr:∀n,n<=2000000->room n 16=true:=fun n hn=>qcm (by simp only[lim,Prod.i,Prod.h,Prod.f];omega)
 by_cases hlt:k<l.length
 ·simp only[qaR hlt,qBh hlt,qs0 hlt,br_eq,jAa,ev_bi_some,ev_br];rw[jAh hlt];cases hq:(l[k]==s)
  ·have hne:¬l[k]=s:=by simpa using hq
   have hD:decide ((List.drop k (ES l)).length=0)=false:=by simp;omega
   have hD':decide ((List.drop k (ES l)).length≠0)=true:=by simp;omega
   simp only[jA7,hne,jBg,jA9,qbg (Nat.le_of_lt hlt),jBt,jBm,Bool.false_and,Bool.and_self,jAa,hD,hD',decide_true];by_cases hk0:k=0
   ·subst hk0;rw[hr _ (by simp;omega)];simp
   ·have hTl:(List.take k (ES l)).length=k:=by rw[List.length_take,jA5];omega
    have hT:decide ((List.take k (ES l)).length=0)=false:=by rw[hTl];simpa using hk0
    have hT':decide ((List.take k (ES l)).length≠0)=true:=by rw[hTl];simpa using hk0
    simp only[hT,hT',jBm,Bool.false_and,jA9];rw[hr _ (by simp;omega),hr _ (by simp;omega),hr _ (by simp;omega)];simp[jCi,List.map_take,List.map_drop]
  ·have hqe:l[k]=s:=by simpa using hq
   simp[hqe]
 ·have hke:k=l.length:=by omega
  have hD:decide ((List.drop k (ES l)).length=0)=true:=by simp;omega
  simp only[qMw hlt,br_eq,jA9,ev_bi_some,ev_br,qbg hk,jBt,jBm,jAa,hD,decide_true];rw[List.getElem?_eq_none (by omega)];simp only[reduceCtorEq,jBg];by_cases hk0:k=0
  ·have:l= []:=by cases l with
    |nil=>rfl
    |cons _ _=>simp at hke;omega
   subst this;subst hk0;rfl
  ·have hTl:(List.take k (ES l)).length=k:=by rw[List.length_take,jA5];omega
   have hT:decide ((List.take k (ES l)).length=0)=false:=by rw[hTl];simpa using hk0
   have hT':decide ((List.take k (ES l)).length≠0)=true:=by rw[hTl];simpa using hk0
   simp only[hT,hT',jBm,jA9,ev_br];rw[hr _ (by simp;omega),hr _ (by simp;omega)];have e1:List.take k (ES l)=ES l:=jBb (by simp;omega);have e2:List.take k l=l:=jBb (by omega);have e3:List.drop k l= []:=List.drop_eq_nil_of_le (by omega);simp[e1,e2,e3]
def hdI(f:Nat)(i:Int)(L:List AV)(j:Int)(o n:Int)(s:Bs)(A:List AV)(acc:List Bs):qdd:=match f with
 |0=>.inl (i,L,j,o,n,s,A,ES acc)
 |1=>.inr (.inl (i,L,j,o,n,s,A))
 |_=>.inr (.inr (ES acc,i,L,j,o,n,s,A))
def hdO(f:Nat)(i:Int)(o n:Int)(s:Bs)(A:List AV)(acc:List Bs):qcT:=match f with
 |0=>.inl (i,o,n,s,A,ES acc)
 |1=>.inr (.inl (i,o,n,s,A))
 |_=>.inr (.inr (ES acc,i,o,n,s,A))
def fOk(f:Nat)(acc:List Bs):Prop:=f<=2/\(f=1->acc= [])
theorem qDb{L:List Bs}(hL:L.length<=1000000)(i o n:Int)(s:Bs)(A:List AV):∀(r j f:Nat) (acc:List Bs),j+r=L.length->fOk f acc->acc.length+r<=1000000 ->
  qeq (hdI f i (ES L) (j:Int) o n s A acc)=some (if r=0 then f else 2,hdI (if r=0 then f else 2) i (ES L) (L.length:Int) o n s A ((L.drop j).foldl qxo acc))
 |0,j,f,acc,hj,hf,_=>by
  have:j=L.length:=by omega
  subst this;obtain⟨h1,h2⟩:=hf;rw[qpe,jC0];simp only[jB2,List.foldl_nil]
  match f,h1 with
  |0,_=>rw[qaf (j:=0)];simp[Prod.f,Prod.h,hdI,qeH,qpT]
  |1,_=>rw[qaf (j:=1)];simp[Prod.f,Prod.h,hdI,qeH,qpU]
  |2,_=>rw[qaf (j:=2)];simp[Prod.f,Prod.h,hdI,qeH,qpV]
 |r+1,j,f,acc,hj,hf,hb=>by
  have hn:j<L.length:=by omega
  obtain⟨h1,h2⟩:=hf;have hst:(qeH (hdI f i (ES L) (j:Int) o n s A acc)).ev=some (.next (hdI 2 i (ES L) ((j+1:Nat):Int) o n s A (qxo acc L[j]))):=by
   have hi:=qHB (l:=acc) (by omega) L[j]
   match f,h1 with
   |0,_=>simp only[Prod.f,Prod.h,hdI,qeH,jBy,qpT,jA5,qaR hn,qBh hn,qs0 hn,hi,ev_br,ev_at,ev_bi_some,jAa,qan hn (jAz hL (by decide))]
   |1,_=>
    have:=h2 rfl;subst this;have hi':qkb [] L[j]=some (ES (qxo [] L[j])):=hi;simp only[Prod.f,Prod.h,hdI,qeH,jBy,jBx,qpU,jA5,qaR hn,qBh hn,qs0 hn,hi',ev_br,ev_at,ev_bi_some,jAa,qan hn (jAz hL (by decide))]
   |2,_=>simp only[Prod.f,Prod.h,hdI,qeH,jBx,qpV,jA5,qaR hn,qBh hn,qs0 hn,hi,ev_br,ev_at,ev_bi_some,jAa,qan hn (jAz hL (by decide))]
  have hle:=qLh acc L[j];have ih:=qDb hL i o n s A r (j+1) 2 (qxo acc L[j]) (by omega) ⟨jAj _,by omega⟩ (by omega);rw[qpe]at ih ⊢;rw[qal hst,ih,drop_at hn];have:(if r=0 then 2 else 2)=2:=by split<;>rfl
  rw[this,jAm (show ¬r+1=0 by omega),jC3]
noncomputable def qXt(y:Option (Nat×qcT)):DT qtk:=
 .bi (pj 0 y) (fun y0=>.at ((sl y0).snd.snd.snd.snd.snd)) (.bi (pj 1 y) (fun _=>.at ([])) (.bi (pj 2 y) (fun y0=>.at ((sr (sr y0)).fst)) .no))
theorem qXu(G:Int->Int->List UInt8->List AV->Option qtk)(x0 x1:Int)(x2:Bs)(x3:List AV) :
  qCb G x0 x1 x2 x3= .br (x0==4) (qXt (qgO G (hdO 0 0 x0 x1 x2 x3 [x2]))) (qXt (qgO G (hdO 1 0 x0 x1 x2 x3 []))):=rfl
theorem qz0:∀(e:Ex),e.nodes<=1000000-> ∀n,e.dep<=n->qd9 n e.op e.num e.txt (EX e.args)=some (ES e.names):=by
 intro e
 induction e using Ex.ind with
 |h o n s l ih=>
  intro h m hm;simp only[Ex.dep]at hm;have hll:=Ex.nodesL_len l;simp only[Ex.nodes]at h;cases m with
  |zero=>omega
  |succ k=>
   have key:∀(r i f:Nat) (acc:List Bs),i+r=l.length->fOk f acc->acc.length+Ex.nodesL (l.drop i)<=1000000->(qXt (qgO (qd9 k) (hdO f (i:Int) o n s (EX l) acc))).ev=some (ES (Ex.namesL acc (l.drop i))):=by
    intro r
    induction r with
    |zero=>
     intro i f acc hi hf _;have:i=l.length:=by omega
     subst this;obtain⟨h1,h2⟩:=hf;rw[qpd,jC0]
     match f,h1 with
     |0,_=>
      rw[qaf (j:=0)]
      ·rfl
      ·simp[Prod.f,Prod.h,hdO,qb3,qiv]
     |1,_=>
      have:=h2 rfl;subst this;rw[qaf (j:=1)]
      ·rfl
      ·simp[Prod.f,Prod.h,hdO,qb3,qiw]
     |2,_=>
      rw[qaf (j:=2)]
      ·rfl
      ·simp[Prod.f,Prod.h,hdO,qb3,qix]
    |succ r ihr=>
     intro i f acc hi hf hb;have hn:i<l.length:=by omega
     have hx:l[i]∈l:=jAi hn;have h1:=Ex.nodesL_mem hx;have h2:=Ex.depL_mem hx;have hg:=ih l[i] hx (by omega) k (by omega);have hnl:=qvt l[i];rw[drop_at hn]at hb ⊢;simp only[Ex.nodesL]at hb;have hin:=qDb (L:=l[i].names) (by omega) (i:Int) o n s (EX l) l[i].names.length 0 f acc (by omega) hf (by omega);rw[List.drop_zero]at hin;have hfl:=qAF l[i].names acc;generalize hf2:(if l[i].names.length=0 then f else 2)=f2 at hin;have hf2ok:fOk f2 (l[i].names.foldl qxo acc):=by
      rw[<-hf2];by_cases hz:l[i].names.length=0
      ·rw[jAr hz];have:l[i].names= []:=jAy.1 hz;rw[this];exact hf
      ·rw[jAm hz];exact⟨jAj _,by omega⟩
     have hst:(qb3 (qd9 k) (hdO f (i:Int) o n s (EX l) acc)).ev=some (.next (hdO f2 ((i+1:Nat):Int) o n s (EX l) (l[i].names.foldl qxo acc))):=by
      obtain⟨hf1,_⟩:=hf;obtain⟨hf3,_⟩:=hf2ok;have hin':qeq (hdI f (i:Int) (ES l[i].names) 0 o n s (EX l) acc)=some (f2,hdI f2 (i:Int) (ES l[i].names) (l[i].names.length:Int) o n s (EX l) (l[i].names.foldl qxo acc)):=hin;have hw:=qan hn (show l.length<=big by simp only[big];omega)
      match f,hf1,f2,hf3 with
      |0,_,0,_=>simp(decide:=true) only[Prod.f,Prod.h,hdO,hdI,qb3,jBy,qiv,jA5,qaR hn,okX hn,qx0 hn,qx1 hn,qx2 hn,qx3 hn,hg,ev_br,ev_at,ev_bi_some,ev_bi_none,jAa,pj_some,jB2,jBg,sl_inl,sr_inr,hw]at hin' ⊢;simp(decide:=true) only[hin',pj_some,jB2,jBg,ev_bi_some,ev_bi_none,ev_at,sl_inl,sr_inr,hw]
      |0,_,1,_=>simp(decide:=true) only[Prod.f,Prod.h,hdO,hdI,qb3,jBy,qiv,jA5,qaR hn,okX hn,qx0 hn,qx1 hn,qx2 hn,qx3 hn,hg,ev_br,ev_at,ev_bi_some,ev_bi_none,jAa,pj_some,jB2,jBg,sl_inl,sr_inr,hw]at hin' ⊢;simp(decide:=true) only[hin',pj_some,jB2,jBg,ev_bi_some,ev_bi_none,ev_at,sl_inl,sr_inr,hw]
      |0,_,2,_=>simp(decide:=true) only[Prod.f,Prod.h,hdO,hdI,qb3,jBy,qiv,jA5,qaR hn,okX hn,qx0 hn,qx1 hn,qx2 hn,qx3 hn,hg,ev_br,ev_at,ev_bi_some,ev_bi_none,jAa,pj_some,jB2,jBg,sl_inl,sr_inr,hw]at hin' ⊢;simp(decide:=true) only[hin',pj_some,jB2,jBg,ev_bi_some,ev_bi_none,ev_at,sl_inl,sr_inr,hw]
      |1,_,0,_=>simp(decide:=true) only[Prod.f,Prod.h,hdO,hdI,qb3,jBy,jBx,qiw,jA5,qaR hn,okX hn,qx0 hn,qx1 hn,qx2 hn,qx3 hn,hg,ev_br,ev_at,ev_bi_some,ev_bi_none,jAa,pj_some,jB2,jBg,sl_inl,sr_inr,hw]at hin' ⊢;simp(decide:=true) only[hin',pj_some,jB2,jBg,ev_bi_some,ev_bi_none,ev_at,sl_inl,sr_inr,hw]
      |1,_,1,_=>simp(decide:=true) only[Prod.f,Prod.h,hdO,hdI,qb3,jBy,jBx,qiw,jA5,qaR hn,okX hn,qx0 hn,qx1 hn,qx2 hn,qx3 hn,hg,ev_br,ev_at,ev_bi_some,ev_bi_none,jAa,pj_some,jB2,jBg,sl_inl,sr_inr,hw]at hin' ⊢;simp(decide:=true) only[hin',pj_some,jB2,jBg,ev_bi_some,ev_bi_none,ev_at,sl_inl,sr_inr,hw]
      |1,_,2,_=>simp(decide:=true) only[Prod.f,Prod.h,hdO,hdI,qb3,jBy,jBx,qiw,jA5,qaR hn,okX hn,qx0 hn,qx1 hn,qx2 hn,qx3 hn,hg,ev_br,ev_at,ev_bi_some,ev_bi_none,jAa,pj_some,jB2,jBg,sl_inl,sr_inr,hw]at hin' ⊢;simp(decide:=true) only[hin',pj_some,jB2,jBg,ev_bi_some,ev_bi_none,ev_at,sl_inl,sr_inr,hw]
      |2,_,0,_=>simp(decide:=true) only[Prod.f,Prod.h,hdO,hdI,qb3,jBx,qix,jA5,qaR hn,okX hn,qx0 hn,qx1 hn,qx2 hn,qx3 hn,hg,ev_br,ev_at,ev_bi_some,ev_bi_none,jAa,pj_some,jB2,jBg,sl_inl,sr_inr,hw]at hin' ⊢;simp(decide:=true) only[hin',pj_some,jB2,jBg,ev_bi_some,ev_bi_none,ev_at,sl_inl,sr_inr,hw]
      |2,_,1,_=>simp(decide:=true) only[Prod.f,Prod.h,hdO,hdI,qb3,jBx,qix,jA5,qaR hn,okX hn,qx0 hn,qx1 hn,qx2 hn,qx3 hn,hg,ev_br,ev_at,ev_bi_some,ev_bi_none,jAa,pj_some,jB2,jBg,sl_inl,sr_inr,hw]at hin' ⊢;simp(decide:=true) only[hin',pj_some,jB2,jBg,ev_bi_some,ev_bi_none,ev_at,sl_inl,sr_inr,hw]
      |2,_,2,_=>simp(decide:=true) only[Prod.f,Prod.h,hdO,hdI,qb3,jBx,qix,jA5,qaR hn,okX hn,qx0 hn,qx1 hn,qx2 hn,qx3 hn,hg,ev_br,ev_at,ev_bi_some,ev_bi_none,jAa,pj_some,jB2,jBg,sl_inl,sr_inr,hw]at hin' ⊢;simp(decide:=true) only[hin',pj_some,jB2,jBg,ev_bi_some,ev_bi_none,ev_at,sl_inl,sr_inr,hw]
     have ihn:=ihr (i+1) f2 (l[i].names.foldl qxo acc) (by omega) hf2ok (by omega);rw[qpd]at ihn ⊢;rw[qal hst,ihn];simp only[Ex.namesL]
   show qd9 (k+1) o n s (EX l)=some (ES (Ex.mk o n s l).names);simp only[qd9,qXu,ev_br,Ex.names];by_cases ho:o=4
   ·have e:(o==4)=true:=by simpa using ho
    rw[e,jAa,jAr ho];exact key l.length 0 0 [s] (by omega) ⟨by omega,by omega⟩ (by simp;omega)
   ·have e:(o==4)=false:=by simpa using ho
    rw[e,jA9,jAm ho];exact key l.length 0 1 [] (by omega) ⟨by omega,fun _=>rfl⟩ (by simp;omega)
theorem qHN{e:Ex}(h:e.nodes<=1000000):qAy e.op e.num e.txt (EX e.args)=some (ES e.names):=qdo (qz0 e h)
theorem qIe{l:List Bs}(hl:l.length<=big):qu1 (ES l,0)=some (qjX (fun s=>!qcE s) (fun _=>0) 1 l,ES l,((l.findIdx (fun s=>!qcE s):Nat):Int)):=by
 rw[qyp];refine qaH (hd:=fun i=>(ES l,(i:Int))) (jx:=fun _=>0) _ 1 (fun i hn=>?_) ?_
 ·simp only[Prod.f,Prod.h,qnT,qpF,jA5,qaR hn,qBh hn,qs0 hn,qgA,ev_br,ev_at,ev_bi_some,jAa,qan hn hl];cases qcE l[i]<;>rfl
 ·simp[Prod.f,Prod.h,qnT,qpF]
theorem qgy{e:Ex}(hw:Wd e):qi4 e.op e.num e.txt (EX e.args)=some (qaL e):=by
 have hG:=qul hw (most:=64) (by omega);rw[qOf,qrK,show(64:Int)=((64:Nat):Int)from rfl,hG,qaL];by_cases h64:e.nodes>64
 ·simp[h64]
 ·have hb:e.nodes<=big:=by simp only[big];omega
  have hs:e.nodes<=1000000:=by omega
  have hnl:=qvt e;have hna:e.names.any (fun s=>!qcE s)= !e.allX qbx:=by
   rw[<-qEt,List.any_eq_not_all_not];simp
  rw[qHM hb,qHQ hb,qHN hs];have e2:decide (gv (some (e.dep:Int))>8)=decide (e.dep>8):=by
   show decide ((e.dep:Int)>8)=_;by_cases h:e.dep>8<;>simp[h]<;>omega
  have e3:decide (e.nodes>64)=false:=by simpa using h64
  have hvl:=qIe (show e.names.length<=big by simp only[big];omega);rw[qaP,hna]at hvl;simp only[ev_bi_some,br_eq,sm_some,e2,e3,jA9];cases decide (e.dep>8)<;>cases e.allX qaM<;>cases hn:e.allX qbx<;>simp[hvl,hn]
end Go.Proofs.H16
namespace Go.Proofs.H16
open Go Go.Eng Go.Tk
set_option maxRecDepth 20000
def ztq(x:Fe):Prop:=x.name.length<=big/\x.when_.nodes<=big/\x.amount.nodes<=big
def zvv(x:Ru):Prop:=x.name.length<=big/\x.amount.nodes<=big
structure PrOk (p:Pr):Prop where
 name:p.name.length<=big
 crl:p.cr.tiers.length<=1000000
 del:p.de.tiers.length<=1000000
 fel:p.fees.length<=1000000
 rul:p.rules.length<=1000000
 fees:∀x∈p.fees,ztq x
 rules:∀x∈p.rules,zvv x
def FeW(x:Fe):Prop:=Wd x.when_/\Wd x.amount
end Go.Proofs.H16
namespace Go.Proofs.H16
open Go Go.Eng Go.Tk
set_option maxRecDepth 20000
def grF(x:Fe):Bool:=(decide (x.name.length>100)||decide (x.when_.nodes>100))||decide (x.amount.nodes>100)
def grR(x:Ru):Bool:=decide (x.name.length>100)||decide (x.amount.nodes>100)
def grP(p:Pr):Bool:=bif (((((decide (p.name.length>100)||decide (p.cur.length>100))||decide (p.cal.length>100))||decide (p.cr.tiers.length>20))||decide (p.de.tiers.length>20))||decide (p.fees.length>10))||decide (p.rules.length>10)then true else p.fees.any grF||p.rules.any grR
abbrev HdT(p:Pr)(i:Int):qeD:=(i,p.name,p.cur,p.cal,p.from_,p.every,p.over,p.tax,ETr p.cr.tiers,p.cr.marg,p.cr.basis,p.cr.mode,p.cr.keep,ETr p.de.tiers,p.de.marg,p.de.basis,p.de.mode,p.de.keep,EF p.fees,ER p.rules)
theorem zjG{α:Type}(l:List α)(k:Nat):decide ((l.length:Int)>(k:Int))=decide (l.length>k):=by
 congr 1;exact propext ⟨fun h=>by omega,fun h=>by omega⟩
theorem qun{p:Pr}(hf:∀x∈p.fees,Wd x.when_/\Wd x.amount)(hr:∀x∈p.rules,Wd x.amount):qoU p.name p.cur p.cal p.from_ p.every p.over p.tax (ETr p.cr.tiers) p.cr.marg p.cr.basis p.cr.mode p.cr.keep (ETr p.de.tiers) p.de.marg p.de.basis p.de.mode p.de.keep (EF p.fees) (ER p.rules)=some (grP p):=by
 have dm:∀{α:Type} (f:α->AV) (l:List α) (k:Nat),decide (((l.map f).length:Int)>(k:Int))=decide (l.length>k):=by
  intro α f l k;rw[jA5,zjG]
 rw[qO5,qsE];have c1:=zjG p.name 100;have c2:=zjG p.cur 100;have c3:=zjG p.cal 100;have c4:=dm Tr.av p.cr.tiers 20;have c5:=dm Tr.av p.de.tiers 20;have c6:=dm Fe.av p.fees 10;have c7:=dm Ru.av p.rules 10;simp only[Int.ofNat_eq_natCast,Int.cast_ofNat_Int]at c1 c2 c3 c4 c5 c6 c7;rw[c1,c2,qeY,ev_bi_some,c3,qeY,ev_bi_some,c4,qeY,ev_bi_some,c5,qeY,ev_bi_some,c6,qeY,ev_bi_some,c7,qeY,ev_bi_some,ev_br];unfold grP;cases hb:((((((decide (p.name.length>100)||decide (p.cur.length>100))||decide (p.cal.length>100))||decide (p.cr.tiers.length>20))||decide (p.de.tiers.length>20))||decide (p.fees.length>10))||decide (p.rules.length>10))
 ·simp only[jB6,jBl]at hb;obtain⟨⟨_,h1⟩,h2⟩:=hb;have g100:∀{e:Ex},Wd e->qe3 e.op e.num e.txt (EX e.args) 100=some (decide (e.nodes>100)):=fun hw=>qul hw (most:=100) (by omega)
  have l0:qvb (HdT p 0)=some (bif p.fees.any grF then 0 else 1,HdT p ((p.fees.findIdx grF:Nat):Int)):=by
   rw[qyK,<-qaP];refine qaH (hd:=fun i=>HdT p (i:Int)) (jx:=fun _=>0) _ 1 (fun i hn=>?_) ?_
   ·obtain⟨w1,w2⟩:=hf _ (jAi hn);have cn:=zjG p.fees[i].name 100;simp only[Int.ofNat_eq_natCast,Int.cast_ofNat_Int]at cn;simp only[qn5,qpX,jA5,qaR hn,Tk.okF hn,qf0 hn,qf2 hn,qf3 hn,qf4 hn,qf5 hn,qf6 hn,qf7 hn,qf8 hn,qf9 hn,g100 w1,g100 w2,cn,sm_some,gv_some,ev_br,jAa,qan hn (show p.fees.length<=big by simp only[big];omega),grF,br_eq,cond_some];cases decide (p.fees[i].name.length>100)<;>cases decide (p.fees[i].when_.nodes>100)<;>cases decide (p.fees[i].amount.nodes>100)<;>rfl
   ·simp[qn5,qpX]
  have l1:qvc (HdT p 0)=some (bif p.rules.any grR then 0 else 1,HdT p ((p.rules.findIdx grR:Nat):Int)):=by
   rw[qyL,<-qaP];refine qaH (hd:=fun i=>HdT p (i:Int)) (jx:=fun _=>0) _ 1 (fun i hn=>?_) ?_
   ·have w1:=hr _ (jAi hn);have cn:=zjG p.rules[i].name 100;simp only[Int.ofNat_eq_natCast,Int.cast_ofNat_Int]at cn;simp only[qn6,qpY,jA5,qaR hn,Tk.okR hn,qr0 hn,qr2 hn,qr3 hn,qr4 hn,qr5 hn,g100 w1,cn,sm_some,gv_some,ev_br,jAa,qan hn (show p.rules.length<=big by simp only[big];omega),grR,br_eq,cond_some];cases decide (p.rules[i].name.length>100)<;>cases decide (p.rules[i].amount.nodes>100)<;>rfl
   ·simp[qn6,qpY]
  simp only[HdT]at l0 l1;rw[jA9,l0];cases p.fees.any grF
  ·refine(biN (by rfl)).trans ((biS (v:=HdT p ((p.fees.findIdx grF:Nat):Int)) (by rfl)).trans ?_);simp only[HdT];rw[l1];cases p.rules.any grR<;>rfl
  ·rfl
 ·rfl
theorem zay{p:Pr}(h:grP p=false):Sml p/\p.cr.tiers.length<=20/\p.de.tiers.length<=20/\p.fees.length<=10/\p.rules.length<=10/\p.name.length<=100/\p.cal.length<=100:=by
 unfold grP at h;cases hb:((((((decide (p.name.length>100)||decide (p.cur.length>100))||decide (p.cal.length>100))||decide (p.cr.tiers.length>20))||decide (p.de.tiers.length>20))||decide (p.fees.length>10))||decide (p.rules.length>10))
 ·rw[hb]at h;simp only[jA9,jB6,List.any_eq_false]at h;simp only[jB6,jBl]at hb;obtain⟨⟨⟨⟨⟨⟨z1,z2⟩,z3⟩,z4⟩,z5⟩,z6⟩,z7⟩:=hb;refine⟨⟨by omega,by omega,by omega,by omega,by omega,fun x hx=>?_,fun x hx=>?_⟩,by omega,by omega,by omega,by omega,by omega,by omega⟩
  ·have:=h.1 x hx;unfold grF at this;simp only[Bool.not_eq_true,jB6,jBl]at this;simp only[big];omega
  ·have:=h.2 x hx;unfold grR at this;simp only[Bool.not_eq_true,jB6,jBl]at this;simp only[big];omega
 ·rw[hb]at h;cases h
end Go.Proofs.H16

/- Definitions of products: what the program prints. -/
import Derived.Test.YtjhhnkemeegahaaGreatDoorTkG
import Derived.Test.YtjhhnkemeegahaaGreatDoorPsA
import Derived.Test.YtjhhnkemeegahaaGreatDoorX16Tok
import Derived.Test.YtjhhnkemeegahaaGreatDoorPsD
import Derived.KernelRfl
set_option linter.all false
namespace Go.Proofs.H16
open Go Go.Eng Go.Tk
set_option maxRecDepth 20000
theorem zbR{ln m:Int}(hm:ln+1=m)(h0:0<=m/\m<=1000000):IntKind.i64.wrap (ln+1)=m:=by
 obtain⟨k,rfl⟩:∃k:Nat,m=(k:Int):=⟨m.toNat,by omega⟩;cases k with
 |zero=>
  have:ln= -1:=by omega
  subst this;rfl
 |succ k=>
  have:ln=(k:Int):=by omega
  subst this;exact qar (m:=k+1) (by omega) (by simp only[big];omega)
theorem zfH(l:List (Int×Bs)){ln m:Int}(hm:ln+1=m)(h0:0<=m/\m<=1000000)(hk:zja l)(hl:1<=l.length/\l.length<=1000):qw6 (l.map fun x=>AV.str x.2) ln=some (m,ET (lnT m l)):=by
 rw[qUt,qBd,qzY hk,zbR hm h0,qHT m hk,jA5];have e:(l.map fun x=>AV.str x.2).isEmpty=false:=by cases l with
  |nil=>simp at hl
  |cons x l=>rfl
 rw[e,qcY (by simp only[lim,Prod.i,Prod.h,Prod.f];omega)];rfl
theorem q5M(l:List (Int×Bs)){ln m:Int}(hm:ln+1=m)(h0:0<=m/\m<=1000000){L:List AV}{acc:List Tok}(hL:L=ET acc)(hk:zja l)(hl:1<=l.length/\l.length+acc.length<=1000000):qcH (l.map fun x=>AV.str x.2) ln L=some (m,ET (acc++lnT m l)):=by
 rw[qUr,qA7,qzY hk,zbR hm h0,qHT m hk,jA5,hL,jA5];have e:(l.map fun x=>AV.str x.2).isEmpty=false:=by cases l with
  |nil=>simp at hl
  |cons x l=>rfl
 rw[e,qcY (by simp only[lim,Prod.i,Prod.h,Prod.f];omega),zjo];rfl
theorem zsa{k ln m:Int}{s:Bs}(hm:ln=m){L:List AV}{acc:List Tok}(hL:L=ET acc)(hl:acc.length<1000000):qdX k s ln L=some (m,ET (acc++[⟨k,m,s⟩])):=by
 rw[qtH,qjk];refine(brT (qqd hL (by omega))).trans ?_;rw[qjp hL rfl hm,hm];rfl
theorem zwJ{n ln m:Int}(hn:0<=n/\n<=9223372036854775807)(hm:ln=m){L:List AV}{acc:List Tok}(hL:L=ET acc)(hl:acc.length<1000000):qjT n ln L=some (m,ET (acc++[⟨2,m,Lib.itoa n⟩])):=by
 rw[qUv,qBk];have h:(decide (-9223372036854775808<=n)&&decide (n<=9223372036854775807))=true:=by
  rw[jA8 (by omega),jA8 hn.2];rfl
 exact(brT h).trans ((biS (zsa hm hL hl)).trans rfl)
theorem zfI{n:Int}(hn:0<=n/\n<=1000000):q4j n=(qiu n.toNat,0):=by
 have e:(decide (n<0)||decide (n>1000000))=false:=by rw[jAe (by omega),jAe (by omega)];rfl
 unfold q4j;rw[e];rfl
theorem zse{n ln m:Int}(hn:0<=n/\n<=1000000)(hm:ln=m){L:List AV}{acc:List Tok}(hL:L=ET acc)(hl:acc.length<1000000):qtF n ln L=some (m,ET (acc++[⟨3,m,qiu n.toNat⟩])):=by
 rw[qUF,qBF];refine(biS (ql0 n)).trans ?_;rw[zfI hn];exact(biS (zsa hm hL hl)).trans rfl
theorem k47:Tk.kindP [47]=4:=(kd (by kernel_rfl)).1
theorem k58:Tk.kindP [58]=4:=(kd (by kernel_rfl)).1
theorem k59:Tk.kindP [59]=4:=(kd (by kernel_rfl)).1
theorem kAm:Tk.kindP [97,109,111,117,110,116,95,111,102]=5:=(kd (by kernel_rfl)).1
theorem qde(l:List (Int×Bs))(m:Int)(acc:List Tok)(h0:0<=m/\m<=1000000)(hk:zja l)(hl:1<=l.length/\l.length+acc.length<=1000000):∃a,a=acc++lnT m l/\a.length=acc.length+l.length/\ ∀{ln:Int} {L:List AV},ln+1=m->L=ET acc->qcH (l.map fun x=>AV.str x.2) ln L=some (m,ET a):=
 ⟨_,rfl,by rw[jA2,lnT,jA5],fun hm hL=>q5M l hm h0 hL hk hl⟩
theorem zjk{n:Int}(m:Int)(acc:List Tok)(hn:0<=n/\n<=9223372036854775807)(hl:acc.length<1000000):∃a,a=acc++[⟨2,m,Lib.itoa n⟩]/\a.length=acc.length+1/\ ∀{ln:Int} {L:List AV},ln=m->L=ET acc->qjT n ln L=some (m,ET a):=
 ⟨_,rfl,by simp,fun hm hL=>zwJ hn hm hL hl⟩
theorem znu{n:Int}(m:Int)(acc:List Tok)(hn:0<=n/\n<=1000000)(hl:acc.length<1000000):∃a,a=acc++[⟨3,m,qiu n.toNat⟩]/\a.length=acc.length+1/\ ∀{ln:Int} {L:List AV},ln=m->L=ET acc->qtF n ln L=some (m,ET a):=
 ⟨_,rfl,by simp,fun hm hL=>zse hn hm hL hl⟩
theorem zig(acc:List Tok)(t:Tok):∃a,a=acc++[t]/\a.length=acc.length+1:=⟨_,rfl,by simp⟩
noncomputable def qC4(p:Pr):List Tok:=lnT 1 [(5,[112,114,111,100,117,99,116]),(1,p.name),(4,[123])]++(lnT 2 [(5,[99,117,114,114,101,110,99,121]),(1,qpX p.cur),(4,[59])]++(lnT 3 [(5,[99,97,108,101,110,100,97,114]),(1,p.cal),(4,[59])] ++
 (lnT 4 [(5,[102,114,111,109]),(2,Lib.itoa (qdT p.from_).1),(4,[47]),(2,Lib.itoa (qdT p.from_).2.1),(4,[47]),(2,Lib.itoa (qdT p.from_).2.2),(4,[59])] ++
 (lnT 5 [(5,[101,118,101,114,121]),(2,Lib.itoa p.every),(4,[59])]++(lnT 6 [(5,[111,118,101,114,100,114,97,102,116]),(4,[36]),(2,Lib.itoa p.over),(4,[59])]++lnT 7 [(5,[116,97,120]),(3,qiu p.tax.toNat),(4,[59])])))))
theorem zmX{p:Pr}(hs:Sml p)(h:qCj p=true)(hf:FitP p)(t1:List AV)(m1:Bool)(b1 o1:Int)(k1:Bool)(t2:List AV)(m2:Bool)(b2 o2:Int)(k2:Bool)(fs rs:List AV):qCS p.name p.cur p.cal p.from_ p.every p.over p.tax t1 m1 b1 o1 k1 t2 m2 b2 o2 k2 fs rs 0=some (7,ET (qC4 p)):=by
 obtain⟨x,hc,hx⟩:=qxc hs.cur;obtain⟨hP,hN⟩:=qER h hf;have hcb:qTJ p.cur=true:=by
  unfold qCj at h;simp only[jA1]at h;exact h.1
 have hx':=hx hcb;subst hx';have rg:∀z:Int,0<=z->z<=99999->0<=z/\z<=9223372036854775807:=fun z a b=>by omega
 have y0:0<=(qdT p.from_).1/\(qdT p.from_).1<=9223372036854775807:=hP.y0;have m0:0<=(qdT p.from_).2.1/\(qdT p.from_).2.1<=9223372036854775807:=hP.m0;have d0:0<=(qdT p.from_).2.2/\(qdT p.from_).2.2<=9223372036854775807:=hP.d0;obtain⟨a1,e1,n1⟩:∃a,a=lnT 1 [(5,[112,114,111,100,117,99,116]),(1,p.name),(4,[123])]/\a.length=3:=⟨_,rfl,rfl⟩;have h1:qw6 [AV.str [112,114,111,100,117,99,116],AV.str p.name,AV.str [123]] 0=some (1,ET a1):=by
  rw[e1];exact zfH [(5,[112,114,111,100,117,99,116]),(1,p.name),(4,[123])] (m:=1) rfl (by decide) ⟨kd (by kernel_rfl),kN hN.name,kd (by kernel_rfl),trivial⟩ ⟨by simp,by simp⟩
 obtain⟨a2,e2,n2,h2⟩:=qde [(5,[99,117,114,114,101,110,99,121]),(1,qpX p.cur),(4,[59])] 2 a1 (by decide) ⟨kd (by kernel_rfl),kN hN.cur,kd (by kernel_rfl),trivial⟩ (by simp only[jA0,jA4];omega);obtain⟨a3,e3,n3,h3⟩:=qde [(5,[99,97,108,101,110,100,97,114]),(1,p.cal),(4,[59])] 3 a2 (by decide) ⟨kd (by kernel_rfl),kN hN.cal,kd (by kernel_rfl),trivial⟩ (by simp only[jA0,jA4]at *;omega);obtain⟨a4,e4,n4,h4⟩:=qde [(5,[102,114,111,109])] 4 a3 (by decide) ⟨kd (by kernel_rfl),trivial⟩ (by simp only[jA0,jA4]at *;omega);simp only[jA0,jA4]at n2 n3 n4;obtain⟨a5,e5,n5,h5⟩:=zjk 4 a4 y0 (by omega);obtain⟨a6,e6,n6⟩:=zig a5 ⟨4,4,[47]⟩;obtain⟨a7,e7,n7,h7⟩:=zjk 4 a6 m0 (by omega);obtain⟨a8,e8,n8⟩:=zig a7 ⟨4,4,[47]⟩;obtain⟨a9,e9,n9,h9⟩:=zjk 4 a8 d0 (by omega);obtain⟨b1',f1,m1'⟩:=zig a9 ⟨4,4,[59]⟩;obtain⟨b2',f2,m2',g2⟩:=qde [(5,[101,118,101,114,121])] 5 b1' (by decide) ⟨kd (by kernel_rfl),trivial⟩ (by simp only[jA0,jA4];omega);simp only[jA0,jA4]at m2';obtain⟨b3,f3,m3,g3⟩:=zjk 5 b2' hP.every (by omega);obtain⟨b4,f4,m4⟩:=zig b3 ⟨4,5,[59]⟩;obtain⟨b5,f5,m5,g5⟩:=qde [(5,[111,118,101,114,100,114,97,102,116]),(4,[36])] 6 b4 (by decide) ⟨kd (by kernel_rfl),kd (by kernel_rfl),trivial⟩ (by simp only[jA0,jA4];omega);simp only[jA0,jA4]at m5;obtain⟨b6,f6,m6,g6⟩:=zjk 6 b5 hP.over (by omega);obtain⟨b7,f7,m7⟩:=zig b6 ⟨4,6,[59]⟩;obtain⟨b8,f8,m8,g8⟩:=qde [(5,[116,97,120])] 7 b7 (by decide) ⟨kd (by kernel_rfl),trivial⟩ (by simp only[jA0,jA4];omega);simp only[jA0,jA4]at m8;obtain⟨b9,f9,m9,g9⟩:=znu 7 b8 hP.tax (by omega);have fin:b9++[⟨4,7,[59]⟩]=qC4 p:=by
  rw[f9,f8,f7,f6,f5,f4,f3,f2,f1,e9,e8,e7,e6,e5,e4,e3,e2,e1];simp only[qC4,lnT,jAs,jCe,jAf,jAk,jAx]
 rw[qUD,qBD];refine(biS hc).trans ((biS h1).trans ((biS (h2 rfl rfl)).trans ((biS (h3 rfl rfl)).trans ((biS (qGL p.from_)).trans ((biS (h4 rfl rfl)).trans ((biS (h5 rfl rfl)).trans ?_))))));refine(brT (qqd rfl (by omega))).trans ((biS (h7 rfl ((qjp rfl k47 rfl).trans (congrArg ET e6.symm)))).trans ?_);refine(brT (qqd rfl (by omega))).trans ((biS (h9 rfl ((qjp rfl k47 rfl).trans (congrArg ET e8.symm)))).trans ?_);refine(brT (qqd rfl (by omega))).trans ((biS (g2 rfl ((qjp rfl k59 rfl).trans (congrArg ET f1.symm)))).trans ((biS (g3 rfl rfl)).trans ?_));refine(brT (qqd rfl (by omega))).trans ((biS (g5 rfl ((qjp rfl k59 rfl).trans (congrArg ET f4.symm)))).trans ((biS (g6 rfl rfl)).trans ?_));refine(brT (qqd rfl (by omega))).trans ((biS (g8 rfl ((qjp rfl k59 rfl).trans (congrArg ET f7.symm)))).trans ((biS (g9 rfl rfl)).trans ?_));refine(brT (qqd rfl (by omega))).trans ?_;refine congrArg some (Prod.ext rfl ?_);exact(qjp rfl k59 (m:=7) rfl).trans (congrArg ET fin)
end Go.Proofs.H16
namespace Go.Proofs.H16
open Go Go.Eng Go.Tk
set_option maxRecDepth 20000
theorem zfk{ts:List Tr}(ht:∀t∈ts,qkB t){ln:Int}{acc:List Tok}(h0:0<=ln)(hb:ln+ts.length<=999999)(hl:acc.length+(qcU (ln+1) ts).length<=1000000) :
  qpV (ETr ts,(ts.length:Int),0,ln,ET acc)=some (0,ETr ts,(ts.length:Int),(ts.length:Int),ln+(ts.length:Int),ET (acc++qcU (ln+1) ts)):=by
 rw[qyw,quu]at hl ⊢;have e0:((ETr ts,(ts.length:Int),0,ln,ET acc):qge)=(ETr ts,(ts.length:Int),((0:Nat):Int),ln+((0:Nat):Int),ET acc):=by simp
 rw[qDa,e0];refine qsF (hd:=fun n acc=>(ETr ts,(ts.length:Int),(n:Int),ln+(n:Int),ET acc)) (fun n=>qpC (ln+1+(n:Int))) 0 (fun n hn acc hl'=>?_) (fun acc=>?_) hl
 ·obtain⟨q1,q2,q3,q4⟩:=ht _ (jAi hn);have hl5:acc.length+5<=1000000:=hl';obtain⟨a1,e1,n1,h1⟩:=qde [(4,[36])] (ln+1+(n:Int)) acc ⟨by omega,by omega⟩ ⟨kd (by kernel_rfl),trivial⟩ (by simp only[jA0,jA4];omega);simp only[jA0,jA4]at n1;obtain⟨a2,e2,n2,h2⟩:=zjk (ln+1+(n:Int)) a1 ⟨q1,q2⟩ (by omega);obtain⟨a3,e3,n3⟩:=zig a2 ⟨4,ln+1+(n:Int),[58]⟩;obtain⟨a4,e4,n4,h4⟩:=znu (ln+1+(n:Int)) a3 ⟨q3,q4⟩ (by omega);have fin:a4++[⟨4,ln+1+(n:Int),[59]⟩]=acc++qpC (ln+1+(n:Int)) ts[n]:=by
   rw[e4,e3,e2,e1];simp only[qpC,lnT,jAs,jCe,jAf,jAk,jAx]
  show(qkp _ _ _ _ _).ev=_;unfold qkp;rw[zn3 hn,zn4 hn];refine(brT (by rw[qaV hn])).trans ((brT (zn1 hn)).trans ((biS (h1 (by show ln+(n:Int)+1=ln+1+(n:Int);omega) rfl)).trans ((biS (h2 rfl rfl)).trans ?_)));refine(brT (qqd rfl (by omega))).trans ((biS (h4 rfl ((qjp rfl k58 rfl).trans (congrArg ET e3.symm)))).trans ?_);refine(brT (qqd rfl (by omega))).trans ?_;refine congrArg (fun z=>some (Rd.next z)) ?_;show((ETr ts,(ts.length:Int),IntKind.i64.wrap ((n:Int)+1),ln+1+(n:Int),_):qge)=_;rw[qar hn (by simp only[big];omega),<-fin,<-(qjp rfl k59 rfl:ET a4++[AV.agg [AV.int IntKind.i64 (Tk.kindP [59]),AV.int IntKind.i64 (ln+1+(n:Int)),AV.str [59]]]=_)];have e:ln+1+(n:Int)=ln+((n+1:Nat):Int):=by omega
  rw[e]
 ·show(qkp _ _ _ _ _).ev=_;unfold qkp;exact(brF (by simp)).trans rfl
theorem qLQ{ws:List Bs}{b k:Int}(h:qoU b k=true)(hk:k=(ws.length:Int))(hs:ws.length<=1000):qaH [CS.str] (ES ws) (IntKind.i64.wrap (b-1))=true/\strOf (cellAt (ES ws) (IntKind.i64.wrap (b-1)) 0)=qwu ws b:=by
 unfold qoU at h;simp only[jA1,jA6]at h;obtain⟨n,rfl⟩:∃n:Nat,b=(n:Int):=⟨b.toNat,by omega⟩;have hn:n-1<ws.length:=by omega
 rw[qwq (by omega) (by simp only[big];omega)];refine⟨qAf hn,?_⟩;rw[qs0 hn];unfold qwu;have e:((n:Int)-1).toNat=n-1:=by omega
 rw[e,jAh hn];rfl
theorem zmY{w:Bs}(hw:Tk.kindP w=5/\w.isEmpty=false){x:In}(hx:q9G x){ln:Int}{acc:List Tok}(h0:0<=ln)(hb:ln+x.tiers.length<=900000)(hl:acc.length+(inT w (ln+1) x).length<=1000000) :
  qw0 w (ETr x.tiers) x.marg x.basis x.mode x.keep ln (ET acc)=some (ln+2+(x.tiers.length:Int),ET (acc++inT w (ln+1) x)):=by
 obtain⟨ht,b1,b2,b3,b4⟩:=hx;have rb:qoU x.basis 4=true:=by unfold qoU;rw[jA8 b1,jA8 b2];rfl
 have rm:qoU x.mode 6=true:=by unfold qoU;rw[jA8 b3,jA8 b4];rfl
 obtain⟨o1,s1⟩:=qLQ (ws:=qgj) rb rfl (by decide);obtain⟨o2,s2⟩:=qLQ (ws:=qgE) rm rfl (by decide);have kb:=kWn (ws:=qgj) (by kernel_rfl) rb rfl;have km:=kWn (ws:=qgE) (by kernel_rfl) rm rfl;rw[<-s1]at kb;rw[<-s2]at km;have kh:Tk.kindP (bif x.marg then[109,97,114,103,105,110,97,108]else[119,104,111,108,101])=5/\(bif x.marg then([109,97,114,103,105,110,97,108]:Bs)else[119,104,111,108,101]).isEmpty=false:=by
  cases x.marg<;>exact kd (by kernel_rfl)
 have kr:Tk.kindP (bif x.keep then[107,101,101,112]else[100,114,111,112])=5/\(bif x.keep then([107,101,101,112]:Bs)else[100,114,111,112]).isEmpty=false:=by
  cases x.keep<;>exact kd (by kernel_rfl)
 have hlen:=hl;rw[qt3]at hlen;obtain⟨a1,e1,n1,h1⟩:=qde [(5,w),(5,bif x.marg then[109,97,114,103,105,110,97,108]else[119,104,111,108,101]),(5,strOf (cellAt (ES qgj) (IntKind.i64.wrap (x.basis-1)) 0)),(5,strOf (cellAt (ES qgE) (IntKind.i64.wrap (x.mode-1)) 0)),(5,bif x.keep then[107,101,101,112]else[100,114,111,112]),(4,[123])] (ln+1) acc ⟨by omega,by omega⟩
  ⟨hw,kh,kb,km,kr,kd (by kernel_rfl),trivial⟩ (by simp only[jA0,jA4];omega)
 simp only[jA0,jA4]at n1;rw[s1,s2]at e1;have htl:(qcU (ln+1+1) x.tiers).length=5*x.tiers.length:=by
  have:=qt3 w (ln+1) x;simp only[inT,jA2,lnT,jA5,jA0,jA4]at this;omega
 have h2:=zfk (ts:=x.tiers) ht (ln:=ln+1) (acc:=a1) (by omega) (by omega) (by omega);obtain⟨a2,e2,n2,h3⟩:=qde [(4,[125])] (ln+2+(x.tiers.length:Int)) (a1++qcU (ln+1+1) x.tiers) ⟨by omega,by omega⟩ ⟨kd (by kernel_rfl),trivial⟩ (by rw[jA2];simp only[jA0,jA4];omega);have fin:a2=acc++inT w (ln+1) x:=by
  rw[e2,e1];unfold inT;have e:ln+1+1+(x.tiers.length:Int)=ln+2+(x.tiers.length:Int):=by omega
  rw[e];simp only[jAf]
 have e3:ln+1+(x.tiers.length:Int)+1=ln+2+(x.tiers.length:Int):=by omega
 have h2':pj 0 (qpV (ETr x.tiers,(x.tiers.length:Int),0,ln+1,ET a1))=some (ETr x.tiers,(x.tiers.length:Int),(x.tiers.length:Int),ln+1+(x.tiers.length:Int),ET (a1++qcU (ln+1+1) x.tiers)):=by
  rw[h2];rfl
 rw[qUn,qA2,jA5,<-fin];have h1':=@h1 ln (ET acc) rfl rfl;have h3':=h3 e3 rfl;cases hm:x.marg<;>cases hk:x.keep<;>rw[hm,hk]at h1'
 ·exact(brF rfl).trans ((brF rfl).trans ((biS qd4).trans ((brT o1).trans ((biS qd5).trans ((brT o2).trans ((biS h1').trans ((biS h2').trans ((biS h3').trans rfl))))))))
 ·exact(brF rfl).trans ((brT rfl).trans ((biS qd4).trans ((brT o1).trans ((biS qd5).trans ((brT o2).trans ((biS h1').trans ((biS h2').trans ((biS h3').trans rfl))))))))
 ·exact(brT rfl).trans ((brF rfl).trans ((biS qd4).trans ((brT o1).trans ((biS qd5).trans ((brT o2).trans ((biS h1').trans ((biS h2').trans ((biS h3').trans rfl))))))))
 ·exact(brT rfl).trans ((brT rfl).trans ((biS qd4).trans ((brT o1).trans ((biS qd5).trans ((brT o2).trans ((biS h1').trans ((biS h2').trans ((biS h3').trans rfl))))))))
theorem q2n{e:Ex}(he:e.nodes<=big)(hv:qaO e=0){ln:Int}{L:List AV}{acc:List Tok}(hL:L=ET acc)(hl:acc.length+(exT ln e).length<=1000000):qju e.op e.num e.txt (EX e.args) ln L=some (.inr (ln,ET (acc++exT ln e))):=by
 have htk:=qGE he;rw[hv]at htk;obtain⟨t,ts,ht⟩:=List.exists_cons_of_ne_nil (zsO e);have hls:(wrB e).length=ts.length+1:=by rw[ht];rfl
 have hlx:(exT ln e).length=ts.length+1:=by unfold exT;rw[jA5,hls]
 have hpos:0<(wrB e).length:=by omega
 have step:∀n (hn:n<(wrB e).length) (acc:List Tok),acc.length<1000000->qdX (intOf (cellAt (ET (wrB e)) (n:Int) 0)) (strOf (cellAt (ET (wrB e)) (n:Int) 2)) ln (ET acc)=some (ln,ET (acc++[⟨(wrB e)[n].kind,ln,(wrB e)[n].text⟩])):=by
  intro n hn acc h;rw[qt0 hn,qt2 hn];exact zsa rfl rfl h
 have hbg:(wrB e).length<=big:=by simp only[big];omega
 have s0:(fun v=>(qvH v).ev) (Sum.inl (ET (wrB e),((wrB e).length:Int),0,ln,ET acc))=some (.next (.inr (ET (wrB e),((wrB e).length:Int),((1:Nat):Int),ln,ET (acc++[⟨t.kind,ln,t.text⟩])))):=by
  show(qvI _ _ _ _ _).ev=_;unfold qvI;have h:=step 0 hpos acc (by omega);have hd:decide ((0:Int)<((wrB e).length:Int))=true:=jA8 (by omega);have hg:(wrB e)[0]=t:=by simp only[ht,List.getElem_cons_zero]
  rw[hg]at h;exact(brT hd).trans ((brT (okT (n:=0) hpos)).trans ((biS h).trans rfl))
 have hloop:qum (Sum.inl (ET (wrB e),((wrB e).length:Int),0,ln,ET acc))=some (1,.inr (ET (wrB e),((wrB e).length:Int),((wrB e).length:Int),ln,ET (acc++exT ln e))):=by
  rw[qDc,qao s0];have h:=qIS (st:=fun v=>(qvH v).ev) (xs:=wrB e) (hd:=fun n acc=>.inr (ET (wrB e),((wrB e).length:Int),(n:Int),ln,ET acc)) (fun _ t=>[⟨t.kind,ln,t.text⟩]) 1 (fun n hn acc hl'=>?_) (fun acc=>?_) ts.length 1 (acc++[⟨t.kind,ln,t.text⟩]) (by omega) ?_
  ·rw[h];have e1:acc++[⟨t.kind,ln,t.text⟩]++qMP (fun _ (t:Tok)=>[(⟨t.kind,ln,t.text⟩:Tok)]) 1 ((wrB e).drop 1)=acc++exT ln e:=by
    unfold exT;rw[<-qHZ (fun t:Tok=>(⟨t.kind,ln,t.text⟩:Tok)),ht];simp
   rw[e1]
  ·have hl1:acc.length+1<=1000000:=hl';show(qks _ _ _ _ _).ev=_;unfold qks;refine(brT (by rw[qaV hn])).trans ((brT (okT hn)).trans ((biS (step n hn acc (by omega))).trans ?_));show some (Rd.next (Sum.inr (ET (wrB e),((wrB e).length:Int),IntKind.i64.wrap ((n:Int)+1),ln,_)))=_;rw[qar hn hbg]
  ·show(qks _ _ _ _ _).ev=_;unfold qks;exact(brF (by simp)).trans rfl
  ·rw[<-qHZ (fun t:Tok=>(⟨t.kind,ln,t.text⟩:Tok)),ht];simp only[jA2,jA5,jB0,jA0,jA4];omega
 rw[qUC,qBC,hL];refine(biS htk).trans ?_;show(DT.bi (pj 0 (qum (Sum.inl (ET (wrB e),((ET (wrB e)).length:Int),0,ln,ET acc)))) _ _).ev=_;rw[jA5];refine(biN (by rw[hloop];rfl)).trans ?_;show(DT.bi (pj 1 (qum (Sum.inl (ET (wrB e),((ET (wrB e)).length:Int),0,ln,ET acc)))) _ _).ev=_;rw[jA5];exact(biS (v:=.inr (ET (wrB e),((wrB e).length:Int),((wrB e).length:Int),ln,ET (acc++exT ln e))) (by rw[hloop];rfl)).trans rfl
end Go.Proofs.H16
namespace Go.Proofs.H16
open Go Go.Eng Go.Tk
set_option maxRecDepth 20000
theorem q5i{l:List Tok}(hb:q57 l=true):jB IP 24 (ET l)=true/\jS IP 24 (ET l)=(qoz qaT l).1/\jN IP 24 (ET l)=(qoz qaT l).2:=
 zuK (qOS (IP:=IP) (f:=24) (v:=66) (by kernel_rfl) (by kernel_rfl) (by kernel_rfl) hb fun t _=>qTC (t.kind,t.line,t.text) (qaT t) (qGI _ _ _))
end Go.Proofs.H16
namespace Go.Proofs.H16
open Go Go.Eng Go.Tk
set_option maxRecDepth 20000
abbrev HdF(p:Pr)(i ln:Int)(acc:List Tok):qgg:=(EF p.fees,(p.fees.length:Int),i,p.name,p.cur,p.cal,p.from_,p.every,p.over,p.tax,ETr p.cr.tiers,p.cr.marg,p.cr.basis,p.cr.mode,p.cr.keep,ETr p.de.tiers,p.de.marg,p.de.basis,p.de.mode,p.de.keep,EF p.fees,ER p.rules,ln,ET acc)
theorem zjp(p:Pr){i i' ln ln':Int}{A:List AV}{acc:List Tok}(h1:i=i')(h2:ln=ln')(h3:A=ET acc):((EF p.fees,(p.fees.length:Int),i,p.name,p.cur,p.cal,p.from_,p.every,p.over,p.tax,ETr p.cr.tiers,p.cr.marg,p.cr.basis,p.cr.mode,p.cr.keep,ETr p.de.tiers,p.de.marg,p.de.basis,p.de.mode,p.de.keep,EF p.fees,ER p.rules,ln,A):qgg)=HdF p i' ln' acc:=by subst h1;subst h2;subst h3;rfl
theorem zjq(L:List AV)(k:Int){i i' ln ln':Int}{A A':List AV}(h1:i=i')(h2:ln=ln')(h3:A=A'):((L,k,i,ln,A):qgh)=(L,k,i',ln',A'):=by subst h1;subst h2;subst h3;rfl
theorem zln{p:Pr}(hs:Sml p)(hx:∀x∈p.fees,zeW x/\qc4 x.name=true){ln:Int}{acc:List Tok}(h0:0<=ln)(hb:ln+p.fees.length<=900000)(hl:acc.length+(qcB feT (ln+1) p.fees).length<=1000000) :
  qDs (HdF p 0 ln acc)=some (0,HdF p (p.fees.length:Int) (ln+(p.fees.length:Int)) (acc++qcB feT (ln+1) p.fees)):=by
 rw[quu]at hl ⊢;have e0:HdF p 0 ln acc=HdF p ((0:Nat):Int) (ln+((0:Nat):Int)) acc:=by simp
 rw[qDt,e0];refine qsF (hd:=fun n acc=>HdF p (n:Int) (ln+(n:Int)) acc) (fun n=>feT (ln+1+(n:Int))) 0 (fun n hn acc hl'=>?_) (fun acc=>?_) hl
 ·obtain⟨⟨q1,q2,q3,q4⟩,q5⟩:=hx _ (jAi hn);obtain⟨k1,k2⟩:=hs.fees _ (jAi hn);have rb:qoU p.fees[n].event 4=true:=by unfold qoU;rw[jA8 q1,jA8 q2];rfl
  obtain⟨o1,s1⟩:=qLQ (ws:=qdh) rb rfl (by decide);have kb:=kWn (ws:=qdh) (by kernel_rfl) rb rfl;rw[<-s1]at kb;have hlen:(feT (ln+1+(n:Int)) p.fees[n]).length=6+(exT (ln+1+(n:Int)) p.fees[n].when_).length+(exT (ln+1+(n:Int)) p.fees[n].amount).length:=by
   simp only[feT,lnT,jA2,jA5,jA0,jA4];omega
  rw[hlen]at hl';obtain⟨a1,e1,n1,h1⟩:=qde [(5,[102,101,101]),(1,p.fees[n].name),(5,strOf (cellAt (ES qdh) (IntKind.i64.wrap (p.fees[n].event-1)) 0)),(5,[119,104,101,110])] (ln+1+(n:Int)) acc ⟨by omega,by omega⟩
   ⟨kd (by kernel_rfl),kN q5,kb,kd (by kernel_rfl),trivial⟩ (by simp only[jA0,jA4];omega)
  simp only[jA0,jA4]at n1;rw[s1]at e1;obtain⟨a2,e2,n2⟩:∃a,a=a1++exT (ln+1+(n:Int)) p.fees[n].when_/\a.length=a1.length+(exT (ln+1+(n:Int)) p.fees[n].when_).length:=⟨_,rfl,jA2 ..⟩;have h2:=q2n k1 q3 (ln:=ln+1+(n:Int)) (L:=ET a1) rfl (by omega);rw[<-e2]at h2;obtain⟨a3,e3,n3⟩:=zig a2 ⟨5,ln+1+(n:Int),[97,109,111,117,110,116,95,111,102]⟩;obtain⟨a4,e4,n4⟩:∃a,a=a3++exT (ln+1+(n:Int)) p.fees[n].amount/\a.length=a3.length+(exT (ln+1+(n:Int)) p.fees[n].amount).length:=⟨_,rfl,jA2 ..⟩;have h4:=q2n k2 q4 (ln:=ln+1+(n:Int)) ((qjp (L:=ET a2) rfl kAm rfl).trans (congrArg ET e3.symm)) (by omega);rw[<-e4]at h4;have fin:a4++[⟨4,ln+1+(n:Int),[59]⟩]=acc++feT (ln+1+(n:Int)) p.fees[n]:=by
   rw[e4,e3,e2,e1];simp only[feT,lnT,jAs,jCe,jAf,jAk,jAx]
  show(qkz _ _ _ _ _ _ _ _ _ _ _ _ _ _ _ _ _ _ _ _ _ _ _ _).ev=_;unfold qkz;rw[qf0 hn,qf1 hn,qf2 hn,qf3 hn,qf4 hn,qf5 hn,qf6 hn,qf7 hn,qf8 hn,qf9 hn];refine(brT (by rw[qaV hn])).trans ((brT (Tk.okF hn)).trans ((biS qg3).trans ((brT o1).trans ((biS (h1 (by show ln+(n:Int)+1=ln+1+(n:Int);omega) rfl)).trans ?_))));refine(qp9 h2).trans ((biR h2).trans ((brT (qqd rfl (by omega))).trans ((qp9 h4).trans ((biR h4).trans ((brT (qqd rfl (by omega))).trans ?_)))));have e:ln+1+(n:Int)=ln+((n+1:Nat):Int):=by omega
  exact congrArg (fun z=>some (Rd.next z)) (zjp p (qar hn (by simp only[big];omega)) e ((qjp rfl k59 rfl).trans (congrArg ET fin)))
 ·show(qkz _ _ _ _ _ _ _ _ _ _ _ _ _ _ _ _ _ _ _ _ _ _ _ _).ev=_;unfold qkz;exact(brF (by simp)).trans rfl
theorem zfj{l:List Ru}(hs:∀x∈l,x.amount.nodes<=big)(hx:∀x∈l,zfY x/\qc4 x.name=true){ln:Int}{acc:List Tok}(h0:0<=ln)(hb:ln+l.length<=900000)(hl:acc.length+(qcB ruT (ln+1) l).length<=1000000) :
  qxU (ER l,(l.length:Int),0,ln,ET acc)=some (0,ER l,(l.length:Int),(l.length:Int),ln+(l.length:Int),ET (acc++qcB ruT (ln+1) l)):=by
 rw[quu]at hl ⊢;have e0:((ER l,(l.length:Int),0,ln,ET acc):qgh)=(ER l,(l.length:Int),((0:Nat):Int),ln+((0:Nat):Int),ET acc):=by simp
 rw[qDu,e0];refine qsF (hd:=fun n acc=>(ER l,(l.length:Int),(n:Int),ln+(n:Int),ET acc)) (fun n=>ruT (ln+1+(n:Int))) 0 (fun n hn acc hl'=>?_) (fun acc=>?_) hl
 ·obtain⟨⟨q1,q2,q3⟩,q5⟩:=hx _ (jAi hn);have k1:=hs _ (jAi hn);have rb:qoU l[n].window 3=true:=by unfold qoU;rw[jA8 q1,jA8 q2];rfl
  obtain⟨o1,s1⟩:=qLQ (ws:=qck) rb rfl (by decide);have kb:=kWn (ws:=qck) (by kernel_rfl) rb rfl;rw[<-s1]at kb;have hlen:(ruT (ln+1+(n:Int)) l[n]).length=4+(exT (ln+1+(n:Int)) l[n].amount).length:=by
   simp only[ruT,lnT,jA2,jA5,jA0,jA4];omega
  rw[hlen]at hl';obtain⟨a1,e1,n1,h1⟩:=qde [(5,[108,105,109,105,116]),(1,l[n].name),(5,strOf (cellAt (ES qck) (IntKind.i64.wrap (l[n].window-1)) 0))] (ln+1+(n:Int)) acc ⟨by omega,by omega⟩
   ⟨kd (by kernel_rfl),kN q5,kb,trivial⟩ (by simp only[jA0,jA4];omega)
  simp only[jA0,jA4]at n1;rw[s1]at e1;obtain⟨a2,e2,n2⟩:∃a,a=a1++exT (ln+1+(n:Int)) l[n].amount/\a.length=a1.length+(exT (ln+1+(n:Int)) l[n].amount).length:=⟨_,rfl,jA2 ..⟩;have h2:=q2n k1 q3 (ln:=ln+1+(n:Int)) (L:=ET a1) rfl (by omega);rw[<-e2]at h2;have fin:a2++[⟨4,ln+1+(n:Int),[59]⟩]=acc++ruT (ln+1+(n:Int)) l[n]:=by
   rw[e2,e1];simp only[ruT,lnT,jAs,jCe,jAf,jAk,jAx]
  show(qkA _ _ _ _ _).ev=_;unfold qkA;rw[qr0 hn,qr1 hn,qr2 hn,qr3 hn,qr4 hn,qr5 hn];refine(brT (by rw[qaV hn])).trans ((brT (Tk.okR hn)).trans ((biS qcR).trans ((brT o1).trans ((biS (h1 (by show ln+(n:Int)+1=ln+1+(n:Int);omega) rfl)).trans ?_))));refine(qp9 h2).trans ((biR h2).trans ((brT (qqd rfl (by omega))).trans ?_));have e:ln+1+(n:Int)=ln+((n+1:Nat):Int):=by omega
  exact congrArg (fun z=>some (Rd.next z)) (zjq _ _ (qar hn (by simp only[big];omega)) e ((qjp rfl k59 rfl).trans (congrArg ET fin)))
 ·show(qkA _ _ _ _ _).ev=_;unfold qkA;exact(brF (by simp)).trans rfl
theorem qPj(p:Pr):qdS qdT p=qC4 p++(inT [99,114,101,100,105,116] (7+1) p.cr++(inT [100,101,98,105,116] (7+2+(p.cr.tiers.length:Int)+1) p.de++(qcB feT (7+2+(p.cr.tiers.length:Int)+2+(p.de.tiers.length:Int)+1) p.fees++(qcB ruT (7+2+(p.cr.tiers.length:Int)+2+(p.de.tiers.length:Int)+(p.fees.length:Int)+1) p.rules ++
  lnT (7+2+(p.cr.tiers.length:Int)+2+(p.de.tiers.length:Int)+(p.fees.length:Int)+(p.rules.length:Int)+1) [(4,[125])])))):=by
 have e1:(7:Int)+1=8:=rfl;have e2:7+2+(p.cr.tiers.length:Int)+1=10+p.cr.tiers.length:=by omega
 have e3:7+2+(p.cr.tiers.length:Int)+2+(p.de.tiers.length:Int)+1=12+p.cr.tiers.length+p.de.tiers.length:=by omega
 have e4:7+2+(p.cr.tiers.length:Int)+2+(p.de.tiers.length:Int)+(p.fees.length:Int)+1=12+p.cr.tiers.length+p.de.tiers.length+p.fees.length:=by omega
 have e5:7+2+(p.cr.tiers.length:Int)+2+(p.de.tiers.length:Int)+(p.fees.length:Int)+(p.rules.length:Int)+1=12+p.cr.tiers.length+p.de.tiers.length+p.fees.length+p.rules.length:=by omega
 rw[e1,e2,e3,e4,e5];unfold qdS qC4;simp only[jAf]
theorem qiK{p:Pr}(hs:Sml p)(hf:FitP p)(hl:qCj p=true->(qdS qdT p).length<=1000000) :
  qhr p.name p.cur p.cal p.from_ p.every p.over p.tax (ETr p.cr.tiers) p.cr.marg p.cr.basis p.cr.mode p.cr.keep (ETr p.de.tiers) p.de.marg p.de.basis p.de.mode p.de.keep (EF p.fees) (ER p.rules)=some (qhF p):=by
 rw[qM6,qqM];refine(biS (qOE hs)).trans ?_;unfold qhF;cases hw:qCj p
 ·exact(brT rfl).trans rfl
 ·obtain⟨hP,hN⟩:=qER hw hf;have hlen:=hl hw;have hrng:=zl6 hP hN hlen;obtain⟨s1,s2,s3,s4⟩:p.cr.tiers.length<=2048/\p.de.tiers.length<=2048/\p.fees.length<=2048/\p.rules.length<=2048:=⟨hs.cr,hs.de,hs.fl,hs.rl⟩;rw[qPj]at hlen hrng ⊢;simp only[jA2]at hlen;have hw1:=zmX hs hw hf (ETr p.cr.tiers) p.cr.marg p.cr.basis p.cr.mode p.cr.keep (ETr p.de.tiers) p.de.marg p.de.basis p.de.mode p.de.keep (EF p.fees) (ER p.rules);obtain⟨a1,e1,n1⟩:∃a,a=qC4 p/\a.length=(qC4 p).length:=⟨_,rfl,rfl⟩;rw[<-e1]at hw1;obtain⟨a2,e2,n2⟩:∃a,a=a1++inT [99,114,101,100,105,116] (7+1) p.cr/\a.length=a1.length+(inT [99,114,101,100,105,116] (7+1) p.cr).length:=⟨_,rfl,jA2 ..⟩;have h2:=zmY (w:=[99,114,101,100,105,116]) (kd (by kernel_rfl)) hP.cr (ln:=7) (acc:=a1) (by omega) (by omega) (by omega);rw[<-e2]at h2;obtain⟨a3,e3,n3⟩:∃a,a=a2++inT [100,101,98,105,116] (7+2+(p.cr.tiers.length:Int)+1) p.de/\a.length=a2.length+(inT [100,101,98,105,116] (7+2+(p.cr.tiers.length:Int)+1) p.de).length:=⟨_,rfl,jA2 ..⟩;have h3:=zmY (w:=[100,101,98,105,116]) (kd (by kernel_rfl)) hP.de (ln:=7+2+(p.cr.tiers.length:Int)) (acc:=a2) (by omega) (by omega) (by omega);rw[<-e3]at h3;have h4:=zln hs (fun x hx=>⟨hP.fees x hx,hN.fees x hx⟩) (ln:=7+2+(p.cr.tiers.length:Int)+2+(p.de.tiers.length:Int)) (acc:=a3) (by omega) (by omega) (by omega);obtain⟨a4,e4,n4⟩:∃a,a=a3++qcB feT (7+2+(p.cr.tiers.length:Int)+2+(p.de.tiers.length:Int)+1) p.fees/\a.length=a3.length+(qcB feT (7+2+(p.cr.tiers.length:Int)+2+(p.de.tiers.length:Int)+1) p.fees).length:=⟨_,rfl,jA2 ..⟩;rw[<-e4]at h4;have h5:=zfj hs.rules (fun x hx=>⟨hP.rules x hx,hN.rules x hx⟩) (ln:=7+2+(p.cr.tiers.length:Int)+2+(p.de.tiers.length:Int)+(p.fees.length:Int)) (acc:=a4) (by omega) (by omega) (by omega);obtain⟨a5,e5,n5⟩:∃a,a=a4++qcB ruT (7+2+(p.cr.tiers.length:Int)+2+(p.de.tiers.length:Int)+(p.fees.length:Int)+1) p.rules/\a.length=a4.length+(qcB ruT (7+2+(p.cr.tiers.length:Int)+2+(p.de.tiers.length:Int)+(p.fees.length:Int)+1) p.rules).length:=⟨_,rfl,jA2 ..⟩;rw[<-e5]at h5;have hbl:(lnT (7+2+(p.cr.tiers.length:Int)+2+(p.de.tiers.length:Int)+(p.fees.length:Int)+(p.rules.length:Int)+1) [((4:Int),([125]:Bs))]).length=1:=rfl;obtain⟨a6,e6,n6,h6⟩:=qde [(4,[125])] (7+2+(p.cr.tiers.length:Int)+2+(p.de.tiers.length:Int)+(p.fees.length:Int)+(p.rules.length:Int)+1) a5 ⟨by omega,by omega⟩ ⟨kd (by kernel_rfl),trivial⟩ (by simp only[jA0,jA4];omega);have fin:a6=qC4 p++(inT [99,114,101,100,105,116] (7+1) p.cr++(inT [100,101,98,105,116] (7+2+(p.cr.tiers.length:Int)+1) p.de++(qcB feT (7+2+(p.cr.tiers.length:Int)+2+(p.de.tiers.length:Int)+1) p.fees++(qcB ruT (7+2+(p.cr.tiers.length:Int)+2+(p.de.tiers.length:Int)+(p.fees.length:Int)+1) p.rules ++
    lnT (7+2+(p.cr.tiers.length:Int)+2+(p.de.tiers.length:Int)+(p.fees.length:Int)+(p.rules.length:Int)+1) [(4,[125])])))):=by
   rw[e6,e5,e4,e3,e2,e1];simp only[jAf]
  rw[<-fin]at hrng ⊢;obtain⟨j1,j2,j3⟩:=q5i hrng;have h4':pj 0 (qDs (HdF p 0 (7+2+(p.cr.tiers.length:Int)+2+(p.de.tiers.length:Int)) a3))=some (HdF p (p.fees.length:Int) (7+2+(p.cr.tiers.length:Int)+2+(p.de.tiers.length:Int)+(p.fees.length:Int)) a4):=by rw[h4];rfl
  have h5':pj 0 (qxU (ER p.rules,(p.rules.length:Int),0,7+2+(p.cr.tiers.length:Int)+2+(p.de.tiers.length:Int)+(p.fees.length:Int),ET a4))=some (ER p.rules,(p.rules.length:Int),(p.rules.length:Int),7+2+(p.cr.tiers.length:Int)+2+(p.de.tiers.length:Int)+(p.fees.length:Int)+(p.rules.length:Int),ET a5):=by rw[h5];rfl
  have hfl:((EF p.fees).length:Int)=(p.fees.length:Int):=by rw[jA5]
  have hrl:((ER p.rules).length:Int)=(p.rules.length:Int):=by rw[jA5]
  rw[hfl];refine(brF rfl).trans ((biS hw1).trans ((biS h2).trans ((biS h3).trans ((biS h4').trans ?_))));show(DT.bi (pj 0 (qxU (ER p.rules,((ER p.rules).length:Int),0,7+2+(p.cr.tiers.length:Int)+2+(p.de.tiers.length:Int)+(p.fees.length:Int),ET a4))) _ _).ev=_;rw[hrl];refine(biS h5').trans ((biS (h6 rfl rfl)).trans ((brT j1).trans ?_));show some (jS IP 24 (ET a6),jN IP 24 (ET a6))=_;rw[j2,j3];rfl
end Go.Proofs.H16
namespace Go.Proofs.H16
open Go Go.Eng Go.Tk
set_option maxRecDepth 20000
theorem qyU:∀(e:Ex),Wd e-> ∀(most:Nat),most<=1000000-> ∀n,e.dep<=n->qd2 n e.op e.num e.txt (EX e.args) (most:Int)=some ((min e.nodes (most+1):Nat):Int):=by
 intro e
 induction e using Ex.ind with
 |h o n s l ih=>
  intro hw most hmost m hm;have hlen:=hw.len;simp only[Ex.args]at hlen;have hwa:∀x∈l,Wd x:=fun x hx=>hw.arg (e:=.mk o n s l) hx
  simp only[Ex.dep]at hm;cases m with
  |zero=>omega
  |succ k=>
   simp only[qd2,qBg,Ex.op,Ex.num,Ex.txt,Ex.args];have key:∀(r i c:Nat),i+r=l.length->c<=most+1-> ∃q,que (qd2 k) ((most:Int),(c:Int),(i:Int),o,n,s,EX l)=some (0,(most:Int),((min (c+Ex.nodesL (l.drop i)) (most+1):Nat):Int),q):=by
    intro r
    induction r with
    |zero=>
     intro i c hi hc;have:i=l.length:=by omega
     subst this;refine⟨((l.length:Int),o,n,s,EX l),?_⟩;rw[qkR,qag (j:=0)]
     ·rw[jC0];simp only[Ex.nodesL,Nat.add_zero];rw[Nat.min_eq_left hc]
     ·simp[qjd,qll]
    |succ r ihr=>
     intro i c hi hc;have hn:i<l.length:=by omega
     by_cases hcm:c<=most
     ·have hx:l[i]∈l:=jAi hn;have h2:=Ex.depL_mem hx;have hwr:IntKind.i64.wrap ((most:Int)-(c:Int))=((most-c:Nat):Int):=by
       rw[wrap64 (by omega) (by omega)];omega
      have hg:=ih l[i] hx (hwa _ hx) (most-c) (by omega) k (by omega);have hpos:=Ex.nodes_pos l[i];have hws:IntKind.i64.wrap ((c:Int)+((min l[i].nodes (most-c+1):Nat):Int))=((c+min l[i].nodes (most-c+1):Nat):Int):=by
       rw[wrap64 (by omega) (by omega)];omega
      have hst:(qjd (qd2 k) ((most:Int),(c:Int),(i:Int),o,n,s,EX l)).ev=some (.next ((most:Int),((c+min l[i].nodes (most-c+1):Nat):Int),((i+1:Nat):Int),o,n,s,EX l)):=by
       have e1:decide ((c:Int)<=(most:Int))=true:=by simp;omega
       simp only[qjd,qll,jA5,qaV hn,e1,br_eq,jAa,ev_bi_some,ev_br,ev_at,okX hn,qx0 hn,qx1 hn,qx2 hn,qx3 hn,hwr,hg,hws,qar hn hlen]
      obtain⟨q,hq⟩:=ihr (i+1) (c+min l[i].nodes (most-c+1)) (by omega) (by omega);refine⟨q,?_⟩;rw[qkR]at hq ⊢;rw[qao hst,hq,drop_at hn];simp only[Ex.nodesL]
      congr 4
      omega
     ·refine⟨((i:Int),o,n,s,EX l),?_⟩;rw[qkR,qag (j:=0)]
      ·have:min (c+Ex.nodesL (l.drop i)) (most+1)=c:=by omega
       rw[this]
      ·have e1:decide ((c:Int)<=(most:Int))=false:=by simp;omega
       simp only[qjd,qll,jA5,qaV hn,e1,br_eq,jAa,jA9,ev_bi_some,ev_br,ev_at]
   obtain⟨q,hq⟩:=key l.length 0 1 (by omega) (by omega);have hq':que (qd2 k) ((most:Int),1,0,o,n,s,EX l)=some (0,(most:Int),((min (1+Ex.nodesL (l.drop 0)) (most+1):Nat):Int),q):=hq;rw[hq'];simp only[pj_some,jB2,ev_bi_some,ev_at,List.drop_zero,Ex.nodes]
   congr 3;omega
theorem qtp{e:Ex}(hw:Wd e){most:Nat}(hm:most<=1000000):qeQ e.op e.num e.txt (EX e.args) (most:Int)=some (decide (e.nodes>most)):=by
 have hc:qzs e.op e.num e.txt (EX e.args) (most:Int)=some ((min e.nodes (most+1):Nat):Int):=qdQ (qyU e hw most hm);rw[qN7,qrM,hc];simp only[ev_bi_some,ev_at]
 congr 1
 by_cases h:e.nodes>most<;>simp[h]<;>omega
end Go.Proofs.H16
namespace Go.Proofs.H16
open Go Go.Eng Go.Tk
set_option maxRecDepth 20000
def zsV(x:Fe):Prop:=x.name.length<=big/\x.when_.nodes<=big/\x.amount.nodes<=big
def zu1(x:Ru):Prop:=x.name.length<=big/\x.amount.nodes<=big
structure PrOk (p:Pr):Prop where
 name:p.name.length<=big
 crl:p.cr.tiers.length<=1000000
 del:p.de.tiers.length<=1000000
 fel:p.fees.length<=1000000
 rul:p.rules.length<=1000000
 fees:∀x∈p.fees,zsV x
 rules:∀x∈p.rules,zu1 x
theorem qVX{n:Nat}(h:n<=1000000):n<=big:=jAz h (by decide)
def zwV(e:Ex):Bool:=decide (e.args.length<=1000000)
def Wm(e:Ex):Prop:=e.allX zwV=true
theorem Wm.len{e:Ex}(h:Wm e):e.args.length<=1000000:=by
 rw[Wm,Ex.allX_eq,jA1]at h;exact jBd h.1
theorem Wm.arg{e x:Ex}(h:Wm e)(hx:x∈e.args):Wm x:=by
 rw[Wm,Ex.allX_eq,jA1,jAb]at h;exact h.2 x hx
def FeW(x:Fe):Prop:=Wd x.when_/\Wd x.amount
structure PrW (p:Pr):Prop where
 crl:p.cr.tiers.length<=1000000
 del:p.de.tiers.length<=1000000
 fel:p.fees.length<=1000000
 rul:p.rules.length<=1000000
 fees:∀x∈p.fees,FeW x
 rules:∀x∈p.rules,Wd x.amount
end Go.Proofs.H16
namespace Go.Proofs.H16
open Go Go.Eng Go.Tk
set_option maxRecDepth 20000
theorem qxe{a b:In}(ha:a.tiers.length<=1000000)(hb:b.tiers.length<=1000000):qtJ (ETr a.tiers) a.marg a.basis a.mode a.keep (ETr b.tiers) b.marg b.basis b.mode b.keep=some (qjw a b):=by
 rw[qU2,qB1,jA5,jA5,qjw];by_cases hl:a.tiers.length=b.tiers.length
 ·have e1:((a.tiers.length:Int) != (b.tiers.length:Int))=false:=by simp[hl]
  have e2:(a.tiers.length==b.tiers.length)=true:=by simp[hl]
  have hloop:∃w,qDq (0,ETr a.tiers,a.marg,a.basis,a.mode,a.keep,ETr b.tiers,b.marg,b.basis,b.mode,b.keep)=some (bif (List.range a.tiers.length).any (qlB eqT a.tiers b.tiers)then 0 else 1,w):=by
   have h:=qg6 (st:=fun v=>(qpA v).ev) (N:=a.tiers.length) (hd:=fun i=>((i:Int),ETr a.tiers,a.marg,a.basis,a.mode,a.keep,ETr b.tiers,b.marg,b.basis,b.mode,b.keep)) (jx:=fun _=>0) (qlB eqT a.tiers b.tiers) 1 (fun i hn=>?_) ?_
   ·rw[qaY]at h;rw[qDr];exact⟨_,h⟩
   ·have hn':i<b.tiers.length:=by omega
    simp only[qpA,qvW,jA5,qaV hn,zn1 hn,zn1 hn',zn3 hn,zn4 hn,zn3 hn',zn4 hn',ev_br,ev_at,jAa,qar hn (qVX ha),jB2,qlB,jAh hn,jAh hn',eqT];cases(a.tiers[i].from_==b.tiers[i].from_&&(a.tiers[i].ppm==b.tiers[i].ppm&&true))<;>rfl
   ·simp[qpA,qvW]
  obtain⟨w,h⟩:=hloop;rw[e1,e2,h,jAr rfl,jAr rfl,qfN,ev_bi_some,qfN,ev_bi_some,qfN,ev_bi_some,qfN,ev_bi_some,ev_br];simp only[bne];generalize (a.marg==b.marg)=q1;generalize (a.basis==b.basis)=q2;generalize (a.mode==b.mode)=q3;generalize (a.keep==b.keep)=q4;cases(List.range a.tiers.length).any (qlB eqT a.tiers b.tiers)<;>cases q1<;>cases q2<;>cases q3<;>cases q4<;>rfl
 ·have e1:((a.tiers.length:Int) != (b.tiers.length:Int))=true:=by simp;omega
  have e2:(a.tiers.length==b.tiers.length)=false:=by simpa using hl
  rw[e1,e2,qfN,ev_bi_some,qfN,ev_bi_some,qfN,ev_bi_some,qfN,ev_bi_some,ev_br];rfl
theorem qCp:∀(e:Ex),Wd e-> ∀(f:Ex),Wd f-> ∀k,e.dep<=k->qeG k e.op e.num e.txt (EX e.args) f.op f.num f.txt (EX f.args)=some (qeS e f):=by
 intro e
 induction e using Ex.ind with
 |h o n s l ih=>
  intro hw f hf k hk;have hd:=Ex.dep_pos (.mk o n s l);obtain⟨k,rfl⟩:∃k',k=k'+1:=⟨k-1,by omega⟩;obtain⟨o',n',s',m⟩:=f;have hlen:l.length<=big:=hw.len;show(qsa (qeG k) o n s (EX l) o' n' s' (EX m)).ev=_;rw[qsa,jA5,jA5,qfN,ev_bi_some,qfN,ev_bi_some,qfN,ev_bi_some,ev_br,qeS,qkm,qja];by_cases hl:l.length=m.length
  ·have e1:((l.length:Int) != (m.length:Int))=false:=by simp[hl]
   have e2:(l.length==m.length)=true:=by simp[hl]
   have hloop:∃w,qul (qeG k) (0,o,n,s,EX l,o',n',s',EX m)=some (bif (List.range l.length).any (qlB qeS l m)then 0 else 1,w):=by
    have h:=qg6 (st:=fun v=>(qlq (qeG k) v).ev) (N:=l.length) (hd:=fun i=>((i:Int),o,n,s,EX l,o',n',s',EX m)) (jx:=fun _=>0) (qlB qeS l m) 1 (fun i hn=>?_) ?_
    ·rw[qaY]at h;rw[qxO];exact⟨_,h⟩
    ·have hn':i<m.length:=by omega
     have hxd:=qTW (e:=.mk o n s l) (x:=l[i]) (jAi hn);have hv:=ih l[i] (jAi hn) (hw.arg (jAi hn)) m[i] (hf.arg (jAi hn')) k (by omega);simp only[qlq,qpx,jA5,qaV hn,okX hn,okX hn',qx0 hn,qx1 hn,qx2 hn,qx3 hn,qx0 hn',qx1 hn',qx2 hn',qx3 hn',hv,ev_bi_some,ev_br,ev_at,jAa,qar hn hlen,qlB,jAh hn,jAh hn'];cases qeS l[i] m[i]<;>rfl
    ·simp[qlq,qpx]
   obtain⟨w,h⟩:=hloop;rw[e1,e2,h];simp only[bne];generalize (o==o')=q1;generalize (n==n')=q2;generalize (s==s')=q3;cases(List.range l.length).any (qlB qeS l m)<;>cases q1<;>cases q2<;>cases q3<;>rfl
  ·have e1:((l.length:Int) != (m.length:Int))=true:=by simp;omega
   have e2:(l.length==m.length)=false:=by simpa using hl
   rw[e1,e2];simp
theorem qmj{e f:Ex}(he:Wd e)(hf:Wd f):qop e.op e.num e.txt (EX e.args) f.op f.num f.txt (EX f.args)=some (qeS e f):=qdQ (qCp e he f hf)
theorem qGy{l m:List Fe}(hlen:l.length<=1000000)(hl':∀x∈l,FeW x)(hm':∀x∈m,FeW x):qob (EF l) (EF m)=some (qja qhc l m):=by
 rw[qNr,qq7,qja,jA5,jA5];by_cases hl:l.length=m.length
 ·have e1:((l.length:Int) != (m.length:Int))=false:=by simp[hl]
  have e2:(l.length==m.length)=true:=by simp[hl]
  have hloop:∃w,qt8 (EF l,EF m,0)=some (bif (List.range l.length).any (qlB qhc l m)then 0 else 1,w):=by
   have h:=qg6 (st:=fun v=>(qle v).ev) (N:=l.length) (hd:=fun i=>(EF l,EF m,(i:Int))) (jx:=fun _=>0) (qlB qhc l m) 1 (fun i hn=>?_) ?_
   ·rw[qaY]at h;rw[qxp];exact⟨_,h⟩
   ·have hn':i<m.length:=by omega
    simp only[qle,qo6,jA5,qaV hn,okF hn,okF hn',qf0 hn,qf1 hn,qf2 hn,qf3 hn,qf4 hn,qf5 hn,qf6 hn,qf7 hn,qf8 hn,qf9 hn,qf0 hn',qf1 hn',qf2 hn',qf3 hn',qf4 hn',qf5 hn',qf6 hn',qf7 hn',qf8 hn',qf9 hn',qmj (hl' _ (jAi hn)).1 (hm' _ (jAi hn')).1,qmj (hl' _ (jAi hn)).2 (hm' _ (jAi hn')).2,ev_bi_some,ev_br,ev_at,jAa,qar hn (qVX hlen),qlB,jAh hn,jAh hn',qhc,bne];cases(l[i].name==m[i].name)<;>cases(l[i].event==m[i].event)<;>cases qeS l[i].when_ m[i].when_<;>cases qeS l[i].amount m[i].amount<;>rfl
   ·simp[qle,qo6]
  obtain⟨w,h⟩:=hloop;rw[e1,e2,h];cases(List.range l.length).any (qlB qhc l m)<;>simp(decide:=true)
 ·have e1:((l.length:Int) != (m.length:Int))=true:=by simp;omega
  have e2:(l.length==m.length)=false:=by simpa using hl
  rw[e1,e2];rfl
abbrev HdS(p q:Pr)(i:Int):qes:=(i,p.name,p.cur,p.cal,p.from_,p.every,p.over,p.tax,ETr p.cr.tiers,p.cr.marg,p.cr.basis,p.cr.mode,p.cr.keep,ETr p.de.tiers,p.de.marg,p.de.basis,p.de.mode,p.de.keep,EF p.fees,ER p.rules,
 q.name,q.cur,q.cal,q.from_,q.every,q.over,q.tax,ETr q.cr.tiers,q.cr.marg,q.cr.basis,q.cr.mode,q.cr.keep,ETr q.de.tiers,q.de.marg,q.de.basis,q.de.mode,q.de.keep,EF q.fees,ER q.rules)
theorem qHK{p q:Pr}(hp:PrW p)(hq:PrW q)(hl:p.rules.length=q.rules.length):∃w,qoK (HdS p q 0)=some (bif (List.range p.rules.length).any (qlB qhd p.rules q.rules)then 0 else 1,w):=by
 have h:=qg6 (st:=fun v=>(qlr v).ev) (N:=p.rules.length) (hd:=fun i=>HdS p q (i:Int)) (jx:=fun _=>0) (qlB qhd p.rules q.rules) 1 (fun i hn=>?_) ?_
 ·rw[qaY]at h;rw[qxP];exact⟨_,h⟩
 ·have hn':i<q.rules.length:=by omega
  simp only[HdS,qlr,qpy,jA5,qaV hn,okR hn,okR hn',qr0 hn,qr1 hn,qr2 hn,qr3 hn,qr4 hn,qr5 hn,qr0 hn',qr1 hn',qr2 hn',qr3 hn',qr4 hn',qr5 hn',qmj (hp.rules _ (jAi hn)) (hq.rules _ (jAi hn')),ev_bi_some,ev_br,ev_at,jAa,qar hn (qVX hp.rul),qlB,jAh hn,jAh hn',qhd,bne];cases(p.rules[i].name==q.rules[i].name)<;>cases(p.rules[i].window==q.rules[i].window)<;>cases qeS p.rules[i].amount q.rules[i].amount<;>rfl
 ·simp[qlr,qpy]
theorem qml{p q:Pr}(hp:PrW p)(hq:PrW q):qhC p.name p.cur p.cal p.from_ p.every p.over p.tax (ETr p.cr.tiers) p.cr.marg p.cr.basis p.cr.mode p.cr.keep (ETr p.de.tiers) p.de.marg p.de.basis p.de.mode p.de.keep (EF p.fees) (ER p.rules)
  q.name q.cur q.cal q.from_ q.every q.over q.tax (ETr q.cr.tiers) q.cr.marg q.cr.basis q.cr.mode q.cr.keep (ETr q.de.tiers) q.de.marg q.de.basis q.de.mode q.de.keep (EF q.fees) (ER q.rules)=some (qp5 p q):=by
 have hR:∃b:Bool,qja qhd p.rules q.rules=b:=⟨_,rfl⟩;rw[qOs,qsc,qxe hp.crl hq.crl,qxe hp.del hq.del,qGy hp.fel hp.fees hq.fees,qp5,jA5,jA5];have hz:∀b1 b2 b3 b4 b5 b6 b7:Bool,((((((!b1 || !b2) || !b3)||b4)||b5)||b6)||b7)=((!b1)||((!b2)||((!b3)||(b4||(b5||(b6||b7)))))):=by intro b1 b2 b3 b4 b5 b6 b7;simp only[Bool.or_assoc]
 rw[<-hz,qfN,ev_bi_some,qfN,ev_bi_some,qfN,ev_bi_some,qfN,ev_bi_some,qfN,ev_bi_some,qfN,ev_bi_some,ev_br,ev_bi_some,sm_some,sm_some,gv_some,gv_some];have hloop:p.rules.length=q.rules.length-> ∃w,qoK (HdS p q 0)=some (bif (List.range p.rules.length).any (qlB qhd p.rules q.rules)then 0 else 1,w):=qHK hp hq;simp only[HdS]at hloop;generalize ((((((!(p.name==q.name) || !(p.cur==q.cur)) || !(p.cal==q.cal))||(p.from_ != q.from_))||(p.every != q.every))||(p.over != q.over))||(p.tax != q.tax))=z;generalize qjw p.cr q.cr=b8;generalize qjw p.de q.de=b9;generalize qja qhc p.fees q.fees=b10;cases z
 ·cases b8
  ·rfl
  ·cases b9
   ·rfl
   ·cases b10
    ·rfl
    ·rw[qja];by_cases hl:p.rules.length=q.rules.length
     ·have e1:((p.rules.length:Int) != (q.rules.length:Int))=false:=by simp[hl]
      have e2:(p.rules.length==q.rules.length)=true:=by simp[hl]
      obtain⟨w,h⟩:=hloop hl;rw[e1,e2,h];cases(List.range p.rules.length).any (qlB qhd p.rules q.rules)<;>rfl
     ·have e1:((p.rules.length:Int) != (q.rules.length:Int))=true:=by simp;omega
      have e2:(p.rules.length==q.rules.length)=false:=by simpa using hl
      rw[e1,e2];rfl
 ·rfl
end Go.Proofs.H16
namespace Go.Proofs.H16
open Go Go.Eng Go.Tk
set_option maxRecDepth 20000
def grF(x:Fe):Bool:=(decide (x.name.length>100)||decide (x.when_.nodes>100))||decide (x.amount.nodes>100)
def grR(x:Ru):Bool:=decide (x.name.length>100)||decide (x.amount.nodes>100)
def grP(p:Pr):Bool:=bif (((((decide (p.name.length>100)||decide (p.cur.length>100))||decide (p.cal.length>100))||decide (p.cr.tiers.length>20))||decide (p.de.tiers.length>20))||decide (p.fees.length>10))||decide (p.rules.length>10)then true else p.fees.any grF||p.rules.any grR
abbrev HdT(p:Pr)(i:Int):qer:=(i,p.name,p.cur,p.cal,p.from_,p.every,p.over,p.tax,ETr p.cr.tiers,p.cr.marg,p.cr.basis,p.cr.mode,p.cr.keep,ETr p.de.tiers,p.de.marg,p.de.basis,p.de.mode,p.de.keep,EF p.fees,ER p.rules)
theorem ziN{α:Type}(l:List α)(k:Nat):decide ((l.length:Int)>(k:Int))=decide (l.length>k):=by
 congr 1;exact propext ⟨fun h=>by omega,fun h=>by omega⟩
theorem qG0{p:Pr}(hf:∀x∈p.fees,Wd x.when_/\Wd x.amount)(hr:∀x∈p.rules,Wd x.amount):qol p.name p.cur p.cal p.from_ p.every p.over p.tax (ETr p.cr.tiers) p.cr.marg p.cr.basis p.cr.mode p.cr.keep (ETr p.de.tiers) p.de.marg p.de.basis p.de.mode p.de.keep (EF p.fees) (ER p.rules)=some (grP p):=by
 have dm:∀{α:Type} (f:α->AV) (l:List α) (k:Nat),decide (((l.map f).length:Int)>(k:Int))=decide (l.length>k):=by
  intro α f l k;rw[jA5,ziN]
 rw[qN9,qrO];have c1:=ziN p.name 100;have c2:=ziN p.cur 100;have c3:=ziN p.cal 100;have c4:=dm Tr.av p.cr.tiers 20;have c5:=dm Tr.av p.de.tiers 20;have c6:=dm Fe.av p.fees 10;have c7:=dm Ru.av p.rules 10;simp only[Int.ofNat_eq_natCast,Int.cast_ofNat_Int]at c1 c2 c3 c4 c5 c6 c7;rw[c1,c2,qfN,ev_bi_some,c3,qfN,ev_bi_some,c4,qfN,ev_bi_some,c5,qfN,ev_bi_some,c6,qfN,ev_bi_some,c7,qfN,ev_bi_some,ev_br];unfold grP;cases hb:((((((decide (p.name.length>100)||decide (p.cur.length>100))||decide (p.cal.length>100))||decide (p.cr.tiers.length>20))||decide (p.de.tiers.length>20))||decide (p.fees.length>10))||decide (p.rules.length>10))
 ·simp only[jB6,jBl]at hb;obtain⟨⟨_,h1⟩,h2⟩:=hb;have g100:∀{e:Ex},Wd e->qeQ e.op e.num e.txt (EX e.args) 100=some (decide (e.nodes>100)):=fun hw=>qtp hw (most:=100) (by omega)
  have l0:quf (HdT p 0)=some (bif p.fees.any grF then 0 else 1,HdT p ((p.fees.findIdx grF:Nat):Int)):=by
   rw[qxG,<-qaY];refine qaP (hd:=fun i=>HdT p (i:Int)) (jx:=fun _=>0) _ 1 (fun i hn=>?_) ?_
   ·obtain⟨w1,w2⟩:=hf _ (jAi hn);have cn:=ziN p.fees[i].name 100;simp only[Int.ofNat_eq_natCast,Int.cast_ofNat_Int]at cn;simp only[qny,qpl,jA5,qaV hn,Tk.okF hn,qf0 hn,qf2 hn,qf3 hn,qf4 hn,qf5 hn,qf6 hn,qf7 hn,qf8 hn,qf9 hn,g100 w1,g100 w2,cn,sm_some,gv_some,ev_br,jAa,qar hn (show p.fees.length<=big by simp only[big];omega),grF,br_eq,cond_some];cases decide (p.fees[i].name.length>100)<;>cases decide (p.fees[i].when_.nodes>100)<;>cases decide (p.fees[i].amount.nodes>100)<;>rfl
   ·simp[qny,qpl]
  have l1:qug (HdT p 0)=some (bif p.rules.any grR then 0 else 1,HdT p ((p.rules.findIdx grR:Nat):Int)):=by
   rw[qxH,<-qaY];refine qaP (hd:=fun i=>HdT p (i:Int)) (jx:=fun _=>0) _ 1 (fun i hn=>?_) ?_
   ·have w1:=hr _ (jAi hn);have cn:=ziN p.rules[i].name 100;simp only[Int.ofNat_eq_natCast,Int.cast_ofNat_Int]at cn;simp only[qnz,qpm,jA5,qaV hn,Tk.okR hn,qr0 hn,qr2 hn,qr3 hn,qr4 hn,qr5 hn,g100 w1,cn,sm_some,gv_some,ev_br,jAa,qar hn (show p.rules.length<=big by simp only[big];omega),grR,br_eq,cond_some];cases decide (p.rules[i].name.length>100)<;>cases decide (p.rules[i].amount.nodes>100)<;>rfl
   ·simp[qnz,qpm]
  simp only[HdT]at l0 l1;rw[jA9,l0];cases p.fees.any grF
  ·refine(biN (by rfl)).trans ((biS (v:=HdT p ((p.fees.findIdx grF:Nat):Int)) (by rfl)).trans ?_);simp only[HdT];rw[l1];cases p.rules.any grR<;>rfl
  ·rfl
 ·rfl
theorem zlc{p:Pr}(h:grP p=false):Sml p/\p.cr.tiers.length<=20/\p.de.tiers.length<=20/\p.fees.length<=10/\p.rules.length<=10/\p.name.length<=100/\p.cal.length<=100:=by
 unfold grP at h;cases hb:((((((decide (p.name.length>100)||decide (p.cur.length>100))||decide (p.cal.length>100))||decide (p.cr.tiers.length>20))||decide (p.de.tiers.length>20))||decide (p.fees.length>10))||decide (p.rules.length>10))
 ·rw[hb]at h;simp only[jA9,jB6,List.any_eq_false]at h;simp only[jB6,jBl]at hb;obtain⟨⟨⟨⟨⟨⟨z1,z2⟩,z3⟩,z4⟩,z5⟩,z6⟩,z7⟩:=hb;refine⟨⟨by omega,by omega,by omega,by omega,by omega,fun x hx=>?_,fun x hx=>?_⟩,by omega,by omega,by omega,by omega,by omega,by omega⟩
  ·have:=h.1 x hx;unfold grF at this;simp only[Bool.not_eq_true,jB6,jBl]at this;simp only[big];omega
  ·have:=h.2 x hx;unfold grR at this;simp only[Bool.not_eq_true,jB6,jBl]at this;simp only[big];omega
 ·rw[hb]at h;cases h
end Go.Proofs.H16
namespace Go.Proofs.H16
open Go Go.Eng Go.Tk
set_option maxRecDepth 20000
theorem qiZ{T:List Tok}(hT:T.length<=1000000){τ α:Type}{st:τ->Option (Rd τ)}(h0:PS->τ)(h1:PS->List AV->τ){w:Bs}{f:List Tok->Pz α}{av:α->AV}{j0 j1:Nat}
  (stop0:∀p,p.Ok T->qmI w p=false->qaf st (h0 p)=some (j0,h0 p)) (stop1:∀p A,p.Ok T->qmI w p=false->qaf st (h1 p A)=some (j1,h1 p A))
  (next:∀l,l <:+ T->isW w l=true-> ∃a p',Does T f (fun x v=>v=av x) (.good l.tail) a p'/\qaf st (h0 (.good l))=qaf st (h1 p' [a])/\ ∀A,A.length<=1000000->qaf st (h1 (.good l) A)=qaf st (h1 p' (A++[a])))
  (hlen:∀l x r,f l= .ok x r->r.length<=l.length) {p:PS} (hp:p.Ok T) :
  ∃p' A,Does T (fun r=>qdU w f (r.length+1) [] r) (fun xs (v:List AV)=>v=xs.map av) p A p'/\qmI w p'=false/\(qaf st (h0 p)=some (j0,h0 p')/\A= []\/qaf st (h0 p)=some (j1,h1 p' A)):=by
 have loop:∀(n:Nat) (l:List Tok) (acc:List α),l <:+ T->l.length<n->acc.length+l.length<=1000000-> ∃p' A,Does T (qdU w f n acc) (fun xs (v:List AV)=>v=xs.map av) (.good l) A p'/\qmI w p'=false/\qaf st (h1 (.good l) (acc.map av))=some (j1,h1 p' A):=by
  intro n
  induction n with
  |zero=>intro l acc _ h;omega
  |succ n ih=>
   intro l acc hl hn hb;cases hi:isW w l
   ·refine⟨.good l,acc.map av,⟨hl,?_⟩,hi,stop1 (.good l) _ hl hi⟩;dsimp only;simp only[qdU,hi,jA9];exact⟨trivial,trivial⟩
   ·obtain⟨a,p',D,_,hnx⟩:=next l hl hi
    have hnx:=hnx (acc.map av) (by rw[jA5];omega);have D2:=D.2;dsimp only at D2;have hz:qdU w f (n+1) acc l=(f l.tail).bnd fun t l=>qdU w f n (acc++[t]) l:=by simp only[qdU,hi,jAa]
    cases ht:f l.tail with
    |bad q e=>
     rw[ht]at D2 hz;obtain⟨k,rfl⟩:=D2;refine⟨.bad q e k,_,⟨D.ok,?_⟩,rfl,hnx.trans (stop1 _ _ D.ok rfl)⟩;dsimp only;rw[hz];exact⟨k,rfl⟩
    |ok t r=>
     rw[ht]at D2 hz;obtain⟨hab,rfl⟩:=D2;have hlen:=hlen _ _ _ ht;have htl:l.tail.length+1=l.length:=(qpE hi).2;obtain⟨p2,A,D3,g1,g2⟩:=ih r (acc++[t]) D.ok (by omega) (by rw[jA2];simp only[jA0,jA4];omega);refine⟨p2,A,⟨D3.ok,?_⟩,g1,?_⟩
     ·dsimp only;rw[hz];exact D3.2
     ·rw[hnx,<-g2,hab,jCi];rfl
 cases p with
 |bad q e k=>exact⟨.bad q e k,[],⟨hp,k,rfl⟩,rfl,.inl ⟨stop0 _ hp rfl,rfl⟩⟩
 |good l=>
  cases hi:isW w l
  ·refine⟨.good l,[],⟨hp,?_⟩,hi,.inl ⟨stop0 (.good l) hp hi,rfl⟩⟩;dsimp only;simp only[qdU,hi,jA9];exact⟨rfl,trivial⟩
  ·obtain⟨a,p',D,hnx,_⟩:=next l hp hi
   have D2:=D.2;dsimp only at D2;have hz:qdU w f (l.length+1) [] l=(f l.tail).bnd fun t r=>qdU w f l.length ([]++[t]) r:=by simp only[qdU,hi,jAa]
   cases ht:f l.tail with
   |bad q e=>
    rw[ht]at D2 hz;obtain⟨k,rfl⟩:=D2;refine⟨.bad q e k,_,⟨D.ok,?_⟩,rfl,.inr (hnx.trans (stop1 _ _ D.ok rfl))⟩;dsimp only;rw[hz];exact⟨k,rfl⟩
   |ok t r=>
    rw[ht]at D2 hz;obtain⟨hab,rfl⟩:=D2;have hlen:=hlen _ _ _ ht;have htl:l.tail.length+1=l.length:=(qpE hi).2;have hTl:l.length<=T.length:=List.IsSuffix.length_le hp;obtain⟨p2,A,D3,g1,g2⟩:=loop l.length r [t] D.ok (by omega) (by simp only[jA0,jA4];omega);refine⟨p2,A,⟨D3.ok,?_⟩,g1,.inr ?_⟩
    ·dsimp only;rw[hz];exact D3.2
    ·rw[hnx,<-g2,hab];rfl
abbrev Rm:Type:=List UInt8×List UInt8×List UInt8×Int×Int×Int×Int×Bool×Int×Int×Bool×Bool×Int×Int×Bool×List UInt8×List UInt8×List UInt8×Int×Int×Int×Int×List AV×Bool×Int×Int×Bool×List AV×Bool×Int×Int×Bool
abbrev e1(r:Rm)(F:List AV):List UInt8×List UInt8×List UInt8×Int×Int×Int×Int×Bool×Int×Int×Bool×Bool×Int×Int×Bool×List UInt8×List UInt8×List UInt8×Int×Int×Int×Int×List AV×Bool×Int×Int×Bool×List AV×Bool×Int×Int×Bool×List AV:=(r.1,r.2.1,r.2.2.1,r.2.2.2.1,r.2.2.2.2.1,r.2.2.2.2.2.1,r.2.2.2.2.2.2.1,r.2.2.2.2.2.2.2.1,r.2.2.2.2.2.2.2.2.1,r.2.2.2.2.2.2.2.2.2.1,r.2.2.2.2.2.2.2.2.2.2.1,r.2.2.2.2.2.2.2.2.2.2.2.1,r.2.2.2.2.2.2.2.2.2.2.2.2.1,r.2.2.2.2.2.2.2.2.2.2.2.2.2.1,r.2.2.2.2.2.2.2.2.2.2.2.2.2.2.1,r.2.2.2.2.2.2.2.2.2.2.2.2.2.2.2.1,r.2.2.2.2.2.2.2.2.2.2.2.2.2.2.2.2.1,r.2.2.2.2.2.2.2.2.2.2.2.2.2.2.2.2.2.1,r.2.2.2.2.2.2.2.2.2.2.2.2.2.2.2.2.2.2.1,r.2.2.2.2.2.2.2.2.2.2.2.2.2.2.2.2.2.2.2.1,r.2.2.2.2.2.2.2.2.2.2.2.2.2.2.2.2.2.2.2.2.1,r.2.2.2.2.2.2.2.2.2.2.2.2.2.2.2.2.2.2.2.2.2.1,r.2.2.2.2.2.2.2.2.2.2.2.2.2.2.2.2.2.2.2.2.2.2.1,r.2.2.2.2.2.2.2.2.2.2.2.2.2.2.2.2.2.2.2.2.2.2.2.1,r.2.2.2.2.2.2.2.2.2.2.2.2.2.2.2.2.2.2.2.2.2.2.2.2.1,r.2.2.2.2.2.2.2.2.2.2.2.2.2.2.2.2.2.2.2.2.2.2.2.2.2.1,r.2.2.2.2.2.2.2.2.2.2.2.2.2.2.2.2.2.2.2.2.2.2.2.2.2.2.1,r.2.2.2.2.2.2.2.2.2.2.2.2.2.2.2.2.2.2.2.2.2.2.2.2.2.2.2.1,r.2.2.2.2.2.2.2.2.2.2.2.2.2.2.2.2.2.2.2.2.2.2.2.2.2.2.2.2.1,r.2.2.2.2.2.2.2.2.2.2.2.2.2.2.2.2.2.2.2.2.2.2.2.2.2.2.2.2.2.1,r.2.2.2.2.2.2.2.2.2.2.2.2.2.2.2.2.2.2.2.2.2.2.2.2.2.2.2.2.2.2.1,r.2.2.2.2.2.2.2.2.2.2.2.2.2.2.2.2.2.2.2.2.2.2.2.2.2.2.2.2.2.2.2,F)
abbrev e2(r:Rm)(F U:List AV):List UInt8×List UInt8×List UInt8×Int×Int×Int×Int×Bool×Int×Int×Bool×Bool×Int×Int×Bool×List UInt8×List UInt8×List UInt8×Int×Int×Int×Int×List AV×Bool×Int×Int×Bool×List AV×Bool×Int×Int×Bool×List AV×List AV:=(r.1,r.2.1,r.2.2.1,r.2.2.2.1,r.2.2.2.2.1,r.2.2.2.2.2.1,r.2.2.2.2.2.2.1,r.2.2.2.2.2.2.2.1,r.2.2.2.2.2.2.2.2.1,r.2.2.2.2.2.2.2.2.2.1,r.2.2.2.2.2.2.2.2.2.2.1,r.2.2.2.2.2.2.2.2.2.2.2.1,r.2.2.2.2.2.2.2.2.2.2.2.2.1,r.2.2.2.2.2.2.2.2.2.2.2.2.2.1,r.2.2.2.2.2.2.2.2.2.2.2.2.2.2.1,r.2.2.2.2.2.2.2.2.2.2.2.2.2.2.2.1,r.2.2.2.2.2.2.2.2.2.2.2.2.2.2.2.2.1,r.2.2.2.2.2.2.2.2.2.2.2.2.2.2.2.2.2.1,r.2.2.2.2.2.2.2.2.2.2.2.2.2.2.2.2.2.2.1,r.2.2.2.2.2.2.2.2.2.2.2.2.2.2.2.2.2.2.2.1,r.2.2.2.2.2.2.2.2.2.2.2.2.2.2.2.2.2.2.2.2.1,r.2.2.2.2.2.2.2.2.2.2.2.2.2.2.2.2.2.2.2.2.2.1,r.2.2.2.2.2.2.2.2.2.2.2.2.2.2.2.2.2.2.2.2.2.2.1,r.2.2.2.2.2.2.2.2.2.2.2.2.2.2.2.2.2.2.2.2.2.2.2.1,r.2.2.2.2.2.2.2.2.2.2.2.2.2.2.2.2.2.2.2.2.2.2.2.2.1,r.2.2.2.2.2.2.2.2.2.2.2.2.2.2.2.2.2.2.2.2.2.2.2.2.2.1,r.2.2.2.2.2.2.2.2.2.2.2.2.2.2.2.2.2.2.2.2.2.2.2.2.2.2.1,r.2.2.2.2.2.2.2.2.2.2.2.2.2.2.2.2.2.2.2.2.2.2.2.2.2.2.2.1,r.2.2.2.2.2.2.2.2.2.2.2.2.2.2.2.2.2.2.2.2.2.2.2.2.2.2.2.2.1,r.2.2.2.2.2.2.2.2.2.2.2.2.2.2.2.2.2.2.2.2.2.2.2.2.2.2.2.2.2.1,r.2.2.2.2.2.2.2.2.2.2.2.2.2.2.2.2.2.2.2.2.2.2.2.2.2.2.2.2.2.2.1,r.2.2.2.2.2.2.2.2.2.2.2.2.2.2.2.2.2.2.2.2.2.2.2.2.2.2.2.2.2.2.2,F,U)
abbrev hA(s:StP)(r:Rm):qeI:=.inl (s.1,s.2.1,s.2.2.1,s.2.2.2,r)
abbrev hB(s:StP)(r:Rm)(F:List AV):qeI:=.inr (s.1,s.2.1,s.2.2.1,s.2.2.2,e1 r F)
abbrev g0(s:StP)(r:Rm):qcq:=.inl (s.1,s.2.1,s.2.2.1,s.2.2.2,r)
abbrev g1(s:StP)(r:Rm)(F:List AV):qcq:=.inr (.inl (s.1,s.2.1,s.2.2.1,s.2.2.2,e1 r F))
abbrev g2(s:StP)(r:Rm)(U:List AV):qcq:=.inr (.inr (.inl (s.1,s.2.1,s.2.2.1,s.2.2.2,e1 r U)))
abbrev g3(s:StP)(r:Rm)(F U:List AV):qcq:=.inr (.inr (.inr (s.1,s.2.1,s.2.2.1,s.2.2.2,e2 r F U)))
noncomputable abbrev stF:=fun v=>(qeU v).ev
noncomputable abbrev stL:=fun v=>(qcc v).ev
section
variable {T:List Tok}
theorem qmO(hT:T.length<=1000000)(hv:∀t∈T,qaT t=true){s:Bs}{p:PS}(hp:p.Ok T)(ha:qmI s p=false):qap s (stP T p).1 (stP T p).2.1 (stP T p).2.2.1 (stP T p).2.2.2=some (false,stP T p):=by
 have:=qfS hT hv s hp;rw[ha,qyZ ha]at this;exact this
theorem q87(hT:T.length<=1000000)(hv:∀t∈T,qaT t=true){s:Bs}{l:List Tok}(hl:l <:+ T)(hi:isW s l=true):qap s (stP T (.good l)).1 (stP T (.good l)).2.1 (stP T (.good l)).2.2.1 (stP T (.good l)).2.2.2=some (true,stP T (.good l.tail)):=by
 have:=qfS hT hv s (p:=.good l) hl;have e1:qmI s (.good l)=true:=hi;have e2:q86 s (.good l)= .good l.tail:=by show PS.good (bif isW s l then l.tail else l)=_;rw[hi];rfl
 rw[e1,e2]at this;exact this
abbrev qws:Bs:=[102,101,101]
abbrev qxX:Bs:=[108,105,109,105,116]
theorem q40(hT:T.length<=1000000)(hv:∀t∈T,qaT t=true)(r:Rm){l:List Tok}(hl:l <:+ T)(hi:isW qws l=true):∃a p',Does T (qHb exS) (fun x v=>v=Fe.av x) (.good l.tail) a p'/\qaf stF (hA (stP T (.good l)) r)=qaf stF (hB (stP T p') r [a])/\ ∀A,A.length<=1000000->qaf stF (hB (stP T (.good l)) r A)=qaf stF (hB (stP T p') r (A++[a])):=by
 have hacc:=q87 hT hv hl hi;obtain⟨n,p1,h1,D1,_⟩:=quG hT hv 1 (p:=.good l.tail) (qaK hl);obtain⟨e,p2,h2,D2⟩:=qkZ hT hv (ws:=qdh) (by decide) D1.ok;obtain⟨p3,h3,D3⟩:=qdR hT hv [119,104,101,110] D2.ok;obtain⟨w,p4,h4,D4⟩:=qW3 hT hv D3.ok;obtain⟨p5,h5,D5⟩:=qdR hT hv [97,109,111,117,110,116,95,111,102] D4.ok;obtain⟨a,p6,h6,D6⟩:=qW3 hT hv D5.ok;obtain⟨p7,h7,D7⟩:=qdR hT hv [59] D6.ok;have K6:=D7.stuck;have K5:=D6.stuck.trans K6;have K4:=D5.stuck.trans K5;have K3:=D4.stuck.trans K4;have K2:=D3.stuck.trans K3;have K1:=D2.stuck.trans K2;refine⟨.agg [.str n,.int .i64 e,.int .i64 w.1,.int .i64 w.2.1,.str w.2.2.1,.view 4 w.2.2.2,.int .i64 a.1,.int .i64 a.2.1,.str a.2.2.1,.view 4 a.2.2.2],p7,D1.bnd K1 D7.ok fun n' e1=>D2.bnd K2 D7.ok fun e' e2=>D3.bnd K3 D7.ok fun _ _=>D4.bnd K4 D7.ok fun w' e4=>D5.bnd K5 D7.ok fun _ _=>D6.bnd K6 D7.ok fun a' e6=>D7.map fun _ _=>by rw[e1,e2,e4,e6];rfl,qao ?_,fun A hA=>qao ?_⟩
 ·show(qeU (hA (stP T (.good l)) r)).ev=_;rw[qeU];simp only[jBy];rw[qvB];exact(biS hacc).trans ((brT rfl).trans ((biS h1).trans ((biS qg3).trans ((biS h2).trans ((biS h3).trans ((biS h4).trans ((biS h5).trans ((biS h6).trans ((biS h7).trans rfl)))))))))
 ·show(qeU (hB (stP T (.good l)) r A)).ev=_;rw[qeU];simp only[jBx];rw[qvC];exact(biS hacc).trans ((brT rfl).trans ((biS h1).trans ((biS qg3).trans ((biS h2).trans ((biS h3).trans ((biS h4).trans ((biS h5).trans ((biS h6).trans ((biS h7).trans ((brT (qcY (by simp only[lim,Prod.i,Prod.h,Prod.f];omega))).trans rfl))))))))))
theorem qUd:∀(l:List Tok) (e:Ex) (r:List Tok),exS l= .ok e r->r <:+ l/\(wrB e).length+r.length<=l.length:=by
 intro l e r h;have hev:=qpP l;rw[h]at hev;exact⟨hev.good.1,zk2 hev⟩
theorem qJn(hT:T.length<=1000000)(hv:∀t∈T,qaT t=true)(r:Rm){p:PS}(hp:p.Ok T)(ha:qmI qws p=false):qaf stF (hA (stP T p) r)=some (0,hA (stP T p) r)/\ ∀A,qaf stF (hB (stP T p) r A)=some (1,hB (stP T p) r A):=by
 have hacc:=qmO hT hv hp ha;refine⟨qag ?_,fun A=>qag ?_⟩
 ·show(qeU (hA (stP T p) r)).ev=_;rw[qeU];simp only[jBy];rw[qvB];exact(biS hacc).trans ((brF rfl).trans rfl)
 ·show(qeU (hB (stP T p) r A)).ev=_;rw[qeU];simp only[jBx];rw[qvC];exact(biS hacc).trans ((brF rfl).trans rfl)
theorem qVd{l:List Tok}{x:Fe}{r:List Tok}(h:qHb exS l= .ok x r):r.length<=l.length:=by
 have:=((q9A qUd l x r h).1 0).len;omega
theorem qqz{l:List Tok}{x:Ru}{r:List Tok}(h:qi9 exS l= .ok x r):r.length<=l.length:=by
 have:=((q1B qUd l x r h).1 0).len;omega
theorem qnl(hT:T.length<=1000000)(hv:∀t∈T,qaT t=true)(r:Rm){p:PS}(hp:p.Ok T)(ha:qmI qxX p=false):qaf stL (g0 (stP T p) r)=some (0,g0 (stP T p) r)/\(∀F,qaf stL (g1 (stP T p) r F)=some (1,g1 (stP T p) r F))/\(∀U,qaf stL (g2 (stP T p) r U)=some (2,g2 (stP T p) r U))/\ ∀F U,qaf stL (g3 (stP T p) r F U)=some (3,g3 (stP T p) r F U):=by
 have hacc:=qmO hT hv hp ha;refine⟨qag ?_,fun F=>qag ?_,fun U=>qag ?_,fun F U=>qag ?_⟩
 ·show(qcc (g0 (stP T p) r)).ev=_;rw[qcc];simp only[jBy,jBx];rw[qvD];exact(biS hacc).trans ((brF rfl).trans rfl)
 ·show(qcc (g1 (stP T p) r F)).ev=_;rw[qcc];simp only[jBy,jBx];rw[qvE];exact(biS hacc).trans ((brF rfl).trans rfl)
 ·show(qcc (g2 (stP T p) r U)).ev=_;rw[qcc];simp only[jBy,jBx];rw[qvF];exact(biS hacc).trans ((brF rfl).trans rfl)
 ·show(qcc (g3 (stP T p) r F U)).ev=_;rw[qcc];simp only[jBy,jBx];rw[qvG];exact(biS hacc).trans ((brF rfl).trans rfl)
theorem qEq(hT:T.length<=1000000)(hv:∀t∈T,qaT t=true)(r:Rm){l:List Tok}(hl:l <:+ T)(hi:isW qxX l=true):∃a p',Does T (qi9 exS) (fun x v=>v=Ru.av x) (.good l.tail) a p'/\qaf stL (g0 (stP T (.good l)) r)=qaf stL (g2 (stP T p') r [a])/\(∀U,U.length<=1000000->qaf stL (g2 (stP T (.good l)) r U)=qaf stL (g2 (stP T p') r (U++[a]))) /\
  (∀F,qaf stL (g1 (stP T (.good l)) r F)=qaf stL (g3 (stP T p') r F [a]))/\ ∀F U,U.length<=1000000->qaf stL (g3 (stP T (.good l)) r F U)=qaf stL (g3 (stP T p') r F (U++[a])):=by
 have hacc:=q87 hT hv hl hi;obtain⟨n,p1,h1,D1,_⟩:=quG hT hv 1 (p:=.good l.tail) (qaK hl);obtain⟨w,p2,h2,D2⟩:=qkZ hT hv (ws:=qck) (by decide) D1.ok;obtain⟨a,p3,h3,D3⟩:=qW3 hT hv D2.ok;obtain⟨p4,h4,D4⟩:=qdR hT hv [59] D3.ok;have K3:=D4.stuck;have K2:=D3.stuck.trans K3;have K1:=D2.stuck.trans K2;refine⟨.agg [.str n,.int .i64 w,.int .i64 a.1,.int .i64 a.2.1,.str a.2.2.1,.view 4 a.2.2.2],p4,D1.bnd K1 D4.ok fun n' e1=>D2.bnd K2 D4.ok fun w' e2=>D3.bnd K3 D4.ok fun a' e3=>D4.map fun _ _=>by rw[e1,e2,e3];rfl,qao ?_,fun U hU=>qao ?_,fun F=>qao ?_,fun F U hU=>qao ?_⟩
 ·show(qcc (g0 (stP T (.good l)) r)).ev=_;rw[qcc];simp only[jBy,jBx];rw[qvD];exact(biS hacc).trans ((brT rfl).trans ((biS h1).trans ((biS qcR).trans ((biS h2).trans ((biS h3).trans ((biS h4).trans rfl))))))
 ·show(qcc (g2 (stP T (.good l)) r U)).ev=_;rw[qcc];simp only[jBy,jBx];rw[qvF];exact(biS hacc).trans ((brT rfl).trans ((biS h1).trans ((biS qcR).trans ((biS h2).trans ((biS h3).trans ((biS h4).trans ((brT (qcY (by simp only[lim,Prod.i,Prod.h,Prod.f];omega))).trans rfl)))))))
 ·show(qcc (g1 (stP T (.good l)) r F)).ev=_;rw[qcc];simp only[jBy,jBx];rw[qvE];exact(biS hacc).trans ((brT rfl).trans ((biS h1).trans ((biS qcR).trans ((biS h2).trans ((biS h3).trans ((biS h4).trans rfl))))))
 ·show(qcc (g3 (stP T (.good l)) r F U)).ev=_;rw[qcc];simp only[jBy,jBx];rw[qvG];exact(biS hacc).trans ((brT rfl).trans ((biS h1).trans ((biS qcR).trans ((biS h2).trans ((biS h3).trans ((biS h4).trans ((brT (qcY (by simp only[lim,Prod.i,Prod.h,Prod.f];omega))).trans rfl)))))))
abbrev gA(o:Option (Bool×StP))(r:Rm):qcq:=.inl ((gv o).snd.fst,(gv o).snd.snd.fst,(gv o).snd.snd.snd.fst,(gv o).snd.snd.snd.snd,r)
abbrev gB(o:Option (Bool×StP))(r:Rm)(F:List AV):qcq:=.inr (.inl ((gv o).snd.fst,(gv o).snd.snd.fst,(gv o).snd.snd.snd.fst,(gv o).snd.snd.snd.snd,e1 r F))
def q9p:PS->PS
 | .good []=>.good []
 | .good (t::r)=>.bad (t::r) 2 (pos T (t::r))
 |p=>p
def zpP{α:Type}(x:α):List Tok->Pz α
 | []=>.ok x []
 |t::r=>.bad (t::r) 2
theorem qI6{α β:Type}{V:α->β->Prop}{x:α}{v:β}{p:PS}(hp:p.Ok T)(hx:V x v):Does T (zpP x) V p v (q9p (T:=T) p):=by
 cases p with
 |bad q e k=>exact⟨hp,k,rfl⟩
 |good l=>
  cases l with
  |nil=>exact⟨hp,hx,rfl⟩
  |cons t r=>exact⟨⟨by decide,hp⟩,_,rfl⟩
theorem qzf(hT:T.length<=1000000){β:Type}(K:StP->β){p:PS}(hp:p.Ok T):(DT.br (decide ((stP T p).2.1<((stP T p).1.length:Int))) (.bi (qcm 2 (stP T p).2.1 (stP T p).1 (stP T p).2.1 (stP T p).2.2.1 (stP T p).2.2.2) (fun y=>.at (K y)) .no) (.at (K (stP T p)))).ev=some (K (stP T (q9p (T:=T) p))):=by
 cases p with
 |bad q e k=>
  cases hb:decide ((stP T (.bad q e k)).2.1<((stP T (.bad q e k)).1.length:Int))
  ·exact(brF rfl).trans rfl
  ·exact(brT rfl).trans ((biS (quF 2 _ hp (fun l h=>nomatch h))).trans rfl)
 |good l=>
  cases l with
  |nil=>exact(brF qLF).trans rfl
  |cons t r=>exact(brT (znU hp)).trans ((biS (qLY hT 2 (p:=.good (t::r)) hp)).trans rfl)
abbrev PrV:=Bs×Bs×Bs×Int×Int×Int×Int×InV×InV×List AV×List AV
abbrev VPr(x:Pr)(v:PrV):Prop:=v=(x.name,x.cur,x.cal,x.from_,x.every,x.over,x.tax,(ETr x.cr.tiers,x.cr.marg,x.cr.basis,x.cr.mode,x.cr.keep),(ETr x.de.tiers,x.de.marg,x.de.basis,x.de.mode,x.de.keep),EF x.fees,ER x.rules)
def zlL(v:PrV)(s:StP):qQN:=(v.1,v.2.1,v.2.2.1,v.2.2.2.1,v.2.2.2.2.1,v.2.2.2.2.2.1,v.2.2.2.2.2.2.1,v.2.2.2.2.2.2.2.1.1,v.2.2.2.2.2.2.2.1.2.1,v.2.2.2.2.2.2.2.1.2.2.1,v.2.2.2.2.2.2.2.1.2.2.2.1,v.2.2.2.2.2.2.2.1.2.2.2.2,v.2.2.2.2.2.2.2.2.1.1,v.2.2.2.2.2.2.2.2.1.2.1,v.2.2.2.2.2.2.2.2.1.2.2.1,v.2.2.2.2.2.2.2.2.1.2.2.2.1,v.2.2.2.2.2.2.2.2.1.2.2.2.2,v.2.2.2.2.2.2.2.2.2.1,v.2.2.2.2.2.2.2.2.2.2,s)
theorem qD8(l:List Tok):qhG exS qit l=(qc2 [112,114,111,100,117,99,116] l).bnd fun _ r=>(qcZ 1 r).bnd fun nm r=>(qcA [[123],[99,117,114,114,101,110,99,121]] r).bnd fun _ r=>(qgl r).bnd fun cu r=>(qcA [[59],[99,97,108,101,110,100,97,114]] r).bnd fun _ r=>(qcZ 1 r).bnd fun ca r=>
 (qcA [[59],[102,114,111,109]] r).bnd fun _ r=>(qI1 qit r).bnd fun fr r=>(qcA [[59],[101,118,101,114,121]] r).bnd fun _ r=>(quz r).bnd fun ev r=>(qcA [[59],[111,118,101,114,100,114,97,102,116],[36]] r).bnd fun _ r=>(quz r).bnd fun ov r=>
 (qcA [[59],[116,97,120]] r).bnd fun _ r=>(qng r).bnd fun tx r=>(qc2 [59] r).bnd fun _ r=>(qKr [99,114,101,100,105,116] r).bnd fun cr r=>(qKr [100,101,98,105,116] r).bnd fun de r=>
 ((fun r=>qdU qws (qHb exS) (r.length+1) [] r) r).bnd fun fs r=>((fun r=>qdU qxX (qi9 exS) (r.length+1) [] r) r).bnd fun rs r=>(qc2 [125] r).bnd fun _ r=>zpP (⟨nm,cu,ca,fr,ev,ov,tx,cr,de,fs,rs⟩:Pr) r:=by
 unfold qhG;rfl
theorem qDT(hT:T.length<=1000000)(hv:∀t∈T,qaT t=true){p:PS}(hp:p.Ok T):∃v p',qCR (stP T p).1 (stP T p).2.1 (stP T p).2.2.1 (stP T p).2.2.2=some (zlL v (stP T p'))/\Does T (qhG exS qit) VPr p v p':=by
 obtain⟨p0,h0,D0⟩:=qdR hT hv [112,114,111,100,117,99,116] hp;obtain⟨nm,p1,h1,D1,_⟩:=quG hT hv 1 D0.ok;obtain⟨p2,h2,D2⟩:=qya hT hv (ss:=[[123],[99,117,114,114,101,110,99,121]]) (by decide) D1.ok;obtain⟨cu,p3,h3,D3⟩:=zlM hT hv D2.ok;obtain⟨p4,h4,D4⟩:=qya hT hv (ss:=[[59],[99,97,108,101,110,100,97,114]]) (by decide) D3.ok;obtain⟨ca,p5,h5,D5,_⟩:=quG hT hv 1 D4.ok;obtain⟨p6,h6,D6⟩:=qya hT hv (ss:=[[59],[102,114,111,109]]) (by decide) D5.ok;obtain⟨fr,p7,h7,D7⟩:=zr9 hT hv D6.ok;obtain⟨p8,h8,D8⟩:=qya hT hv (ss:=[[59],[101,118,101,114,121]]) (by decide) D7.ok;obtain⟨ev,p9,h9,D9⟩:=qk3 hT hv D8.ok;obtain⟨p10,h10,D10⟩:=qya hT hv (ss:=[[59],[111,118,101,114,100,114,97,102,116],[36]]) (by decide) D9.ok;obtain⟨ov,p11,h11,D11⟩:=qk3 hT hv D10.ok;obtain⟨p12,h12,D12⟩:=qya hT hv (ss:=[[59],[116,97,120]]) (by decide) D11.ok;obtain⟨tx,p13,h13,D13⟩:=q93 hT hv D12.ok;obtain⟨p14,h14,D14⟩:=qdR hT hv [59] D13.ok;obtain⟨cr,p15,h15,D15⟩:=qx9 hT hv [99,114,101,100,105,116] D14.ok;obtain⟨de,p16,h16,D16⟩:=qx9 hT hv [100,101,98,105,116] D15.ok
 let r:Rm:=([],[],[],0,0,0,0,false,0,0,false,false,0,0,false,nm,cu,ca,fr,ev,ov,tx,cr.1,cr.2.1,cr.2.2.1,cr.2.2.2.1,cr.2.2.2.2,de.1,de.2.1,de.2.2.1,de.2.2.2.1,de.2.2.2.2)
 obtain⟨p17,F,D17,a17,hF⟩:=qiZ hT (st:=stF) (fun p=>hA (stP T p) r) (fun p A=>hB (stP T p) r A) (w:=qws) (f:=qHb exS) (av:=Fe.av) (fun p hp ha=>(qJn hT hv r hp ha).1) (fun p A hp ha=>(qJn hT hv r hp ha).2 A) (fun l hl hi=>q40 hT hv r hl hi) (fun l x r h=>qVd h) D16.ok;have hacc17:=qmO hT hv D17.ok a17;have fin:∀(U:List AV) (p18:PS),Does T (fun r=>qdU qxX (qi9 exS) (r.length+1) [] r) (fun xs (v:List AV)=>v=xs.map Ru.av) p17 U p18-> ∃p19,qa0 [AV.str [125]] (stP T p18).1 (stP T p18).2.1 (stP T p18).2.2.1 (stP T p18).2.2.2=some (stP T p19)/\p19.Ok T/\Does T (qhG exS qit) VPr p (nm,cu,ca,fr,ev,ov,tx,cr,de,F,U) (q9p (T:=T) p19):=by
  intro U p18 D18;obtain⟨p19,h19,D19⟩:=qdR hT hv [125] D18.ok;refine⟨p19,h19,D19.ok,?_⟩;have DE:=qI6 (T:=T) (V:=VPr) (p:=p19) (x:=⟨[],[],[],0,0,0,0,⟨[],false,0,0,false⟩,⟨[],false,0,0,false⟩,[],[]⟩) D19.ok rfl;have ok:=DE.ok;have K19:Stuck p19 (q9p (T:=T) p19):=DE.stuck;have K18:=D19.stuck.trans K19;have K17:=D18.stuck.trans K18;have K16:=D17.stuck.trans K17;have K15:=D16.stuck.trans K16;have K14:=D15.stuck.trans K15;have K13:=D14.stuck.trans K14;have K12:=D13.stuck.trans K13;have K11:=D12.stuck.trans K12;have K10:=D11.stuck.trans K11;have K9:=D10.stuck.trans K10;have K8:=D9.stuck.trans K9;have K7:=D8.stuck.trans K8;have K6:=D7.stuck.trans K7;have K5:=D6.stuck.trans K6;have K4:=D5.stuck.trans K5;have K3:=D4.stuck.trans K4;have K2:=D3.stuck.trans K3;have K1:=D2.stuck.trans K2;have K0:=D1.stuck.trans K1;refine Does.congr ?_ fun l _=>(qD8 l).symm
  exact D0.bnd K0 ok fun _ _=>D1.bnd K1 ok fun nm' e1=>D2.bnd K2 ok fun _ _=>D3.bnd K3 ok fun cu' e3=>D4.bnd K4 ok fun _ _=>D5.bnd K5 ok fun ca' e5=>D6.bnd K6 ok fun _ _=>D7.bnd K7 ok fun fr' e7=>D8.bnd K8 ok fun _ _=>D9.bnd K9 ok fun ev' e9=>D10.bnd K10 ok fun _ _=>D11.bnd K11 ok fun ov' e11=>
   D12.bnd K12 ok fun _ _=>D13.bnd K13 ok fun tx' e13=>D14.bnd K14 ok fun _ _=>D15.bnd K15 ok fun cr' e15=>D16.bnd K16 ok fun de' e16=>D17.bnd K17 ok fun fs' e17=>D18.bnd K18 ok fun rs' e18=>D19.bnd K19 ok fun _ _=>qI6 D19.ok (by show _=_;rw[e1,e3,e5,e7,e9,e11,e13,e15,e16,e17,e18])
 rw[qUs,qA9];rcases hF with⟨hF,rfl⟩|hF
 ·obtain⟨p18,U,D18,a18,hL⟩:=qiZ hT (st:=stL) (fun p=>g0 (stP T p) r) (fun p A=>g2 (stP T p) r A) (w:=qxX) (f:=qi9 exS) (av:=Ru.av) (fun p hp ha=>(qnl hT hv r hp ha).1) (fun p A hp ha=>(qnl hT hv r hp ha).2.2.1 A) (fun l hl hi=>by
   obtain⟨a,p',D,q1,q2,_⟩:=qEq hT hv r hl hi;exact⟨a,p',D,q1,q2⟩) (fun l x r h=>qqz h) D17.ok
  have hacc18:=qmO hT hv D18.ok a18;obtain⟨p19,h19,hok,hD⟩:=fin U p18 D18;rcases hL with⟨hL,rfl⟩|hL
  ·refine⟨(nm,cu,ca,fr,ev,ov,tx,cr,de,[],[]),q9p (T:=T) p19,?_,hD⟩;refine(biS h0).trans ((biS h1).trans ((biS h2).trans ((biS h3).trans ((biS h4).trans ((biS h5).trans ((biS h6).trans ((biS h7).trans ((biS h8).trans ((biS h9).trans ((biS h10).trans ((biS h11).trans ((biS h12).trans ((biS h13).trans ((biS h14).trans ((biS h15).trans ((biS h16).trans (?_)))))))))))))))));refine(biS (v:=hA (stP T p17) r) ?_).trans ?_
   ·rw[qgz];show pj 0 (qaf stF (hA (stP T p16) r))=_;rw[hF];rfl
   refine(biS (v:=g0 (stP T p18) r) ?_).trans ?_
   ·rw[qcK];show pj 0 (qaf stL (gA (qap qws (stP T p17).1 (stP T p17).2.1 (stP T p17).2.2.1 (stP T p17).2.2.2) r))=_;rw[hacc17];show pj 0 (qaf stL (g0 (stP T p17) r))=_;rw[hL];rfl
   refine(biS (v:=stP T p19) ?_).trans ?_
   ·show(fun s:StP=>qa0 [AV.str [125]] s.1 s.2.1 s.2.2.1 s.2.2.2) (gv (qap qxX (stP T p18).1 (stP T p18).2.1 (stP T p18).2.2.1 (stP T p18).2.2.2)).snd=_;rw[hacc18];exact h19
   exact qzf hT (fun y=>zlL (nm,cu,ca,fr,ev,ov,tx,cr,de,[],[]) y) hok
  ·refine⟨(nm,cu,ca,fr,ev,ov,tx,cr,de,[],U),q9p (T:=T) p19,?_,hD⟩;refine(biS h0).trans ((biS h1).trans ((biS h2).trans ((biS h3).trans ((biS h4).trans ((biS h5).trans ((biS h6).trans ((biS h7).trans ((biS h8).trans ((biS h9).trans ((biS h10).trans ((biS h11).trans ((biS h12).trans ((biS h13).trans ((biS h14).trans ((biS h15).trans ((biS h16).trans (?_)))))))))))))))));refine(biS (v:=hA (stP T p17) r) ?_).trans ?_
   ·rw[qgz];show pj 0 (qaf stF (hA (stP T p16) r))=_;rw[hF];rfl
   refine(biN ?_).trans ?_
   ·rw[qcK];show pj 0 (qaf stL (gA (qap qws (stP T p17).1 (stP T p17).2.1 (stP T p17).2.2.1 (stP T p17).2.2.2) r))=_;rw[hacc17];show pj 0 (qaf stL (g0 (stP T p17) r))=_;rw[hL];rfl
   refine(biN ?_).trans ?_
   ·rw[qcK];show pj 1 (qaf stL (gA (qap qws (stP T p17).1 (stP T p17).2.1 (stP T p17).2.2.1 (stP T p17).2.2.2) r))=_;rw[hacc17];show pj 1 (qaf stL (g0 (stP T p17) r))=_;rw[hL];rfl
   refine(biS (v:=g2 (stP T p18) r U) ?_).trans ?_
   ·rw[qcK];show pj 2 (qaf stL (gA (qap qws (stP T p17).1 (stP T p17).2.1 (stP T p17).2.2.1 (stP T p17).2.2.2) r))=_;rw[hacc17];show pj 2 (qaf stL (g0 (stP T p17) r))=_;rw[hL];rfl
   refine(biS (v:=stP T p19) ?_).trans ?_
   ·show(fun s:StP=>qa0 [AV.str [125]] s.1 s.2.1 s.2.2.1 s.2.2.2) (gv (qap qxX (stP T p18).1 (stP T p18).2.1 (stP T p18).2.2.1 (stP T p18).2.2.2)).snd=_;rw[hacc18];exact h19
   exact qzf hT (fun y=>zlL (nm,cu,ca,fr,ev,ov,tx,cr,de,[],U) y) hok
 ·obtain⟨p18,U,D18,a18,hL⟩:=qiZ hT (st:=stL) (fun p=>g1 (stP T p) r F) (fun p A=>g3 (stP T p) r F A) (w:=qxX) (f:=qi9 exS) (av:=Ru.av) (fun p hp ha=>(qnl hT hv r hp ha).2.1 F) (fun p A hp ha=>(qnl hT hv r hp ha).2.2.2 F A) (fun l hl hi=>by
   obtain⟨a,p',D,_,_,q1,q2⟩:=qEq hT hv r hl hi;exact⟨a,p',D,q1 F,q2 F⟩) (fun l x r h=>qqz h) D17.ok
  have hacc18:=qmO hT hv D18.ok a18;obtain⟨p19,h19,hok,hD⟩:=fin U p18 D18;rcases hL with⟨hL,rfl⟩|hL
  ·refine⟨(nm,cu,ca,fr,ev,ov,tx,cr,de,F,[]),q9p (T:=T) p19,?_,hD⟩;refine(biS h0).trans ((biS h1).trans ((biS h2).trans ((biS h3).trans ((biS h4).trans ((biS h5).trans ((biS h6).trans ((biS h7).trans ((biS h8).trans ((biS h9).trans ((biS h10).trans ((biS h11).trans ((biS h12).trans ((biS h13).trans ((biS h14).trans ((biS h15).trans ((biS h16).trans (?_)))))))))))))))));refine(biN ?_).trans ?_
   ·rw[qgz];show pj 0 (qaf stF (hA (stP T p16) r))=_;rw[hF];rfl
   refine(biS (v:=hB (stP T p17) r F) ?_).trans ?_
   ·rw[qgz];show pj 1 (qaf stF (hA (stP T p16) r))=_;rw[hF];rfl
   refine(biN ?_).trans ?_
   ·rw[qcK];show pj 0 (qaf stL (gB (qap qws (stP T p17).1 (stP T p17).2.1 (stP T p17).2.2.1 (stP T p17).2.2.2) r F))=_;rw[hacc17];show pj 0 (qaf stL (g1 (stP T p17) r F))=_;rw[hL];rfl
   refine(biS (v:=g1 (stP T p18) r F) ?_).trans ?_
   ·rw[qcK];show pj 1 (qaf stL (gB (qap qws (stP T p17).1 (stP T p17).2.1 (stP T p17).2.2.1 (stP T p17).2.2.2) r F))=_;rw[hacc17];show pj 1 (qaf stL (g1 (stP T p17) r F))=_;rw[hL];rfl
   refine(biS (v:=stP T p19) ?_).trans ?_
   ·show(fun s:StP=>qa0 [AV.str [125]] s.1 s.2.1 s.2.2.1 s.2.2.2) (gv (qap qxX (stP T p18).1 (stP T p18).2.1 (stP T p18).2.2.1 (stP T p18).2.2.2)).snd=_;rw[hacc18];exact h19
   exact qzf hT (fun y=>zlL (nm,cu,ca,fr,ev,ov,tx,cr,de,F,[]) y) hok
  ·refine⟨(nm,cu,ca,fr,ev,ov,tx,cr,de,F,U),q9p (T:=T) p19,?_,hD⟩;refine(biS h0).trans ((biS h1).trans ((biS h2).trans ((biS h3).trans ((biS h4).trans ((biS h5).trans ((biS h6).trans ((biS h7).trans ((biS h8).trans ((biS h9).trans ((biS h10).trans ((biS h11).trans ((biS h12).trans ((biS h13).trans ((biS h14).trans ((biS h15).trans ((biS h16).trans (?_)))))))))))))))));refine(biN ?_).trans ?_
   ·rw[qgz];show pj 0 (qaf stF (hA (stP T p16) r))=_;rw[hF];rfl
   refine(biS (v:=hB (stP T p17) r F) ?_).trans ?_
   ·rw[qgz];show pj 1 (qaf stF (hA (stP T p16) r))=_;rw[hF];rfl
   refine(biN ?_).trans ?_
   ·rw[qcK];show pj 0 (qaf stL (gB (qap qws (stP T p17).1 (stP T p17).2.1 (stP T p17).2.2.1 (stP T p17).2.2.2) r F))=_;rw[hacc17];show pj 0 (qaf stL (g1 (stP T p17) r F))=_;rw[hL];rfl
   refine(biN ?_).trans ?_
   ·rw[qcK];show pj 1 (qaf stL (gB (qap qws (stP T p17).1 (stP T p17).2.1 (stP T p17).2.2.1 (stP T p17).2.2.2) r F))=_;rw[hacc17];show pj 1 (qaf stL (g1 (stP T p17) r F))=_;rw[hL];rfl
   refine(biN ?_).trans ?_
   ·rw[qcK];show pj 2 (qaf stL (gB (qap qws (stP T p17).1 (stP T p17).2.1 (stP T p17).2.2.1 (stP T p17).2.2.2) r F))=_;rw[hacc17];show pj 2 (qaf stL (g1 (stP T p17) r F))=_;rw[hL];rfl
   refine(biS (v:=g3 (stP T p18) r F U) ?_).trans ?_
   ·rw[qcK];show pj 3 (qaf stL (gB (qap qws (stP T p17).1 (stP T p17).2.1 (stP T p17).2.2.1 (stP T p17).2.2.2) r F))=_;rw[hacc17];show pj 3 (qaf stL (g1 (stP T p17) r F))=_;rw[hL];rfl
   refine(biS (v:=stP T p19) ?_).trans ?_
   ·show(fun s:StP=>qa0 [AV.str [125]] s.1 s.2.1 s.2.2.1 s.2.2.2) (gv (qap qxX (stP T p18).1 (stP T p18).2.1 (stP T p18).2.2.1 (stP T p18).2.2.2)).snd=_;rw[hacc18];exact h19
   exact qzf hT (fun y=>zlL (nm,cu,ca,fr,ev,ov,tx,cr,de,F,U) y) hok
end
theorem qIA{s:Bs}(h:(qbp s).2.2=0):(∀t∈(qbp s).1,qaT t=true)/\(qbp s).1.length<=2048/\s.length<=2048:=by
 have hs:s.length<=2048:=by
  rcases jCb 2048 s.length with hl|hl
  ·rw[qyA (by omega)]at h;cases h
  ·exact hl
 rw[qpF hs]at h ⊢;have h0:=qTf s.length s 1 (jAj _) h;have hq:rdT s 1=((rdT s 1).1,0,0):=Prod.ext rfl (Prod.ext h0 h);have hv:=qTg s.length s 1 _ (jAj _) hs hq;have hr:=(zjC s.length s 1 (jAj _)).1;exact⟨qIY hv.1,by omega,hs⟩
abbrev prV(x:Pr):PrV:=(x.name,x.cur,x.cal,x.from_,x.every,x.over,x.tax,(ETr x.cr.tiers,x.cr.marg,x.cr.basis,x.cr.mode,x.cr.keep),(ETr x.de.tiers,x.de.marg,x.de.basis,x.de.mode,x.de.keep),EF x.fees,ER x.rules)
def zlG:Pr:=⟨[],[],[],0,0,0,0,⟨[],false,0,0,false⟩,⟨[],false,0,0,false⟩,[],[]⟩
def zfA(v:PrV)(s:Int×Int):qEZ:=(v.1,v.2.1,v.2.2.1,v.2.2.2.1,v.2.2.2.2.1,v.2.2.2.2.2.1,v.2.2.2.2.2.2.1,v.2.2.2.2.2.2.2.1.1,v.2.2.2.2.2.2.2.1.2.1,v.2.2.2.2.2.2.2.1.2.2.1,v.2.2.2.2.2.2.2.1.2.2.2.1,v.2.2.2.2.2.2.2.1.2.2.2.2,v.2.2.2.2.2.2.2.2.1.1,v.2.2.2.2.2.2.2.2.1.2.1,v.2.2.2.2.2.2.2.2.1.2.2.1,v.2.2.2.2.2.2.2.2.1.2.2.2.1,v.2.2.2.2.2.2.2.2.1.2.2.2.2,v.2.2.2.2.2.2.2.2.2.1,v.2.2.2.2.2.2.2.2.2.2,s)
noncomputable def qu1(s:Bs):Pr×Int×Int:=((qh8 exS s).1.getD zlG,(qh8 exS s).2)
theorem qd6(s:Bs):qgo s=some (zfA (prV (qu1 s).1) (qu1 s).2):=by
 rw[qM5,qqL];refine(biS (qiL s)).trans ?_;unfold qu1 qh8;cases he:((qbp s).2.2 != 0)
 ·refine(brF rfl).trans ?_;have h0:(qbp s).2.2=0:=by simpa using he
  obtain⟨hv,hl,_⟩:=qIA h0;generalize (qbp s).1=T at hv hl;have hT:T.length<=1000000:=by omega
  have hst:stP T (.good T)=(ET T,0,0,0):=by
   show(ET T,pos T T,(0:Int),(0:Int))=_;unfold pos;rw[Nat.sub_self];rfl
  obtain⟨v,p',h1,D⟩:=qDT hT hv (p:=.good T) (jCa T);rw[hst]at h1;refine(brT (jA8 (by rw[jA5];simp only[lim,Prod.i,Prod.h,Prod.f];omega))).trans ((biS h1).trans ?_);have D2:=D.2;dsimp only at D2;simp only[jA9];cases hz:qhG exS qit T with
  |bad q e=>
   rw[hz]at D2;obtain⟨k,rfl⟩:=D2;exact(brT (qmP D.ok.1)).trans rfl
  |ok x r=>
   rw[hz]at D2;obtain⟨hx,rfl⟩:=D2;refine(brF rfl).trans ?_;show some (zfA v (0,0))=some (zfA (prV x) (0,0));rw[hx]
 ·exact(brT rfl).trans rfl
end Go.Proofs.H16
namespace Go.Proofs.H16
open Go Go.Eng Go.Tk
set_option maxRecDepth 20000
theorem q4S(n:Int)(e:Ex)(rest:List Tok)(h:qaO e=0)(hs:stopL 0 rest):exS (exT n e++rest)= .ok e rest:=zkS (zkR n (qkF h).2.2.1 hs)
theorem zuE{n:Nat}:Lib.decDigits n=if n<10 then[UInt8.ofNat (48+n)]else Lib.decDigits (n / 10)++[UInt8.ofNat (48+n%10)]:=by
 rw[Lib.decDigits];split<;>rfl
theorem q4f{n:Nat}{b:UInt8}(h:n<10)(hb:UInt8.ofNat (48+n)=b):Lib.decDigits n= [b]:=by rw[zuE,jAr h,hb]
theorem qMY{n m:Nat}{b:UInt8}{l:Bs}(h:¬n<10)(hm:n / 10=m)(hb:UInt8.ofNat (48+n%10)=b)(hl:Lib.decDigits m=l):Lib.decDigits n=l++[b]:=by rw[zuE,jAm h,hm,hl,hb]
theorem qC7{n:Nat}{l:Bs}(h:Lib.decDigits n=l):Lib.itoa (n:Int)=l:=by
 unfold Lib.itoa;rw[jAm (by omega),jB5,h]
theorem i0:Lib.itoa 0= [48]:=qC7 (n:=0) (q4f (by decide) rfl)
theorem i1:Lib.itoa 1= [49]:=qC7 (n:=1) (q4f (by decide) rfl)
theorem i2:Lib.itoa 2= [50]:=qC7 (n:=2) (q4f (by decide) rfl)
theorem i3:Lib.itoa 3= [51]:=qC7 (n:=3) (q4f (by decide) rfl)
theorem zvd:Lib.itoa 500= [53,48,48]:=qC7 (n:=500) (qMY (by decide) rfl rfl (qMY (by decide) rfl rfl (q4f (by decide) rfl)))
theorem zvc:Lib.itoa 250= [50,53,48]:=qC7 (n:=250) (qMY (by decide) rfl rfl (qMY (by decide) rfl rfl (q4f (by decide) rfl)))
theorem zp5:Lib.itoa 2000= [50,48,48,48]:=qC7 (n:=2000) (qMY (by decide) rfl rfl (qMY (by decide) rfl rfl (qMY (by decide) rfl rfl (q4f (by decide) rfl))))
theorem ze8:Lib.itoa 100000= [49,48,48,48,48,48]:=qC7 (n:=100000) (qMY (by decide) rfl rfl (qMY (by decide) rfl rfl (qMY (by decide) rfl rfl (qMY (by decide) rfl rfl (qMY (by decide) rfl rfl (q4f (by decide) rfl))))))
theorem zwI:qiu 250000= [50,53,37]:=by
 have h:Lib.decDigits 25= [50,53]:=qMY (by decide) rfl rfl (q4f (by decide) rfl);unfold qiu;rw[show 250000 / 10000=25 from rfl,h];rfl
theorem zwH:qiu 15000= [49,46,53,37]:=by
 have h:Lib.decDigits 1= [49]:=q4f (by decide) rfl;unfold qiu;rw[show 15000 / 10000=1 from rfl,h];rfl
theorem zu5:qdT 0=(2000,1,1):=qTT (by decide)
def pE:Pr:=⟨[98,97,115,105,99],[69,85,82],[119,101,101,107],0,3,500,250000,⟨[⟨0,15000⟩],true,2,6,true⟩,⟨[],false,1,2,false⟩,
 [⟨[108,97,116,101],3,.mk 12 0 [] [.mk 1 1 [] [],.mk 1 2 [] []],.mk 2 250 [] []⟩],[⟨[100,97,121],2,.mk 2 100000 [] []⟩]⟩
theorem zr5(n:Int):exT n (.mk 12 0 [] [.mk 1 1 [] [],.mk 1 2 [] []])= [⟨2,n,[49]⟩,⟨4,n,[60]⟩,⟨2,n,[50]⟩]:=by
 unfold exT;rw[qnX (e:=.mk 12 0 [] [.mk 1 1 [] [],.mk 1 2 [] []]) rfl (by decide) (by decide),show par (qez (Ex.op (.mk 12 0 [] [.mk 1 1 [] [],.mk 1 2 [] []]))) (.mk 1 1 [] [])= [mkT 2 (Lib.itoa 1)]from rfl,show par (qaX (Ex.op (.mk 12 0 [] [.mk 1 1 [] [],.mk 1 2 [] []]))+1) (.mk 1 2 [] [])= [mkT 2 (Lib.itoa 2)]from rfl,i1,i2];rfl
theorem zr6(n:Int):exT n (.mk 2 250 [] [])= [⟨4,n,[36]⟩,⟨2,n,[50,53,48]⟩]:=by
 unfold exT;rw[show wrB (.mk 2 250 [] [])= [wT [36],mkT 2 (Lib.itoa 250)]from rfl,zvc];rfl
theorem zr7(n:Int):exT n (.mk 2 100000 [] [])= [⟨4,n,[36]⟩,⟨2,n,[49,48,48,48,48,48]⟩]:=by
 unfold exT;rw[show wrB (.mk 2 100000 [] [])= [wT [36],mkT 2 (Lib.itoa 100000)]from rfl,ze8];rfl
def tE:List Tok:=[⟨5,1,[112,114,111,100,117,99,116]⟩,⟨1,1,[98,97,115,105,99]⟩,⟨4,1,[123]⟩,⟨5,2,[99,117,114,114,101,110,99,121]⟩,⟨1,2,[101,117,114]⟩,⟨4,2,[59]⟩,⟨5,3,[99,97,108,101,110,100,97,114]⟩,⟨1,3,[119,101,101,107]⟩,⟨4,3,[59]⟩,
 ⟨5,4,[102,114,111,109]⟩,⟨2,4,[50,48,48,48]⟩,⟨4,4,[47]⟩,⟨2,4,[49]⟩,⟨4,4,[47]⟩,⟨2,4,[49]⟩,⟨4,4,[59]⟩,⟨5,5,[101,118,101,114,121]⟩,⟨2,5,[51]⟩,⟨4,5,[59]⟩,⟨5,6,[111,118,101,114,100,114,97,102,116]⟩,⟨4,6,[36]⟩,⟨2,6,[53,48,48]⟩,⟨4,6,[59]⟩,
 ⟨5,7,[116,97,120]⟩,⟨3,7,[50,53,37]⟩,⟨4,7,[59]⟩,⟨5,8,[99,114,101,100,105,116]⟩,⟨5,8,[109,97,114,103,105,110,97,108]⟩,⟨5,8,[97,99,116,51,54,53]⟩,⟨5,8,[104,97,108,102,95,101,118,101,110]⟩,⟨5,8,[107,101,101,112]⟩,⟨4,8,[123]⟩,
 ⟨4,9,[36]⟩,⟨2,9,[48]⟩,⟨4,9,[58]⟩,⟨3,9,[49,46,53,37]⟩,⟨4,9,[59]⟩,⟨4,10,[125]⟩,⟨5,11,[100,101,98,105,116]⟩,⟨5,11,[119,104,111,108,101]⟩,⟨5,11,[97,99,116,51,54,48]⟩,⟨5,11,[117,112]⟩,⟨5,11,[100,114,111,112]⟩,⟨4,11,[123]⟩,⟨4,12,[125]⟩,
 ⟨5,13,[102,101,101]⟩,⟨1,13,[108,97,116,101]⟩,⟨5,13,[114,101,116,117,114,110]⟩,⟨5,13,[119,104,101,110]⟩,⟨2,13,[49]⟩,⟨4,13,[60]⟩,⟨2,13,[50]⟩,⟨5,13,[97,109,111,117,110,116,95,111,102]⟩,⟨4,13,[36]⟩,⟨2,13,[50,53,48]⟩,⟨4,13,[59]⟩,
 ⟨5,14,[108,105,109,105,116]⟩,⟨1,14,[100,97,121]⟩,⟨5,14,[100,97,105,108,121]⟩,⟨4,14,[36]⟩,⟨2,14,[49,48,48,48,48,48]⟩,⟨4,14,[59]⟩,⟨4,15,[125]⟩]
theorem q91:qdS qdT pE=tE:=by
 simp only[qdS,pE,zu5,i0,i1,i3,zvd,zp5,inT,qcU,qpC,feT,ruT,qcB,zr5,zr6,zr7,show(250000:Int).toNat=250000 from rfl,show(15000:Int).toNat=15000 from rfl,zwI,zwH,lnT,jAs,jCe,jA0,jA4,jAf,jAk,jAx];rfl
noncomputable def sE:Bs:=gv qmg
theorem zma:qmg=some sE:=by
 unfold sE;rw[qw8,qlx];rfl
theorem zwF:qCj pE=true:=by kernel_rfl
theorem zwE:qoz qaT tE=(gv (qlx).ev,0):=by kernel_rfl
theorem zsk:sE=gv (qlx).ev:=by
 unfold sE;rw[qw8]
theorem pE_fit:FitP pE:=⟨by decide,by decide,fun t ht=>by
 simp only[pE,jAc,jAp,jBp]at ht;subst ht;decide,fun t ht=>by simp[pE]at ht⟩
theorem qAj:qhF pE=(sE,0):=by
 unfold qhF;rw[zwF,jAa,q91,zwE,zsk]
theorem q5G:qu1 sE=(pE,0,0):=by
 rcases qu6 q4S pE_fit with h|h
 ·rw[qAj]at h;unfold qu1;rw[h.2.2];rfl
 ·rw[qAj]at h;exact absurd rfl h.2
theorem pE_sml:Sml pE:=⟨by decide,by decide,by decide,by decide,by decide,fun x hx=>by
 simp only[pE,jAc,jAp,jBp]at hx;subst hx;refine⟨?_,?_⟩<;>decide,fun x hx=>by
 simp only[pE,jAc,jAp,jBp]at hx;subst hx;decide⟩
def sF:Bs:=[112,114,111,100,117,99,116,32,98,97,115,105,99,32,123,10,99,117,114,114,101,110,99,121,32,101,117,114,111,32,59,10,125]
def tF:List Tok:=[⟨5,1,[112,114,111,100,117,99,116]⟩,⟨1,1,[98,97,115,105,99]⟩,⟨4,1,[123]⟩,⟨5,2,[99,117,114,114,101,110,99,121]⟩,⟨1,2,[101,117,114,111]⟩,⟨4,2,[59]⟩,⟨4,3,[125]⟩]
theorem zsB:qbp sF=(tF,0,0):=by kernel_rfl
theorem q6a:(qu1 sF).2=(2,2):=by
 have hz:qhG exS qit tF= .bad [⟨1,2,[101,117,114,111]⟩,⟨4,2,[59]⟩,⟨4,3,[125]⟩] 2:=by
  unfold qhG;have h1:qc2 [112,114,111,100,117,99,116] tF= .ok () tF.tail:=by kernel_rfl
  have h2:qcZ 1 tF.tail= .ok [98,97,115,105,99] (tF.drop 2):=by kernel_rfl
  have h3:qcA [[123],[99,117,114,114,101,110,99,121]] (tF.drop 2)= .ok () (tF.drop 4):=by kernel_rfl
  have h4:qgl (tF.drop 4)= .bad [⟨1,2,[101,117,114,111]⟩,⟨4,2,[59]⟩,⟨4,3,[125]⟩] 2:=by
   unfold qgl;have h5:qcZ 1 (tF.drop 4)= .ok [101,117,114,111] (tF.drop 5):=by kernel_rfl
   rw[h5];show(match qsK [101,117,114,111]with|some c=>Pz.ok c (tF.drop 5)|none=>.bad (tF.drop 4) 2)=_;have h6:qsK [101,117,114,111]=none:=by
    unfold qsK;rw[jAm (by decide)]
   rw[h6];rfl
  rw[h1];simp only[Pz.bnd,h2,h3,h4]
 unfold qu1 qh8;rw[zsB];simp only[bne_self_eq_false,jA9,hz];rfl
theorem zr8:qhF { pE with cur:=[69,85,82,79] }=([],1):=by
 unfold qhF;rw[show qCj { pE with cur:=[69,85,82,79] }=false from by kernel_rfl];rfl
theorem qci:qbX=some true:=by
 have h1:=qd6 sE;rw[q5G]at h1;have h2:=qiK pE_sml pE_fit (fun _=>by rw[q91];decide);rw[qAj]at h2;have h3:=qd6 sF;have h4:=qiK (p:={ pE with cur:=[69,85,82,79] }) ⟨by decide,pE_sml.cr,pE_sml.de,pE_sml.fl,pE_sml.rl,pE_sml.fees,pE_sml.rules⟩ ⟨pE_fit.every,pE_fit.over,pE_fit.cr,pE_fit.de⟩ (fun h=>absurd h (by rw[show qCj { pE with cur:=[69,85,82,79] }=false from by kernel_rfl];decide));rw[zr8]at h4;obtain⟨v3,hv3,hw3⟩:∃v,qgo sF=some v/\v.2.2.2.2.2.2.2.2.2.2.2.2.2.2.2.2.2.2.2=(2,2):=⟨_,h3,q6a⟩;have e8:v3.2.2.2.2.2.2.2.2.2.2.2.2.2.2.2.2.2.2.2.1=2:=congrArg Prod.fst hw3;have e9:v3.2.2.2.2.2.2.2.2.2.2.2.2.2.2.2.2.2.2.2.2=2:=congrArg Prod.snd hw3;rw[qOh,qrW];refine(biS zma).trans ((biS h1).trans ((biS h2).trans ((biS hv3).trans ((biS h4).trans ?_))));rw[show v3.i.2.2.2.1=2 from e8,show v3.i.f=2 from e9];have e7:(!(sE==sE))=false:=by rw[beq_self_eq_true];rfl
 refine(biS (v:=false) rfl).trans ((biS (v:=false) rfl).trans ((biS (v:=false) (by rw[zma];exact congrArg some e7)).trans ((biS (v:=false) rfl).trans ((biS (v:=false) rfl).trans ((biS (v:=false) rfl).trans ((brF rfl).trans ?_))))));refine(biS (v:=true) rfl).trans ((biS (v:=true) rfl).trans ((biS (v:=true) rfl).trans ((biS (v:=true) rfl).trans ((biS (v:=true) rfl).trans ((biS (v:=true) rfl).trans ?_)))));refine(biS (v:=true) rfl).trans ((biS (v:=true) rfl).trans ((biS (v:=true) rfl).trans ((biS (v:=true) rfl).trans ((biS (v:=true) rfl).trans ((biS (v:=true) rfl).trans ((biS (v:=true) rfl).trans rfl))))))
end Go.Proofs.H16
namespace Go.Proofs.H16
open Go Go.Eng Go.Tk
set_option maxRecDepth 20000
section
variable {T:List Tok}
theorem qiX{s:Bs}{l:List Tok}{n:Int}(h:numAt l=some n):isW s l=false:=by
 cases l with
 |nil=>rfl
 |cons t l=>
  rw[qkX]at h;cases hk:(t.kind==2)
  ·rw[hk]at h;cases h
  ·have:t.kind=2:=by simpa using hk
   rw[qbo,this];have:((2:Int)==qcC s)=false:=by unfold qcC;cases qbT s<;>decide
   rw[this,Bool.and_false]
end
end Go.Proofs.H16
namespace Go.Proofs.H16
open Go Go.Eng Go.Tk
set_option maxRecDepth 20000
abbrev Rn:Type:=Int×Int×List UInt8×List UInt8×List UInt8×Int×Int×Int×Int×Bool×Int×Int×Bool×Bool×Int×Int×Bool×List UInt8×List UInt8×List UInt8×Int×Int×Int×Int×List AV×Bool×Int×Int×Bool×List AV×Bool×Int×Int×Bool
abbrev d1(r:Rn)(F:List AV):Int×Int×List UInt8×List UInt8×List UInt8×Int×Int×Int×Int×Bool×Int×Int×Bool×Bool×Int×Int×Bool×List UInt8×List UInt8×List UInt8×Int×Int×Int×Int×List AV×Bool×Int×Int×Bool×List AV×Bool×Int×Int×Bool×List AV:=(r.1,r.2.1,r.2.2.1,r.2.2.2.1,r.2.2.2.2.1,r.2.2.2.2.2.1,r.2.2.2.2.2.2.1,r.2.2.2.2.2.2.2.1,r.2.2.2.2.2.2.2.2.1,r.2.2.2.2.2.2.2.2.2.1,r.2.2.2.2.2.2.2.2.2.2.1,r.2.2.2.2.2.2.2.2.2.2.2.1,r.2.2.2.2.2.2.2.2.2.2.2.2.1,r.2.2.2.2.2.2.2.2.2.2.2.2.2.1,r.2.2.2.2.2.2.2.2.2.2.2.2.2.2.1,r.2.2.2.2.2.2.2.2.2.2.2.2.2.2.2.1,r.2.2.2.2.2.2.2.2.2.2.2.2.2.2.2.2.1,r.2.2.2.2.2.2.2.2.2.2.2.2.2.2.2.2.2.1,r.2.2.2.2.2.2.2.2.2.2.2.2.2.2.2.2.2.2.1,r.2.2.2.2.2.2.2.2.2.2.2.2.2.2.2.2.2.2.2.1,r.2.2.2.2.2.2.2.2.2.2.2.2.2.2.2.2.2.2.2.2.1,r.2.2.2.2.2.2.2.2.2.2.2.2.2.2.2.2.2.2.2.2.2.1,r.2.2.2.2.2.2.2.2.2.2.2.2.2.2.2.2.2.2.2.2.2.2.1,r.2.2.2.2.2.2.2.2.2.2.2.2.2.2.2.2.2.2.2.2.2.2.2.1,r.2.2.2.2.2.2.2.2.2.2.2.2.2.2.2.2.2.2.2.2.2.2.2.2.1,r.2.2.2.2.2.2.2.2.2.2.2.2.2.2.2.2.2.2.2.2.2.2.2.2.2.1,r.2.2.2.2.2.2.2.2.2.2.2.2.2.2.2.2.2.2.2.2.2.2.2.2.2.2.1,r.2.2.2.2.2.2.2.2.2.2.2.2.2.2.2.2.2.2.2.2.2.2.2.2.2.2.2.1,r.2.2.2.2.2.2.2.2.2.2.2.2.2.2.2.2.2.2.2.2.2.2.2.2.2.2.2.2.1,r.2.2.2.2.2.2.2.2.2.2.2.2.2.2.2.2.2.2.2.2.2.2.2.2.2.2.2.2.2.1,r.2.2.2.2.2.2.2.2.2.2.2.2.2.2.2.2.2.2.2.2.2.2.2.2.2.2.2.2.2.2.1,r.2.2.2.2.2.2.2.2.2.2.2.2.2.2.2.2.2.2.2.2.2.2.2.2.2.2.2.2.2.2.2.1,r.2.2.2.2.2.2.2.2.2.2.2.2.2.2.2.2.2.2.2.2.2.2.2.2.2.2.2.2.2.2.2.2.1,r.2.2.2.2.2.2.2.2.2.2.2.2.2.2.2.2.2.2.2.2.2.2.2.2.2.2.2.2.2.2.2.2.2,F)
abbrev d2(r:Rn)(F U:List AV):Int×Int×List UInt8×List UInt8×List UInt8×Int×Int×Int×Int×Bool×Int×Int×Bool×Bool×Int×Int×Bool×List UInt8×List UInt8×List UInt8×Int×Int×Int×Int×List AV×Bool×Int×Int×Bool×List AV×Bool×Int×Int×Bool×List AV×List AV:=(r.1,r.2.1,r.2.2.1,r.2.2.2.1,r.2.2.2.2.1,r.2.2.2.2.2.1,r.2.2.2.2.2.2.1,r.2.2.2.2.2.2.2.1,r.2.2.2.2.2.2.2.2.1,r.2.2.2.2.2.2.2.2.2.1,r.2.2.2.2.2.2.2.2.2.2.1,r.2.2.2.2.2.2.2.2.2.2.2.1,r.2.2.2.2.2.2.2.2.2.2.2.2.1,r.2.2.2.2.2.2.2.2.2.2.2.2.2.1,r.2.2.2.2.2.2.2.2.2.2.2.2.2.2.1,r.2.2.2.2.2.2.2.2.2.2.2.2.2.2.2.1,r.2.2.2.2.2.2.2.2.2.2.2.2.2.2.2.2.1,r.2.2.2.2.2.2.2.2.2.2.2.2.2.2.2.2.2.1,r.2.2.2.2.2.2.2.2.2.2.2.2.2.2.2.2.2.2.1,r.2.2.2.2.2.2.2.2.2.2.2.2.2.2.2.2.2.2.2.1,r.2.2.2.2.2.2.2.2.2.2.2.2.2.2.2.2.2.2.2.2.1,r.2.2.2.2.2.2.2.2.2.2.2.2.2.2.2.2.2.2.2.2.2.1,r.2.2.2.2.2.2.2.2.2.2.2.2.2.2.2.2.2.2.2.2.2.2.1,r.2.2.2.2.2.2.2.2.2.2.2.2.2.2.2.2.2.2.2.2.2.2.2.1,r.2.2.2.2.2.2.2.2.2.2.2.2.2.2.2.2.2.2.2.2.2.2.2.2.1,r.2.2.2.2.2.2.2.2.2.2.2.2.2.2.2.2.2.2.2.2.2.2.2.2.2.1,r.2.2.2.2.2.2.2.2.2.2.2.2.2.2.2.2.2.2.2.2.2.2.2.2.2.2.1,r.2.2.2.2.2.2.2.2.2.2.2.2.2.2.2.2.2.2.2.2.2.2.2.2.2.2.2.1,r.2.2.2.2.2.2.2.2.2.2.2.2.2.2.2.2.2.2.2.2.2.2.2.2.2.2.2.2.1,r.2.2.2.2.2.2.2.2.2.2.2.2.2.2.2.2.2.2.2.2.2.2.2.2.2.2.2.2.2.1,r.2.2.2.2.2.2.2.2.2.2.2.2.2.2.2.2.2.2.2.2.2.2.2.2.2.2.2.2.2.2.1,r.2.2.2.2.2.2.2.2.2.2.2.2.2.2.2.2.2.2.2.2.2.2.2.2.2.2.2.2.2.2.2.1,r.2.2.2.2.2.2.2.2.2.2.2.2.2.2.2.2.2.2.2.2.2.2.2.2.2.2.2.2.2.2.2.2.1,r.2.2.2.2.2.2.2.2.2.2.2.2.2.2.2.2.2.2.2.2.2.2.2.2.2.2.2.2.2.2.2.2.2,F,U)
section
variable {T:List Tok}
end
end Go.Proofs.H16
namespace Go.Proofs.H16
open Go Go.Eng Go.Tk
set_option maxRecDepth 20000
theorem q5I{s:Bs}(h:(qh8 exS s).2.2=0):∃p,(qh8 exS s).1=some p:=by
 unfold qh8 at h ⊢;cases hb:((qbp s).2.2 != 0)
 ·rw[hb,jA9]at h;rw[jA9];have h0:(qbp s).2.2=0:=by simpa using hb
  obtain⟨hv,hl,_⟩:=qIA h0;have hT:(qbp s).1.length<=1000000:=by omega
  obtain⟨v,p',h1,D⟩:=qDT hT hv (p:=.good (qbp s).1) (jCa _);have D1:=D.1;have D2:=D.2;cases hz:qhG exS qit (qbp s).1 with
  |ok q r=>exact⟨q,rfl⟩
  |bad r e=>
   rw[hz]at h;simp only[hz]at D2;obtain⟨k,rfl⟩:=D2;exact absurd h D1.1
 ·rw[hb,jAa]at h;have:(qbp s).2.2=0:=h;rw[this]at hb;cases hb
theorem qiq{e:Ex}(h:qaO e=0):e.nodes<=big/\Wd e:=by
 have:=(qkF h).1;have hb:e.nodes<=big:=by simp only[big];omega
 exact⟨hb,zm0 hb⟩
theorem zlK{p:Pr}(h:Tk.PrOk qdT qit p)(hn:NmOk p)(hl:(qdS qdT p).length<=2048):Sml p/\PrW p:=by
 have hb:=qTs qdT p;have hc:p.cur.length<=1000000:=by
  have hw:=(q90 h hn).1;unfold qCj qTJ at hw;simp only[jA1,jB7]at hw;omega
 refine⟨⟨hc,by omega,by omega,by omega,by omega,fun x hx=>?_,fun x hx=>?_⟩,⟨by omega,by omega,by omega,by omega,fun x hx=>?_,fun x hx=>?_⟩⟩
 ·obtain⟨_,_,a,b⟩:=h.fees x hx;exact⟨(qiq a).1,(qiq b).1⟩
 ·exact(qiq (h.rules x hx).2.2).1
 ·obtain⟨_,_,a,b⟩:=h.fees x hx;exact⟨(qiq a).2,(qiq b).2⟩
 ·exact(qiq (h.rules x hx).2.2).2
theorem qAm{s:Bs}{p:Pr}(h:(qh8 exS s).1=some p):Sml p/\PrW p/\qCj p=true/\FitP p/\(qdS qdT p).length<=2048/\qu1 s=(p,(qh8 exS s).2):=by
 obtain⟨⟨h1,h2⟩,h3⟩:=qZb qUd h;obtain⟨a,b⟩:=zlK h1 h2 h3;obtain⟨c,d⟩:=q90 h1 h2;exact⟨a,b,c,d,h3,by unfold qu1;rw[h];rfl⟩
theorem qOr{p:Pr}(hf:FitP p)(w1:∀x∈p.fees,FeW x)(w2:∀x∈p.rules,Wd x.amount):qJh p.name p.cur p.cal p.from_ p.every p.over p.tax (ETr p.cr.tiers) p.cr.marg p.cr.basis p.cr.mode p.cr.keep (ETr p.de.tiers) p.de.marg p.de.basis p.de.mode p.de.keep (EF p.fees) (ER p.rules)=some true:=by
 rw[qUw,qBn];refine(biS (qG0 w1 w2)).trans ?_;cases hg:grP p
 ·obtain⟨hs,g1,g2,g3,g4,_⟩:=zlc hg;have hw:PrW p:=⟨by omega,by omega,by omega,by omega,w1,w2⟩;refine(brF rfl).trans ((biS (qiK hs hf (fun h=>q5T (qER h hf).1 g1 g2 g3 g4))).trans ?_);rcases qu6 q4S hf with⟨h1,h2,h3⟩|⟨h1,h2⟩
  ·have hq:qu1 (qhF p).1=(p,0,0):=by unfold qu1;rw[h3];rfl
   have hP:=qd6 (qhF p).1;rw[hq]at hP;have hS:=qml hw hw;rw[qmB]at hS;refine(brF (by rw[h1];rfl)).trans ((biS hP).trans ((biS (v:=true) rfl).trans ((biS (v:=true) ?_).trans ((biS (v:=true) ?_).trans ((biS (v:=true) ?_).trans rfl)))))
   ·simp only[zfA,prV];rw[hS];rfl
   ·have:decide (((qhF p).1.length:Int)<=2048)=true:=jA8 (by omega);rw[this];rfl
   ·rw[qci];rfl
  ·refine(brT (by simpa using h2)).trans ((biS (v:=true) ?_).trans rfl);rw[h1,qci];rfl
 ·exact(brT rfl).trans ((biS qci).trans rfl)
theorem q5R{p:Pr}(h:qCj p=true)(hf:FitP p):(qhF p).2=0\/(qhF p).2=5:=by
 obtain⟨h1,h2⟩:=qER h hf;unfold qhF;rw[h,jAa];rcases qC8 q4S h1 h2 with e|⟨t,e,_⟩
 ·rw[e];exact .inr rfl
 ·rw[e];exact .inl rfl
theorem qOA(s:Bs):qJi s=some true:=by
 rw[qUA,qBz];by_cases hl:(s.length:Int)>3000
 ·exact(brT (jA8 hl)).trans ((biS qci).trans rfl)
 ·refine(brF (jAe hl)).trans ((biS (qd6 s)).trans ?_);by_cases he:(qh8 exS s).2.2=0
  ·obtain⟨p,hp⟩:=q5I he;obtain⟨hs,hw,hb,hf,h2,hq⟩:=qAm hp;rw[hq];have hPr:=qiK hs hf (fun _=>jAz h2 (by decide));refine(brF (by show((qh8 exS s).2.2 != 0)=false;rw[he];rfl)).trans ((biS hPr).trans ?_);rcases qu6 q4S hf with⟨h1,_,h3⟩|⟨_,h2'⟩
   ·have hq2:qu1 (qhF p).1=(p,0,0):=by unfold qu1;rw[h3];rfl
    have hP:=qd6 (qhF p).1;rw[hq2]at hP;have hS:=qml hw hw;rw[qmB]at hS;refine(brF (by rw[h1];rfl)).trans ((biS hP).trans ((biS hPr).trans ((biS (v:=true) ?_).trans ((biS (v:=true) ?_).trans ((biS (v:=true) ?_).trans ((biS (v:=true) ?_).trans rfl))))))
    ·simp only[zfA,prV];rw[hS];rfl
    ·rw[h1];rfl
    ·rw[beq_self_eq_true];rfl
    ·rw[qci];rfl
   ·have h5:(qhF p).2=5:=(q5R hb hf).resolve_left h2';refine(brT (by rw[h5];rfl)).trans ((biS (v:=true) ?_).trans rfl);rw[h5,qci];rfl
  ·refine(brT ?_).trans ((biS qci).trans rfl);show((qh8 exS s).2.2 != 0)=true;simpa using he
end Go.Proofs.H16

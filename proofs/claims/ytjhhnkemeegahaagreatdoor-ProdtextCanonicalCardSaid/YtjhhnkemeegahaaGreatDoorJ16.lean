/- Chapter 16: from the machine to the rows. -/
import Derived.Test.YtjhhnkemeegahaaGreatDoorX16Pvb
import Derived.Test.YtjhhnkemeegahaaGreatDoorG16
import Derived.Test.YtjhhnkemeegahaaGreatDoorE3
set_option linter.all false
namespace Go.Proofs.H16
open Go Go.Eng Go.Tk Go.Shelf
set_option maxRecDepth 100000
theorem qHg{n:Int}(h:(Lit.int .i64 n).wf=true):-9223372036854775808<=n/\n<=9223372036854775807:=by
 simp[Lit.wf,IntKind.min,IntKind.max,IntKind.bits,IntKind.signed]at h;omega
abbrev shX:List Sh:=[.int .i64,.int .i64,.str,.slice 4 true 40]
theorem zmg:shT Tryz.prog 40=shX:=by kernel_rfl
theorem zsn:shT Tryz.prog 48= [.int .i64,.int .i64]:=by kernel_rfl
theorem zsl:shT Tryz.prog 42= [.str,.int .i64,.int .i64,.int .i64,.str,.slice 4 true 40,.int .i64,.int .i64,.str,.slice 4 true 40]:=by kernel_rfl
theorem zsm:shT Tryz.prog 45= [.str,.int .i64,.int .i64,.int .i64,.str,.slice 4 true 40]:=by kernel_rfl
abbrev shP:List Sh:=[.str,.str,.str,.int .i64,.int .i64,.int .i64,.int .i64,.slice 2 true 48,.bool,.int .i64,.int .i64,.bool,.slice 2 true 48,.bool,.int .i64,.int .i64,.bool,.slice 10 true 42,.slice 6 true 45]
theorem zpV:∀{d:Nat} {xs:List AV},qkG (Fit maxLen (shT Tryz.prog) d) shX xs-> ∃e:Ex,xs= [.int .i64 e.op,.int .i64 e.num,.str e.txt,.view 4 (EX e.args)]/\Wd e:=by
 intro d
 induction d with
 |zero=>
  intro xs h;obtain⟨_,_,rfl,h0,_⟩:=h;exact h0.elim
 |succ d ih=>
  intro xs h;obtain⟨_,_,rfl,h0,_,_,rfl,h1,_,_,rfl,h2,_,_,rfl,h3,rfl⟩:=h;obtain⟨a,rfl,_⟩:=qb6 h0;obtain⟨b,rfl,_⟩:=qb6 h1;obtain⟨c,rfl,_⟩:=qgw h2;obtain⟨es,rfl,hlen,hall⟩:=h3;obtain⟨l,rfl,hl⟩:=qHS (f:=Ex.av) (p:=Wd) (l:=es) fun e he=>by
   obtain⟨xs,rfl,hf⟩:=hall e he;rw[zmg]at hf;obtain⟨y,rfl,hy⟩:=ih hf;exact⟨y,(qhP y).symm,hy⟩
  refine⟨.mk a b c l,rfl,?_⟩;rw[Wd,Ex.allX_eq,jA1,jAb];exact⟨jA8 (jAz (show l.length<=maxLen by simpa using hlen) (by decide)),hl⟩
theorem ze0{d:Nat}{x:AV}(h:Fit maxLen (shT Tryz.prog) d (.slice 4 true 40) x):∃l:List Ex,x= .view 4 (EX l)/\ ∀o n s,Wd (.mk o n s l):=by
 obtain⟨l,hl,h1,h2⟩:=qqo (av:=Ex.av) (p:=Wd) h fun d xs hx=>by
  rw[zmg]at hx;obtain⟨y,rfl,hy⟩:=zpV hx;exact⟨y,(qhP y).symm,hy⟩
 refine⟨l,hl,fun o n s=>?_⟩;rw[Wd,Ex.allX_eq,jA1,jAb];exact⟨jA8 h1,h2⟩
theorem zk4{d:Nat}{x:AV}(h:Fit maxLen (shT Tryz.prog) d (.slice 2 true 48) x):∃l:List Tr,x= .view 2 (ETr l)/\ ∀t∈l,t.from_<=9223372036854775807:=by
 obtain⟨l,hl,_,h2⟩:=qqo (av:=Tr.av) (p:=fun t=>t.from_<=9223372036854775807) h fun d xs hx=>by
  rw[zsn]at hx;obtain⟨_,_,rfl,h0,_,_,rfl,h1,rfl⟩:=hx;obtain⟨a,rfl,ha⟩:=qb6 h0;obtain⟨b,rfl,_⟩:=qb6 h1;exact⟨⟨a,b⟩,rfl,(qHg ha).2⟩
 exact⟨l,hl,h2⟩
theorem zpS{d:Nat}{x:AV}(h:Fit maxLen (shT Tryz.prog) d (.slice 10 true 42) x):∃l:List Fe,x= .view 10 (EF l)/\ ∀x∈l,FeW x:=by
 obtain⟨l,hl,_,h2⟩:=qqo (av:=Fe.av) (p:=FeW) h fun d xs hx=>by
  rw[zsl]at hx;obtain⟨_,_,rfl,h0,_,_,rfl,h1,_,_,rfl,h2,_,_,rfl,h3,_,_,rfl,h4,_,_,rfl,h5,_,_,rfl,h6,_,_,rfl,h7,_,_,rfl,h8,_,_,rfl,h9,rfl⟩:=hx;obtain⟨a0,rfl,_⟩:=qgw h0;obtain⟨a1,rfl,_⟩:=qb6 h1;obtain⟨a2,rfl,_⟩:=qb6 h2;obtain⟨a3,rfl,_⟩:=qb6 h3;obtain⟨a4,rfl,_⟩:=qgw h4;obtain⟨a5,rfl,w5⟩:=ze0 h5;obtain⟨a6,rfl,_⟩:=qb6 h6;obtain⟨a7,rfl,_⟩:=qb6 h7;obtain⟨a8,rfl,_⟩:=qgw h8;obtain⟨a9,rfl,w9⟩:=ze0 h9;exact⟨⟨a0,a1,.mk a2 a3 a4 a5,.mk a6 a7 a8 a9⟩,rfl,w5 _ _ _,w9 _ _ _⟩
 exact⟨l,hl,h2⟩
theorem zpU{d:Nat}{x:AV}(h:Fit maxLen (shT Tryz.prog) d (.slice 6 true 45) x):∃l:List Ru,x= .view 6 (ER l)/\ ∀x∈l,Wd x.amount:=by
 obtain⟨l,hl,_,h2⟩:=qqo (av:=Ru.av) (p:=fun x=>Wd x.amount) h fun d xs hx=>by
  rw[zsm]at hx;obtain⟨_,_,rfl,h0,_,_,rfl,h1,_,_,rfl,h2,_,_,rfl,h3,_,_,rfl,h4,_,_,rfl,h5,rfl⟩:=hx;obtain⟨a0,rfl,_⟩:=qgw h0;obtain⟨a1,rfl,_⟩:=qb6 h1;obtain⟨a2,rfl,_⟩:=qb6 h2;obtain⟨a3,rfl,_⟩:=qb6 h3;obtain⟨a4,rfl,_⟩:=qgw h4;obtain⟨a5,rfl,w5⟩:=ze0 h5;exact⟨⟨a0,a1,.mk a2 a3 a4 a5⟩,rfl,w5 _ _ _⟩
 exact⟨l,hl,h2⟩
def prA(p:Pr):List AV:=[.str p.name,.str p.cur,.str p.cal,.int .i64 p.from_,.int .i64 p.every,.int .i64 p.over,.int .i64 p.tax,.view 2 (ETr p.cr.tiers),.bool p.cr.marg,.int .i64 p.cr.basis,.int .i64 p.cr.mode,.bool p.cr.keep,.view 2 (ETr p.de.tiers),.bool p.de.marg,.int .i64 p.de.basis,.int .i64 p.de.mode,.bool p.de.keep,.view 10 (EF p.fees),.view 6 (ER p.rules)]
theorem zpT{d:Nat}{xs:List AV}(h:qkG (Fit maxLen (shT Tryz.prog) d) shP xs):∃p:Pr,xs=prA p/\Tk.FitP p/\(∀x∈p.fees,FeW x)/\ ∀x∈p.rules,Wd x.amount:=by
 obtain⟨_,_,rfl,h0,_,_,rfl,h1,_,_,rfl,h2,_,_,rfl,h3,_,_,rfl,h4,_,_,rfl,h5,_,_,rfl,h6,_,_,rfl,h7,_,_,rfl,h8,_,_,rfl,h9,_,_,rfl,h10,_,_,rfl,h11,_,_,rfl,h12,_,_,rfl,h13,_,_,rfl,h14,_,_,rfl,h15,_,_,rfl,h16,_,_,rfl,h17,_,_,rfl,h18,rfl⟩:=h;obtain⟨a0,rfl,_⟩:=qgw h0;obtain⟨a1,rfl,_⟩:=qgw h1;obtain⟨a2,rfl,_⟩:=qgw h2;obtain⟨a3,rfl,_⟩:=qb6 h3;obtain⟨a4,rfl,r4⟩:=qb6 h4;obtain⟨a5,rfl,r5⟩:=qb6 h5;obtain⟨a6,rfl,_⟩:=qb6 h6;obtain⟨a7,rfl,w7⟩:=zk4 h7;obtain⟨a8,rfl⟩:=qqn h8;obtain⟨a9,rfl,_⟩:=qb6 h9;obtain⟨a10,rfl,_⟩:=qb6 h10;obtain⟨a11,rfl⟩:=qqn h11;obtain⟨a12,rfl,w12⟩:=zk4 h12;obtain⟨a13,rfl⟩:=qqn h13;obtain⟨a14,rfl,_⟩:=qb6 h14;obtain⟨a15,rfl,_⟩:=qb6 h15;obtain⟨a16,rfl⟩:=qqn h16;obtain⟨a17,rfl,w17⟩:=zpS h17;obtain⟨a18,rfl,w18⟩:=zpU h18;exact⟨⟨a0,a1,a2,a3,a4,a5,a6,⟨a7,a8,a9,a10,a11⟩,⟨a12,a13,a14,a15,a16⟩,a17,a18⟩,rfl,⟨(qHg r4).2,(qHg r5).2,w7,w12⟩,w17,w18⟩
set_option maxHeartbeats 4000000 in
theorem law5{d:Nat}{avs:List AV}(h:Eng.FitP (Fit maxLen (shT Tryz.prog) d) [(true,shP)] avs):qbJ IP 5 avs []=some (.ret (.bool true),[]):=by
 obtain⟨xs,r,rfl,h0,rfl⟩:=h;obtain⟨p,rfl,q1,q2,q3⟩:=zpT h0;have h:=q9e (p.name,p.cur,p.cal,p.from_,p.every,p.over,p.tax,ETr p.cr.tiers,p.cr.marg,p.cr.basis,p.cr.mode,p.cr.keep,ETr p.de.tiers,p.de.marg,p.de.basis,p.de.mode,p.de.keep,EF p.fees,ER p.rules) true (qOr q1 q2 q3);have e:(aE qYK (p.name,p.cur,p.cal,p.from_,p.every,p.over,p.tax,ETr p.cr.tiers,p.cr.marg,p.cr.basis,p.cr.mode,p.cr.keep,ETr p.de.tiers,p.de.marg,p.de.basis,p.de.mode,p.de.keep,EF p.fees,ER p.rules))= [.agg (prA p)]:=by kernel_rfl
 rw[e]at h;exact h
theorem law6{d:Nat}{avs:List AV}(h:Eng.FitP (Fit maxLen (shT Tryz.prog) d) [(false,[.str])] avs):qbJ IP 6 avs []=some (.ret (.bool true),[]):=by
 obtain⟨y,r,rfl,⟨_,_,e1,h0,rfl⟩,rfl⟩:=h;cases e1;obtain⟨s,rfl,_⟩:=qgw h0;exact q9f s true (qOA s)
end Go.Proofs.H16

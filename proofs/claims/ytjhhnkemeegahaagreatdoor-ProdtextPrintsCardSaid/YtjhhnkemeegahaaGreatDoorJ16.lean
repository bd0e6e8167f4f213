/- Chapter 16: from the machine to the rows. -/
import Derived.Test.YtjhhnkemeegahaaGreatDoorX16Pvf
import Derived.Test.YtjhhnkemeegahaaGreatDoorX16Pva
import Derived.Test.YtjhhnkemeegahaaGreatDoorG16
import Derived.Test.YtjhhnkemeegahaaGreatDoorE3
set_option linter.all false
namespace Go.Proofs.H16
open Go Go.Eng Go.Tk Go.Shelf
set_option maxRecDepth 100000
theorem qH9{n:Int}(h:(Lit.int .i64 n).wf=true):-9223372036854775808<=n/\n<=9223372036854775807:=by
 simp[Lit.wf,IntKind.min,IntKind.max,IntKind.bits,IntKind.signed]at h;omega
abbrev shX:List Sh:=[.int .i64,.int .i64,.str,.slice 4 true 40]
theorem zm3:shT Tryz.prog 40=shX:=by kernel_rfl
theorem zsX:shT Tryz.prog 48= [.int .i64,.int .i64]:=by kernel_rfl
theorem zsV:shT Tryz.prog 42= [.str,.int .i64,.int .i64,.int .i64,.str,.slice 4 true 40,.int .i64,.int .i64,.str,.slice 4 true 40]:=by kernel_rfl
theorem zsW:shT Tryz.prog 45= [.str,.int .i64,.int .i64,.int .i64,.str,.slice 4 true 40]:=by kernel_rfl
abbrev shP:List Sh:=[.str,.str,.str,.int .i64,.int .i64,.int .i64,.int .i64,.slice 2 true 48,.bool,.int .i64,.int .i64,.bool,.slice 2 true 48,.bool,.int .i64,.int .i64,.bool,.slice 10 true 42,.slice 6 true 45]
theorem zqB:∀{d:Nat} {xs:List AV},qk5 (Fit maxLen (shT Tryz.prog) d) shX xs-> ∃e:Ex,xs= [.int .i64 e.op,.int .i64 e.num,.str e.txt,.view 4 (EX e.args)]/\Wd e:=by
 intro d
 induction d with
 |zero=>
  intro xs h;obtain⟨_,_,rfl,h0,_⟩:=h;exact h0.elim
 |succ d ih=>
  intro xs h;obtain⟨_,_,rfl,h0,_,_,rfl,h1,_,_,rfl,h2,_,_,rfl,h3,rfl⟩:=h;obtain⟨a,rfl,_⟩:=qb9 h0;obtain⟨b,rfl,_⟩:=qb9 h1;obtain⟨c,rfl,_⟩:=qgK h2;obtain⟨es,rfl,hlen,hall⟩:=h3;obtain⟨l,rfl,hl⟩:=qIL (f:=Ex.av) (p:=Wd) (l:=es) fun e he=>by
   obtain⟨xs,rfl,hf⟩:=hall e he;rw[zm3]at hf;obtain⟨y,rfl,hy⟩:=ih hf;exact⟨y,(qhZ y).symm,hy⟩
  refine⟨.mk a b c l,rfl,?_⟩;rw[Wd,Ex.allX_eq,jA1,jAb];exact⟨jA8 (jAz (show l.length<=maxLen by simpa using hlen) (by decide)),hl⟩
theorem zgk{d:Nat}{x:AV}(h:Fit maxLen (shT Tryz.prog) d (.slice 4 true 40) x):∃l:List Ex,x= .view 4 (EX l)/\ ∀o n s,Wd (.mk o n s l):=by
 obtain⟨l,hl,h1,h2⟩:=qq1 (av:=Ex.av) (p:=Wd) h fun d xs hx=>by
  rw[zm3]at hx;obtain⟨y,rfl,hy⟩:=zqB hx;exact⟨y,(qhZ y).symm,hy⟩
 refine⟨l,hl,fun o n s=>?_⟩;rw[Wd,Ex.allX_eq,jA1,jAb];exact⟨jA8 h1,h2⟩
theorem zlU{d:Nat}{x:AV}(h:Fit maxLen (shT Tryz.prog) d (.slice 2 true 48) x):∃l:List Tr,x= .view 2 (ETr l)/\ ∀t∈l,t.from_<=9223372036854775807:=by
 obtain⟨l,hl,_,h2⟩:=qq1 (av:=Tr.av) (p:=fun t=>t.from_<=9223372036854775807) h fun d xs hx=>by
  rw[zsX]at hx;obtain⟨_,_,rfl,h0,_,_,rfl,h1,rfl⟩:=hx;obtain⟨a,rfl,ha⟩:=qb9 h0;obtain⟨b,rfl,_⟩:=qb9 h1;exact⟨⟨a,b⟩,rfl,(qH9 ha).2⟩
 exact⟨l,hl,h2⟩
theorem zqz{d:Nat}{x:AV}(h:Fit maxLen (shT Tryz.prog) d (.slice 10 true 42) x):∃l:List Fe,x= .view 10 (EF l)/\ ∀x∈l,FeW x:=by
 obtain⟨l,hl,_,h2⟩:=qq1 (av:=Fe.av) (p:=FeW) h fun d xs hx=>by
  rw[zsV]at hx;obtain⟨_,_,rfl,h0,_,_,rfl,h1,_,_,rfl,h2,_,_,rfl,h3,_,_,rfl,h4,_,_,rfl,h5,_,_,rfl,h6,_,_,rfl,h7,_,_,rfl,h8,_,_,rfl,h9,rfl⟩:=hx;obtain⟨a0,rfl,_⟩:=qgK h0;obtain⟨a1,rfl,_⟩:=qb9 h1;obtain⟨a2,rfl,_⟩:=qb9 h2;obtain⟨a3,rfl,_⟩:=qb9 h3;obtain⟨a4,rfl,_⟩:=qgK h4;obtain⟨a5,rfl,w5⟩:=zgk h5;obtain⟨a6,rfl,_⟩:=qb9 h6;obtain⟨a7,rfl,_⟩:=qb9 h7;obtain⟨a8,rfl,_⟩:=qgK h8;obtain⟨a9,rfl,w9⟩:=zgk h9;exact⟨⟨a0,a1,.mk a2 a3 a4 a5,.mk a6 a7 a8 a9⟩,rfl,w5 _ _ _,w9 _ _ _⟩
 exact⟨l,hl,h2⟩
theorem zqA{d:Nat}{x:AV}(h:Fit maxLen (shT Tryz.prog) d (.slice 6 true 45) x):∃l:List Ru,x= .view 6 (ER l)/\ ∀x∈l,Wd x.amount:=by
 obtain⟨l,hl,_,h2⟩:=qq1 (av:=Ru.av) (p:=fun x=>Wd x.amount) h fun d xs hx=>by
  rw[zsW]at hx;obtain⟨_,_,rfl,h0,_,_,rfl,h1,_,_,rfl,h2,_,_,rfl,h3,_,_,rfl,h4,_,_,rfl,h5,rfl⟩:=hx;obtain⟨a0,rfl,_⟩:=qgK h0;obtain⟨a1,rfl,_⟩:=qb9 h1;obtain⟨a2,rfl,_⟩:=qb9 h2;obtain⟨a3,rfl,_⟩:=qb9 h3;obtain⟨a4,rfl,_⟩:=qgK h4;obtain⟨a5,rfl,w5⟩:=zgk h5;exact⟨⟨a0,a1,.mk a2 a3 a4 a5⟩,rfl,w5 _ _ _⟩
 exact⟨l,hl,h2⟩
def prA(p:Pr):List AV:=[.str p.name,.str p.cur,.str p.cal,.int .i64 p.from_,.int .i64 p.every,.int .i64 p.over,.int .i64 p.tax,.view 2 (ETr p.cr.tiers),.bool p.cr.marg,.int .i64 p.cr.basis,.int .i64 p.cr.mode,.bool p.cr.keep,.view 2 (ETr p.de.tiers),.bool p.de.marg,.int .i64 p.de.basis,.int .i64 p.de.mode,.bool p.de.keep,.view 10 (EF p.fees),.view 6 (ER p.rules)]
theorem zlT{d:Nat}{xs:List AV}(h:qk5 (Fit maxLen (shT Tryz.prog) d) shP xs):∃p:Pr,xs=prA p/\Tk.FitP p/\(∀x∈p.fees,FeW x)/\ ∀x∈p.rules,Wd x.amount:=by
 obtain⟨_,_,rfl,h0,_,_,rfl,h1,_,_,rfl,h2,_,_,rfl,h3,_,_,rfl,h4,_,_,rfl,h5,_,_,rfl,h6,_,_,rfl,h7,_,_,rfl,h8,_,_,rfl,h9,_,_,rfl,h10,_,_,rfl,h11,_,_,rfl,h12,_,_,rfl,h13,_,_,rfl,h14,_,_,rfl,h15,_,_,rfl,h16,_,_,rfl,h17,_,_,rfl,h18,rfl⟩:=h;obtain⟨a0,rfl,_⟩:=qgK h0;obtain⟨a1,rfl,_⟩:=qgK h1;obtain⟨a2,rfl,_⟩:=qgK h2;obtain⟨a3,rfl,_⟩:=qb9 h3;obtain⟨a4,rfl,r4⟩:=qb9 h4;obtain⟨a5,rfl,r5⟩:=qb9 h5;obtain⟨a6,rfl,_⟩:=qb9 h6;obtain⟨a7,rfl,w7⟩:=zlU h7;obtain⟨a8,rfl⟩:=qq0 h8;obtain⟨a9,rfl,_⟩:=qb9 h9;obtain⟨a10,rfl,_⟩:=qb9 h10;obtain⟨a11,rfl⟩:=qq0 h11;obtain⟨a12,rfl,w12⟩:=zlU h12;obtain⟨a13,rfl⟩:=qq0 h13;obtain⟨a14,rfl,_⟩:=qb9 h14;obtain⟨a15,rfl,_⟩:=qb9 h15;obtain⟨a16,rfl⟩:=qq0 h16;obtain⟨a17,rfl,w17⟩:=zqz h17;obtain⟨a18,rfl,w18⟩:=zqA h18;exact⟨⟨a0,a1,a2,a3,a4,a5,a6,⟨a7,a8,a9,a10,a11⟩,⟨a12,a13,a14,a15,a16⟩,a17,a18⟩,rfl,⟨(qH9 r4).2,(qH9 r5).2,w7,w12⟩,w17,w18⟩
set_option maxHeartbeats 4000000 in
theorem law3{d:Nat}{avs:List AV}(h:Eng.FitP (Fit maxLen (shT Tryz.prog) d) [(true,shP)] avs):qa9 IP 3 avs []=some (.ret (.bool true),[]):=by
 obtain⟨xs,r,rfl,h0,rfl⟩:=h;obtain⟨p,rfl,q1,q2,q3⟩:=zlT h0;have h:=zac (p.name,p.cur,p.cal,p.from_,p.every,p.over,p.tax,ETr p.cr.tiers,p.cr.marg,p.cr.basis,p.cr.mode,p.cr.keep,ETr p.de.tiers,p.de.marg,p.de.basis,p.de.mode,p.de.keep,EF p.fees,ER p.rules) true (qPI q1 q2 q3);have e:(aE qZS (p.name,p.cur,p.cal,p.from_,p.every,p.over,p.tax,ETr p.cr.tiers,p.cr.marg,p.cr.basis,p.cr.mode,p.cr.keep,ETr p.de.tiers,p.de.marg,p.de.basis,p.de.mode,p.de.keep,EF p.fees,ER p.rules))= [.agg (prA p)]:=by kernel_rfl
 rw[e]at h;exact h
end Go.Proofs.H16

/- Chapter 15: from the machine to the rows. -/
import Derived.Test.YthljpgljbpdmjaaGreatDoorX15pL
import Derived.Test.YthljpgljbpdmjaaGreatDoorG15p
import Derived.Test.YthljpgljbpdmjaaGreatDoorE3
set_option linter.unusedVariables false
set_option linter.unusedSimpArgs false
set_option linter.unnecessarySimpa false
namespace Go.Proofs.H15p
open Go Go.Eng Go.Tk Go.Shelf
set_option maxRecDepth 100000
abbrev shX:List Sh:=[.int .i64,.int .i64,.str,.slice 4 true 60]
theorem q30:shT Tryz.prog 60 = shX:=by kernel_rfl
theorem q9o:shT Tryz.prog 80 = [.int .i64,.int .i64]:=by kernel_rfl
theorem q9m:shT Tryz.prog 62 = [.str,.int .i64,.int .i64,.int .i64,.str,.slice 4 true 60,.int .i64,.int .i64,.str,.slice 4 true 60]:=by kernel_rfl
theorem q9n:shT Tryz.prog 64 = [.str,.int .i64,.int .i64,.int .i64,.str,.slice 4 true 60]:=by kernel_rfl
abbrev shP:List Sh:=[.str,.str,.str,.int .i64,.int .i64,.int .i64,.int .i64,.slice 2 true 80,.bool,.int .i64,.int .i64,.bool,.slice 2 true 80,.bool,.int .i64,.int .i64,.bool,.slice 10 true 62,.slice 6 true 64]
theorem q7w:∀ {d:Nat} {xs:List AV},qgd (Fit maxLen (shT Tryz.prog) d) shX xs -> ∃ e:Ex,xs = [.int .i64 e.op,.int .i64 e.num,.str e.txt,.view 4 (EX e.args)]:=by
 intro d
 induction d with
 | zero=>
  intro xs h
  obtain ⟨_,_,rfl,h0,_⟩:=h
  exact h0.elim
 | succ d ih=>
  intro xs h
  obtain ⟨_,_,rfl,h0,_,_,rfl,h1,_,_,rfl,h2,_,_,rfl,h3,rfl⟩:=h
  obtain ⟨a,rfl,_⟩:=qaX h0
  obtain ⟨b,rfl,_⟩:=qaX h1
  obtain ⟨c,rfl,_⟩:=qfK h2
  obtain ⟨es,rfl,hlen,hall⟩:=h3
  obtain ⟨l,rfl,hl⟩:=qAf (f:=Ex.av) (p:=fun _=>True) (l:=es) fun e he=>by
   obtain ⟨xs,rfl,hf⟩:=hall e he
   rw [q30] at hf
   obtain ⟨y,rfl⟩:=ih hf
   exact ⟨y,(qiB y).symm,trivial⟩
  exact ⟨.mk a b c l,rfl⟩
theorem qZz {d:Nat} {x:AV} (h:Fit maxLen (shT Tryz.prog) d (.slice 4 true 60) x):∃ l:List Ex,x = .view 4 (EX l):=by
 obtain ⟨l,hl,_,_⟩:=qlu (av:=Ex.av) (p:=fun _=>True) h fun d xs hx=>by
  rw [q30] at hx
  obtain ⟨y,rfl⟩:=q7w hx
  exact ⟨y,(qiB y).symm,trivial⟩
 exact ⟨l,hl⟩
theorem q3c {d:Nat} {x:AV} (h:Fit maxLen (shT Tryz.prog) d (.slice 2 true 80) x):∃ l:List Tr,x = .view 2 (ETr l):=by
 obtain ⟨l,hl,_,_⟩:=qlu (av:=Tr.av) (p:=fun _=>True) h fun d xs hx=>by
  rw [q9o] at hx
  obtain ⟨_,_,rfl,h0,_,_,rfl,h1,rfl⟩:=hx
  obtain ⟨a,rfl,_⟩:=qaX h0
  obtain ⟨b,rfl,_⟩:=qaX h1
  exact ⟨⟨a,b⟩,rfl,trivial⟩
 exact ⟨l,hl⟩
theorem q7t {d:Nat} {x:AV} (h:Fit maxLen (shT Tryz.prog) d (.slice 10 true 62) x):∃ l:List Fe,x = .view 10 (EF l) /\ ∀ y ∈ l,y.name.length <= big:=by
 obtain ⟨l,hl,_,hp⟩:=qlu (av:=Fe.av) (p:=fun y=>y.name.length <= big) h fun d xs hx=>by
  rw [q9m] at hx
  obtain ⟨_,_,rfl,h0,_,_,rfl,h1,_,_,rfl,h2,_,_,rfl,h3,_,_,rfl,h4,_,_,rfl,h5,_,_,rfl,h6,_,_,rfl,h7,_,_,rfl,h8,_,_,rfl,h9,rfl⟩:=hx
  obtain ⟨a0,rfl,hn⟩:=qfK h0
  obtain ⟨a1,rfl,_⟩:=qaX h1
  obtain ⟨a2,rfl,_⟩:=qaX h2
  obtain ⟨a3,rfl,_⟩:=qaX h3
  obtain ⟨a4,rfl,_⟩:=qfK h4
  obtain ⟨a5,rfl⟩:=qZz h5
  obtain ⟨a6,rfl,_⟩:=qaX h6
  obtain ⟨a7,rfl,_⟩:=qaX h7
  obtain ⟨a8,rfl,_⟩:=qfK h8
  obtain ⟨a9,rfl⟩:=qZz h9
  exact ⟨⟨a0,a1,.mk a2 a3 a4 a5,.mk a6 a7 a8 a9⟩,rfl,hn⟩
 exact ⟨l,hl,hp⟩
theorem q7v {d:Nat} {x:AV} (h:Fit maxLen (shT Tryz.prog) d (.slice 6 true 64) x):∃ l:List Ru,x = .view 6 (ER l) /\ ∀ y ∈ l,y.name.length <= big:=by
 obtain ⟨l,hl,_,hp⟩:=qlu (av:=Ru.av) (p:=fun y=>y.name.length <= big) h fun d xs hx=>by
  rw [q9n] at hx
  obtain ⟨_,_,rfl,h0,_,_,rfl,h1,_,_,rfl,h2,_,_,rfl,h3,_,_,rfl,h4,_,_,rfl,h5,rfl⟩:=hx
  obtain ⟨a0,rfl,hn⟩:=qfK h0
  obtain ⟨a1,rfl,_⟩:=qaX h1
  obtain ⟨a2,rfl,_⟩:=qaX h2
  obtain ⟨a3,rfl,_⟩:=qaX h3
  obtain ⟨a4,rfl,_⟩:=qfK h4
  obtain ⟨a5,rfl⟩:=qZz h5
  exact ⟨⟨a0,a1,.mk a2 a3 a4 a5⟩,rfl,hn⟩
 exact ⟨l,hl,hp⟩
def prA (p:Pr):List AV:=[.str p.name,.str p.cur,.str p.cal,.int .i64 p.from_,.int .i64 p.every,.int .i64 p.over,.int .i64 p.tax,.view 2 (ETr p.cr.tiers),.bool p.cr.marg,.int .i64 p.cr.basis,.int .i64 p.cr.mode,.bool p.cr.keep,.view 2 (ETr p.de.tiers),.bool p.de.marg,.int .i64 p.de.basis,.int .i64 p.de.mode,.bool p.de.keep,.view 10 (EF p.fees),.view 6 (ER p.rules)]
theorem q7u {d:Nat} {xs:List AV} (h:qgd (Fit maxLen (shT Tryz.prog) d) shP xs):∃ p:Pr,xs = prA p /\ p.name.length <= big /\ (∀ y ∈ p.fees,y.name.length <= big) /\ ∀ y ∈ p.rules,y.name.length <= big:=by
 obtain ⟨_,_,rfl,h0,_,_,rfl,h1,_,_,rfl,h2,_,_,rfl,h3,_,_,rfl,h4,_,_,rfl,h5,_,_,rfl,h6,_,_,rfl,h7,_,_,rfl,h8,_,_,rfl,h9,_,_,rfl,h10,_,_,rfl,h11,_,_,rfl,h12,_,_,rfl,h13,_,_,rfl,h14,_,_,rfl,h15,_,_,rfl,h16,_,_,rfl,h17,_,_,rfl,h18,rfl⟩:=h
 obtain ⟨a0,rfl,hn⟩:=qfK h0
 obtain ⟨a1,rfl,_⟩:=qfK h1
 obtain ⟨a2,rfl,_⟩:=qfK h2
 obtain ⟨a3,rfl,_⟩:=qaX h3
 obtain ⟨a4,rfl,_⟩:=qaX h4
 obtain ⟨a5,rfl,_⟩:=qaX h5
 obtain ⟨a6,rfl,_⟩:=qaX h6
 obtain ⟨a7,rfl⟩:=q3c h7
 obtain ⟨a8,rfl⟩:=qls h8
 obtain ⟨a9,rfl,_⟩:=qaX h9
 obtain ⟨a10,rfl,_⟩:=qaX h10
 obtain ⟨a11,rfl⟩:=qls h11
 obtain ⟨a12,rfl⟩:=q3c h12
 obtain ⟨a13,rfl⟩:=qls h13
 obtain ⟨a14,rfl,_⟩:=qaX h14
 obtain ⟨a15,rfl,_⟩:=qaX h15
 obtain ⟨a16,rfl⟩:=qls h16
 obtain ⟨a17,rfl,hf⟩:=q7t h17
 obtain ⟨a18,rfl,hr⟩:=q7v h18
 exact ⟨⟨a0,a1,a2,a3,a4,a5,a6,⟨a7,a8,a9,a10,a11⟩,⟨a12,a13,a14,a15,a16⟩,a17,a18⟩,rfl,hn,hf,hr⟩
abbrev shE:List Sh:=[.int .i64,.int .i64,.int .i64,.int .i64,.int .i64,.int .i64,.int .i64]
theorem q0J {n:Int} (h:(Lit.int .i64 n).wf = true):qdQ n = true:=by
 simp only [Lit.wf,Bool.and_eq_true,decide_eq_true_eq] at h
 have h1:=h.1
 have h2:=h.2
 simp [IntKind.max,IntKind.min,IntKind.signed,IntKind.bits] at h1 h2
 unfold qdQ
 rw [decide_eq_true (by omega),decide_eq_true (by omega)]; rfl
theorem q7s {d:Nat} {xs:List AV} (h:qgd (Fit maxLen (shT Tryz.prog) d) shE xs):∃ b lo vo am co ag da:Int,xs = [.int .i64 b,.int .i64 lo,.int .i64 vo,.int .i64 am,.int .i64 co,.int .i64 ag,.int .i64 da] /\ ∀ x ∈ vlE b lo vo am co ag da,qdQ x.n = true:=by
 obtain ⟨_,_,rfl,h0,_,_,rfl,h1,_,_,rfl,h2,_,_,rfl,h3,_,_,rfl,h4,_,_,rfl,h5,_,_,rfl,h6,rfl⟩:=h
 obtain ⟨a0,rfl,w0⟩:=qaX h0
 obtain ⟨a1,rfl,w1⟩:=qaX h1
 obtain ⟨a2,rfl,w2⟩:=qaX h2
 obtain ⟨a3,rfl,w3⟩:=qaX h3
 obtain ⟨a4,rfl,w4⟩:=qaX h4
 obtain ⟨a5,rfl,w5⟩:=qaX h5
 obtain ⟨a6,rfl,w6⟩:=qaX h6
 refine ⟨a0,a1,a2,a3,a4,a5,a6,rfl,fun x hx=>?_⟩
 simp only [vlE,List.mem_cons,List.not_mem_nil,or_false] at hx
 rcases hx with rfl | rfl | rfl | rfl | rfl | rfl | rfl
 ·exact q0J w0
 ·exact q0J w1
 ·exact q0J w2
 ·exact q0J w3
 ·exact q0J w4
 ·exact q0J w5
 ·exact q0J w6
set_option maxHeartbeats 4000000 in
theorem law7 {d:Nat} {avs:List AV} (h:qXq (Fit maxLen (shT Tryz.prog) d) [(true,shP),(true,shE)] avs):qdH IP 7 avs [] = some (.ret (.bool true),[]):=by
 obtain ⟨xs,r,rfl,h0,ys,r',rfl,h1,rfl⟩:=h
 obtain ⟨p,rfl,hn,hf,hr⟩:=q7u h0
 obtain ⟨b,lo,vo,am,co,ag,da,rfl,h64⟩:=q7s h1
 have h:=qVg (p.name,p.cur,p.cal,p.from_,p.every,p.over,p.tax,ETr p.cr.tiers,p.cr.marg,p.cr.basis,p.cr.mode,p.cr.keep,ETr p.de.tiers,p.de.marg,p.de.basis,p.de.mode,p.de.keep,EF p.fees,ER p.rules,b,lo,vo,am,co,ag,da) true (qIF hn hf hr h64)
 have e:(aE qNu (p.name,p.cur,p.cal,p.from_,p.every,p.over,p.tax,ETr p.cr.tiers,p.cr.marg,p.cr.basis,p.cr.mode,p.cr.keep,ETr p.de.tiers,p.de.marg,p.de.basis,p.de.mode,p.de.keep,EF p.fees,ER p.rules,b,lo,vo,am,co,ag,da)) = [.agg (prA p),.agg [.int .i64 b,.int .i64 lo,.int .i64 vo,.int .i64 am,.int .i64 co,.int .i64 ag,.int .i64 da]]:=by kernel_rfl
 rw [e] at h
 exact h
end Go.Proofs.H15p

/- Chapter 53: from the machine to the rows. -/
import Derived.Test.YtpoebijgpbaccaaGreatX53zSi
import Derived.Test.YtpoebijgpbaccaaGreatP53z
import Derived.Test.YtpoebijgpbaccaaGreatE3
set_option linter.unusedVariables false
set_option linter.unusedSimpArgs false
set_option linter.unnecessarySimpa false
namespace Go.Proofs.H53z
open Go Go.Eng Go.Tk
set_option maxRecDepth 100000
abbrev shX:List Sh:=[.int .i64,.int .i64,.str,.slice 4 true 109]
theorem qTj:shT Tryz.prog 109 = shX:=by kernel_rfl
theorem qZ5:shT Tryz.prog 176 = [.int .i64,.int .i64]:=by kernel_rfl
theorem qZ1:shT Tryz.prog 111 = [.str,.int .i64,.int .i64,.int .i64,.str,.slice 4 true 109,.int .i64,.int .i64,.str,.slice 4 true 109]:=by kernel_rfl
theorem qZ2:shT Tryz.prog 114 = [.str,.int .i64,.int .i64,.int .i64,.str,.slice 4 true 109]:=by kernel_rfl
theorem q5o:shT Tryz.prog 92 = [.str,.int .i64]:=by kernel_rfl
theorem q5l:shT Tryz.prog 59 = [.str,.slice 1 false 3,.slice 1 false 3]:=by kernel_rfl
theorem q5p:shT Tryz.prog 94 = [.int .i64,.int .i64,.int .i64,.str]:=by kernel_rfl
theorem q5j:shT Tryz.prog 46 = [.int .i64,.int .i64,.int .i64,.int .i64,.str,.str,.str]:=by kernel_rfl
theorem q5k:shT Tryz.prog 52 = [.int .i64,.int .i64,.int .i64,.int .i64,.int .i64,.int .i64,.str,.str,.slice 3 true 77,.int .u64]:=by kernel_rfl
theorem q5n:shT Tryz.prog 77 = [.int .i64,.int .i64,.str]:=by kernel_rfl
theorem qZ3:shT Tryz.prog 121 = [.int .i64,.int .i64,.int .i64,.int .i64,.int .i64,.str]:=by kernel_rfl
theorem qZ4:shT Tryz.prog 125 = [.int .i64,.int .i64,.int .i64,.int .i64,.int .i64,.int .i64,.str]:=by kernel_rfl
theorem q8f:shT Tryz.prog 3 = [.int .i64]:=by kernel_rfl
abbrev shP:List Sh:=[.str,.str,.str,.int .i64,.int .i64,.int .i64,.int .i64,.slice 2 true 176,.bool,.int .i64,.int .i64,.bool,.slice 2 true 176,.bool,.int .i64,.int .i64,.bool,.slice 10 true 111,.slice 6 true 114]
theorem q5m:shT Tryz.prog 67 = shP:=by kernel_rfl
theorem q3V:∀ {d:Nat} {xs:List AV},qgw (Fit maxLen (shT Tryz.prog) d) shX xs -> ∃ e:Ex,xs = [.int .i64 e.op,.int .i64 e.num,.str e.txt,.view 4 (EX e.args)] /\ Wd e:=by
 intro d
 induction d with
 | zero=>
  intro xs h
  obtain ⟨_,_,rfl,h0,_⟩:=h
  exact h0.elim
 | succ d ih=>
  intro xs h
  obtain ⟨_,_,rfl,h0,_,_,rfl,h1,_,_,rfl,h2,_,_,rfl,h3,rfl⟩:=h
  obtain ⟨a,rfl,_⟩:=qar h0
  obtain ⟨b,rfl,_⟩:=qar h1
  obtain ⟨c,rfl,_⟩:=qbt h2
  obtain ⟨es,rfl,hlen,hall⟩:=h3
  obtain ⟨l,rfl,hl⟩:=qqw (f:=Ex.av) (p:=Wd) (l:=es) fun e he=>by
   obtain ⟨xs,rfl,hf⟩:=hall e he
   rw [qTj] at hf
   obtain ⟨y,rfl,hy⟩:=ih hf
   exact ⟨y,(qhM y).symm,hy⟩
  refine ⟨.mk a b c l,rfl,?_⟩
  rw [Wd,Ex.allX_eq,Bool.and_eq_true,List.all_eq_true]
  exact ⟨decide_eq_true (Nat.le_trans (show l.length <= maxLen by simpa using hlen) (by decide)),hl⟩
theorem qU5 {d:Nat} {x:AV} (h:Fit maxLen (shT Tryz.prog) d (.slice 4 true 109) x):∃ l:List Ex,x = .view 4 (EX l) /\ ∀ o n s,Wd (.mk o n s l):=by
 obtain ⟨l,hl,h1,h2⟩:=qbW (av:=Ex.av) (p:=Wd) h fun d xs hx=>by
  rw [qTj] at hx
  obtain ⟨y,rfl,hy⟩:=q3V hx
  exact ⟨y,(qhM y).symm,hy⟩
 refine ⟨l,hl,fun o n s=>?_⟩
 rw [Wd,Ex.allX_eq,Bool.and_eq_true,List.all_eq_true]
 exact ⟨decide_eq_true h1,h2⟩
theorem qYM {d:Nat} {x:AV} (h:Fit maxLen (shT Tryz.prog) d (.slice 2 true 176) x):∃ l:List Tr,x = .view 2 (ETr l) /\ l.length <= 9223372036854775807:=by
 obtain ⟨l,hl,h1,_⟩:=qbW (av:=Tr.av) (p:=fun _=>True) h fun d xs hx=>by
  rw [qZ5] at hx
  obtain ⟨_,_,rfl,h0,_,_,rfl,h1,rfl⟩:=hx
  obtain ⟨a,rfl,_⟩:=qar h0
  obtain ⟨b,rfl,_⟩:=qar h1
  exact ⟨⟨a,b⟩,rfl,trivial⟩
 exact ⟨l,hl,h1⟩
theorem q3L {d:Nat} {x:AV} (h:Fit maxLen (shT Tryz.prog) d (.slice 10 true 111) x):∃ l:List Fe,x = .view 10 (EF l) /\ l.length <= 9223372036854775807 /\ ∀ x ∈ l,FeW x:=by
 obtain ⟨l,hl,h1,h2⟩:=qbW (av:=Fe.av) (p:=FeW) h fun d xs hx=>by
  rw [qZ1] at hx
  obtain ⟨_,_,rfl,h0,_,_,rfl,h1,_,_,rfl,h2,_,_,rfl,h3,_,_,rfl,h4,_,_,rfl,h5,_,_,rfl,h6,_,_,rfl,h7,_,_,rfl,h8,_,_,rfl,h9,rfl⟩:=hx
  obtain ⟨a0,rfl,_⟩:=qbt h0
  obtain ⟨a1,rfl,_⟩:=qar h1
  obtain ⟨a2,rfl,_⟩:=qar h2
  obtain ⟨a3,rfl,_⟩:=qar h3
  obtain ⟨a4,rfl,_⟩:=qbt h4
  obtain ⟨a5,rfl,w5⟩:=qU5 h5
  obtain ⟨a6,rfl,_⟩:=qar h6
  obtain ⟨a7,rfl,_⟩:=qar h7
  obtain ⟨a8,rfl,_⟩:=qbt h8
  obtain ⟨a9,rfl,w9⟩:=qU5 h9
  exact ⟨⟨a0,a1,.mk a2 a3 a4 a5,.mk a6 a7 a8 a9⟩,rfl,w5 _ _ _,w9 _ _ _⟩
 exact ⟨l,hl,h1,h2⟩
theorem q3T {d:Nat} {x:AV} (h:Fit maxLen (shT Tryz.prog) d (.slice 6 true 114) x):∃ l:List Ru,x = .view 6 (ER l) /\ l.length <= 9223372036854775807 /\ ∀ x ∈ l,Wd x.amount:=by
 obtain ⟨l,hl,h1,h2⟩:=qbW (av:=Ru.av) (p:=fun x=>Wd x.amount) h fun d xs hx=>by
  rw [qZ2] at hx
  obtain ⟨_,_,rfl,h0,_,_,rfl,h1,_,_,rfl,h2,_,_,rfl,h3,_,_,rfl,h4,_,_,rfl,h5,rfl⟩:=hx
  obtain ⟨a0,rfl,_⟩:=qbt h0
  obtain ⟨a1,rfl,_⟩:=qar h1
  obtain ⟨a2,rfl,_⟩:=qar h2
  obtain ⟨a3,rfl,_⟩:=qar h3
  obtain ⟨a4,rfl,_⟩:=qbt h4
  obtain ⟨a5,rfl,w5⟩:=qU5 h5
  exact ⟨⟨a0,a1,.mk a2 a3 a4 a5⟩,rfl,w5 _ _ _⟩
 exact ⟨l,hl,h1,h2⟩
theorem q3S {d:Nat} {x:AV} (h:Fit maxLen (shT Tryz.prog) d (.slice 19 true 67) x):∃ l:List Pr,x = .view 19 (EPr l) /\ ∀ p ∈ l,PrB p:=by
 obtain ⟨l,hl,_,h2⟩:=qbW (av:=Pr.av) (p:=PrB) h fun d xs hx=>by
  rw [q5m] at hx
  obtain ⟨_,_,rfl,h0,_,_,rfl,h1,_,_,rfl,h2,_,_,rfl,h3,_,_,rfl,h4,_,_,rfl,h5,_,_,rfl,h6,_,_,rfl,h7,_,_,rfl,h8,_,_,rfl,h9,_,_,rfl,h10,_,_,rfl,h11,_,_,rfl,h12,_,_,rfl,h13,_,_,rfl,h14,_,_,rfl,h15,_,_,rfl,h16,_,_,rfl,h17,_,_,rfl,h18,rfl⟩:=hx
  obtain ⟨a0,rfl,_⟩:=qbt h0
  obtain ⟨a1,rfl,_⟩:=qbt h1
  obtain ⟨a2,rfl,_⟩:=qbt h2
  obtain ⟨a3,rfl,_⟩:=qar h3
  obtain ⟨a4,rfl,_⟩:=qar h4
  obtain ⟨a5,rfl,_⟩:=qar h5
  obtain ⟨a6,rfl,_⟩:=qar h6
  obtain ⟨a7,rfl,w7⟩:=qYM h7
  obtain ⟨a8,rfl⟩:=qjV h8
  obtain ⟨a9,rfl,_⟩:=qar h9
  obtain ⟨a10,rfl,_⟩:=qar h10
  obtain ⟨a11,rfl⟩:=qjV h11
  obtain ⟨a12,rfl,w12⟩:=qYM h12
  obtain ⟨a13,rfl⟩:=qjV h13
  obtain ⟨a14,rfl,_⟩:=qar h14
  obtain ⟨a15,rfl,_⟩:=qar h15
  obtain ⟨a16,rfl⟩:=qjV h16
  obtain ⟨a17,rfl,w17,v17⟩:=q3L h17
  obtain ⟨a18,rfl,w18,v18⟩:=q3T h18
  exact ⟨⟨a0,a1,a2,a3,a4,a5,a6,⟨a7,a8,a9,a10,a11⟩,⟨a12,a13,a14,a15,a16⟩,a17,a18⟩,rfl,⟨w7,w12,w17,w18,v17,v18⟩⟩
 exact ⟨l,hl,h2⟩
theorem qYL {d:Nat} {x:AV} (h:Fit maxLen (shT Tryz.prog) d (.slice 1 false 3) x):∃ l:List Int,x = .view 1 (EIn l) /\ l.length <= 9223372036854775807:=by
 cases d with
 | zero=>exact h.elim
 | succ d=>
  obtain ⟨es,rfl,hlen,hall⟩:=h
  obtain ⟨m,rfl,_⟩:=qqw (f:=AV.int IntKind.i64) (p:=fun _=>True) (l:=es) fun e he=>by
   have h:=hall e he
   rw [q8f] at h
   obtain ⟨_,_,e1,h0,rfl⟩:=h
   cases e1
   obtain ⟨n,rfl,_⟩:=qar h0
   exact ⟨n,rfl,trivial⟩
  exact ⟨m,rfl,Nat.le_trans (by simpa using hlen) (by decide)⟩
theorem q3K {d:Nat} {x:AV} (h:Fit maxLen (shT Tryz.prog) d (.slice 2 true 92) x):∃ l:List Cu,x = .view 2 (EC l):=by
 obtain ⟨l,hl,_⟩:=qbW (av:=Cu.av) (p:=fun _=>True) h fun d xs hx=>by
  rw [q5o] at hx
  obtain ⟨_,_,rfl,h0,_,_,rfl,h1,rfl⟩:=hx
  obtain ⟨a,rfl,_⟩:=qbt h0
  obtain ⟨b,rfl,_⟩:=qar h1
  exact ⟨⟨a,b⟩,rfl,trivial⟩
 exact ⟨l,hl⟩
theorem q3P {d:Nat} {x:AV} (h:Fit maxLen (shT Tryz.prog) d (.slice 3 true 59) x):∃ l:List Cal,x = .view 3 (Tk.EK l) /\ ∀ c ∈ l,∃ ws hs:List Int,c.wk = EIn ws /\ c.hol = EIn hs /\ ws.length <= 9223372036854775807 /\ hs.length <= 9223372036854775807:=by
 obtain ⟨l,hl,_,h2⟩:=qbW (av:=Cal.av) (p:=fun c=>∃ ws hs:List Int,c.wk = EIn ws /\ c.hol = EIn hs /\ ws.length <= 9223372036854775807 /\ hs.length <= 9223372036854775807) h fun d xs hx=>by
  rw [q5l] at hx
  obtain ⟨_,_,rfl,h0,_,_,rfl,h1,_,_,rfl,h2,rfl⟩:=hx
  obtain ⟨a,rfl,_⟩:=qbt h0
  obtain ⟨b,rfl,hb⟩:=qYL h1
  obtain ⟨c,rfl,hc⟩:=qYL h2
  exact ⟨⟨a,EIn b,EIn c⟩,rfl,b,c,rfl,rfl,hb,hc⟩
 exact ⟨l,hl,h2⟩
theorem q3M {d:Nat} {x:AV} (h:Fit maxLen (shT Tryz.prog) d (.slice 4 true 94) x):∃ l:List Gl,x = .view 4 (EGl l):=by
 obtain ⟨l,hl,_⟩:=qbW (av:=Gl.av) (p:=fun _=>True) h fun d xs hx=>by
  rw [q5p] at hx
  obtain ⟨_,_,rfl,h0,_,_,rfl,h1,_,_,rfl,h2,_,_,rfl,h3,rfl⟩:=hx
  obtain ⟨a,rfl,_⟩:=qar h0
  obtain ⟨b,rfl,_⟩:=qar h1
  obtain ⟨c,rfl,_⟩:=qar h2
  obtain ⟨e,rfl,_⟩:=qbt h3
  exact ⟨⟨a,b,c,e⟩,rfl,trivial⟩
 exact ⟨l,hl⟩
theorem q3U {d:Nat} {x:AV} (h:Fit maxLen (shT Tryz.prog) d (.slice 7 true 46) x):∃ l:List Tk.Acc,x = .view 7 (EAc l):=by
 obtain ⟨l,hl,_⟩:=qbW (av:=Tk.Acc.av) (p:=fun _=>True) h fun d xs hx=>by
  rw [q5j] at hx
  obtain ⟨_,_,rfl,h0,_,_,rfl,h1,_,_,rfl,h2,_,_,rfl,h3,_,_,rfl,h4,_,_,rfl,h5,_,_,rfl,h6,rfl⟩:=hx
  obtain ⟨a0,rfl,_⟩:=qar h0
  obtain ⟨a1,rfl,_⟩:=qar h1
  obtain ⟨a2,rfl,_⟩:=qar h2
  obtain ⟨a3,rfl,_⟩:=qar h3
  obtain ⟨a4,rfl,_⟩:=qbt h4
  obtain ⟨a5,rfl,_⟩:=qbt h5
  obtain ⟨a6,rfl,_⟩:=qbt h6
  exact ⟨⟨a0,a1,a2,a3,a4,a5,a6⟩,rfl,trivial⟩
 exact ⟨l,hl⟩
theorem q3Q {d:Nat} {x:AV} (h:Fit maxLen (shT Tryz.prog) d (.slice 3 true 77) x):∃ l:List Leg,x = .view 3 (ELg l):=by
 obtain ⟨l,hl,_⟩:=qbW (av:=Leg.av) (p:=fun _=>True) h fun d xs hx=>by
  rw [q5n] at hx
  obtain ⟨_,_,rfl,h0,_,_,rfl,h1,_,_,rfl,h2,rfl⟩:=hx
  obtain ⟨a0,rfl,_⟩:=qar h0
  obtain ⟨a1,rfl,_⟩:=qar h1
  obtain ⟨a2,rfl,_⟩:=qbt h2
  exact ⟨⟨a0,a1,a2⟩,rfl,trivial⟩
 exact ⟨l,hl⟩
theorem q3O {d:Nat} {x:AV} (h:Fit maxLen (shT Tryz.prog) d (.slice 10 true 52) x):∃ l:List Enr,x = .view 10 (EJr l) /\ ∀ x ∈ l,x.key.length <= 9223372036854775807 /\ x.text.length <= 9223372036854775807:=by
 obtain ⟨l,hl,_,h2⟩:=qbW (av:=Enr.av) (p:=fun x=>x.key.length <= 9223372036854775807 /\ x.text.length <= 9223372036854775807) h fun d xs hx=>by
  rw [q5k] at hx
  obtain ⟨_,_,rfl,h0,_,_,rfl,h1,_,_,rfl,h2,_,_,rfl,h3,_,_,rfl,h4,_,_,rfl,h5,_,_,rfl,h6,_,_,rfl,h7,_,_,rfl,h8,_,_,rfl,h9,rfl⟩:=hx
  obtain ⟨a0,rfl,_⟩:=qar h0
  obtain ⟨a1,rfl,_⟩:=qar h1
  obtain ⟨a2,rfl,_⟩:=qar h2
  obtain ⟨a3,rfl,_⟩:=qar h3
  obtain ⟨a4,rfl,_⟩:=qar h4
  obtain ⟨a5,rfl,_⟩:=qar h5
  obtain ⟨a6,rfl,w6⟩:=qbt h6
  obtain ⟨a7,rfl,w7⟩:=qbt h7
  obtain ⟨a8,rfl⟩:=q3Q h8
  obtain ⟨a9,rfl,_⟩:=qar h9
  exact ⟨⟨a0,a1,a2,a3,a4,a5,a6,a7,a8,a9⟩,rfl,w6,w7⟩
 exact ⟨l,hl,h2⟩
theorem q3N {d:Nat} {x:AV} (h:Fit maxLen (shT Tryz.prog) d (.slice 6 true 121) x):∃ l:List Hol,x = .view 6 (EHo l) /\ ∀ h ∈ l,h.key.length <= 9223372036854775807:=by
 obtain ⟨l,hl,_,h2⟩:=qbW (av:=Hol.av) (p:=fun x=>x.key.length <= 9223372036854775807) h fun d xs hx=>by
  rw [qZ3] at hx
  obtain ⟨_,_,rfl,h0,_,_,rfl,h1,_,_,rfl,h2,_,_,rfl,h3,_,_,rfl,h4,_,_,rfl,h5,rfl⟩:=hx
  obtain ⟨a0,rfl,_⟩:=qar h0
  obtain ⟨a1,rfl,_⟩:=qar h1
  obtain ⟨a2,rfl,_⟩:=qar h2
  obtain ⟨a3,rfl,_⟩:=qar h3
  obtain ⟨a4,rfl,_⟩:=qar h4
  obtain ⟨a5,rfl,w5⟩:=qbt h5
  exact ⟨⟨a0,a1,a2,a3,a4,a5⟩,rfl,w5⟩
 exact ⟨l,hl,h2⟩
theorem q3R {d:Nat} {x:AV} (h:Fit maxLen (shT Tryz.prog) d (.slice 7 true 125) x):∃ l:List Blo,x = .view 7 (EBl l):=by
 obtain ⟨l,hl,_⟩:=qbW (av:=Blo.av) (p:=fun _=>True) h fun d xs hx=>by
  rw [qZ4] at hx
  obtain ⟨_,_,rfl,h0,_,_,rfl,h1,_,_,rfl,h2,_,_,rfl,h3,_,_,rfl,h4,_,_,rfl,h5,_,_,rfl,h6,rfl⟩:=hx
  obtain ⟨a0,rfl,_⟩:=qar h0
  obtain ⟨a1,rfl,_⟩:=qar h1
  obtain ⟨a2,rfl,_⟩:=qar h2
  obtain ⟨a3,rfl,_⟩:=qar h3
  obtain ⟨a4,rfl,_⟩:=qar h4
  obtain ⟨a5,rfl,_⟩:=qar h5
  obtain ⟨a6,rfl,_⟩:=qbt h6
  exact ⟨⟨a0,a1,a2,a3,a4,a5,a6⟩,rfl,trivial⟩
 exact ⟨l,hl⟩
abbrev shB:List Sh:=[.slice 2 true 92,.slice 3 true 59,.slice 4 true 94,.int .i64,.int .i64,.int .i64,.int .i64,.int .i64,.int .i64,.int .i64,.int .i64,.int .i64,.int .i64,.int .i64,.int .i64,.int .i64,.int .i64,.slice 19 true 67,.slice 7 true 46,.slice 10 true 52,.slice 6 true 121,.slice 7 true 125]
theorem qYK {d:Nat} {xs:List AV} (h:qgw (Fit maxLen (shT Tryz.prog) d) shB xs):∃ (cu:List Cu) (ca:List Cal) (ch:List Gl) (a3 a4 a5 a6 a7 a8 a9 a10 a11 a12 a13 a14 a15 a16:Int) (pr:List Pr) (ac:List Tk.Acc) (jr:List Enr) (ho:List Hol) (bl:List Blo),
  xs = [.view 2 (EC cu),.view 3 (Tk.EK ca),.view 4 (EGl ch),.int .i64 a3,.int .i64 a4,.int .i64 a5,.int .i64 a6,.int .i64 a7,.int .i64 a8,.int .i64 a9,.int .i64 a10,.int .i64 a11,.int .i64 a12,.int .i64 a13,.int .i64 a14,.int .i64 a15,.int .i64 a16,.view 19 (EPr pr),.view 7 (EAc ac),.view 10 (EJr jr),.view 6 (EHo ho),.view 7 (EBl bl)] /\ BkF ca pr jr ho:=by
 obtain ⟨_,_,rfl,h0,_,_,rfl,h1,_,_,rfl,h2,_,_,rfl,h3,_,_,rfl,h4,_,_,rfl,h5,_,_,rfl,h6,_,_,rfl,h7,_,_,rfl,h8,_,_,rfl,h9,_,_,rfl,h10,_,_,rfl,h11,_,_,rfl,h12,_,_,rfl,h13,_,_,rfl,h14,_,_,rfl,h15,_,_,rfl,h16,_,_,rfl,h17,_,_,rfl,h18,_,_,rfl,h19,_,_,rfl,h20,_,_,rfl,h21,rfl⟩:=h
 obtain ⟨cu,rfl⟩:=q3K h0
 obtain ⟨ca,rfl,q1⟩:=q3P h1
 obtain ⟨ch,rfl⟩:=q3M h2
 obtain ⟨a3,rfl,_⟩:=qar h3
 obtain ⟨a4,rfl,_⟩:=qar h4
 obtain ⟨a5,rfl,_⟩:=qar h5
 obtain ⟨a6,rfl,_⟩:=qar h6
 obtain ⟨a7,rfl,_⟩:=qar h7
 obtain ⟨a8,rfl,_⟩:=qar h8
 obtain ⟨a9,rfl,_⟩:=qar h9
 obtain ⟨a10,rfl,_⟩:=qar h10
 obtain ⟨a11,rfl,_⟩:=qar h11
 obtain ⟨a12,rfl,_⟩:=qar h12
 obtain ⟨a13,rfl,_⟩:=qar h13
 obtain ⟨a14,rfl,_⟩:=qar h14
 obtain ⟨a15,rfl,_⟩:=qar h15
 obtain ⟨a16,rfl,_⟩:=qar h16
 obtain ⟨pr,rfl,q17⟩:=q3S h17
 obtain ⟨ac,rfl⟩:=q3U h18
 obtain ⟨jr,rfl,q19⟩:=q3O h19
 obtain ⟨ho,rfl,q20⟩:=q3N h20
 obtain ⟨bl,rfl⟩:=q3R h21
 exact ⟨cu,ca,ch,a3,a4,a5,a6,a7,a8,a9,a10,a11,a12,a13,a14,a15,a16,pr,ac,jr,ho,bl,rfl,q17,q1,q19,q20⟩
set_option maxHeartbeats 4000000 in
theorem q8A {d:Nat} {avs:List AV} (h:Eng.FitP (Fit maxLen (shT Tryz.prog) d) [(true,shB),(false,[.int .i64]),(false,[.int .i64])] avs):qbU IP 3 avs [] = some (.ret (.bool true),[]):=by
 obtain ⟨xs,r,rfl,h0,y,r',rfl,⟨_,_,e1,h1,rfl⟩,z,r'',rfl,⟨_,_,e2,h2,rfl⟩,rfl⟩:=h
 cases e1; cases e2
 obtain ⟨cu,ca,ch,a3,a4,a5,a6,a7,a8,a9,a10,a11,a12,a13,a14,a15,a16,pr,ac,jr,ho,bl,rfl,hB⟩:=qYK h0
 obtain ⟨day,rfl,_⟩:=qar h1
 obtain ⟨lm,rfl,_⟩:=qar h2
 have h:=qYs (EC cu,Tk.EK ca,EGl ch,a3,a4,a5,a6,a7,a8,a9,a10,a11,a12,a13,a14,a15,a16,EPr pr,EAc ac,EJr jr,EHo ho,EBl bl,day,lm) true (qFE hB day lm)
 have e:(aE qVx (EC cu,Tk.EK ca,EGl ch,a3,a4,a5,a6,a7,a8,a9,a10,a11,a12,a13,a14,a15,a16,EPr pr,EAc ac,EJr jr,EHo ho,EBl bl,day,lm)) = [.agg [.view 2 (EC cu),.view 3 (Tk.EK ca),.view 4 (EGl ch),.int .i64 a3,.int .i64 a4,.int .i64 a5,.int .i64 a6,.int .i64 a7,.int .i64 a8,.int .i64 a9,.int .i64 a10,.int .i64 a11,.int .i64 a12,.int .i64 a13,.int .i64 a14,.int .i64 a15,.int .i64 a16,.view 19 (EPr pr),.view 7 (EAc ac),.view 10 (EJr jr),.view 6 (EHo ho),.view 7 (EBl bl)],.int .i64 day,.int .i64 lm]:=by kernel_rfl
 rw [e] at h
 exact h
set_option maxHeartbeats 4000000 in
theorem law4 {d:Nat} {avs:List AV} (h:Eng.FitP (Fit maxLen (shT Tryz.prog) d) [(true,shB),(false,[.int .i64]),(false,[.int .i64])] avs):qbU IP 4 avs [] = some (.ret (.bool true),[]):=by
 obtain ⟨xs,r,rfl,h0,y,r',rfl,⟨_,_,e1,h1,rfl⟩,z,r'',rfl,⟨_,_,e2,h2,rfl⟩,rfl⟩:=h
 cases e1; cases e2
 obtain ⟨cu,ca,ch,a3,a4,a5,a6,a7,a8,a9,a10,a11,a12,a13,a14,a15,a16,pr,ac,jr,ho,bl,rfl,hB⟩:=qYK h0
 obtain ⟨day,rfl,_⟩:=qar h1
 obtain ⟨lm,rfl,_⟩:=qar h2
 have h:=qRN (EC cu,Tk.EK ca,EGl ch,a3,a4,a5,a6,a7,a8,a9,a10,a11,a12,a13,a14,a15,a16,EPr pr,EAc ac,EJr jr,EHo ho,EBl bl,day,lm) true (qAG hB day lm)
 have e:(aE qIQ (EC cu,Tk.EK ca,EGl ch,a3,a4,a5,a6,a7,a8,a9,a10,a11,a12,a13,a14,a15,a16,EPr pr,EAc ac,EJr jr,EHo ho,EBl bl,day,lm)) = [.agg [.view 2 (EC cu),.view 3 (Tk.EK ca),.view 4 (EGl ch),.int .i64 a3,.int .i64 a4,.int .i64 a5,.int .i64 a6,.int .i64 a7,.int .i64 a8,.int .i64 a9,.int .i64 a10,.int .i64 a11,.int .i64 a12,.int .i64 a13,.int .i64 a14,.int .i64 a15,.int .i64 a16,.view 19 (EPr pr),.view 7 (EAc ac),.view 10 (EJr jr),.view 6 (EHo ho),.view 7 (EBl bl)],.int .i64 day,.int .i64 lm]:=by kernel_rfl
 rw [e] at h
 exact h
end Go.Proofs.H53z

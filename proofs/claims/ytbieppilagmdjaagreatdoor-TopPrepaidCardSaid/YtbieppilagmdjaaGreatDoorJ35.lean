/- TopPrepaid: from the machine to the row. -/
import Derived.Test.YtbieppilagmdjaaGreatDoorX35Lf
import Derived.Test.YtbieppilagmdjaaGreatDoorQ35d
import Derived.Test.YtbieppilagmdjaaGreatDoorG35
import Derived.Test.YtbieppilagmdjaaGreatDoorE3
set_option linter.unusedVariables false
set_option linter.unusedSimpArgs false
set_option linter.unnecessarySimpa false
namespace Go.Proofs.H35
open Go Go.Eng Go.Tk
set_option maxRecDepth 100000
abbrev shM:List Sh:=[.int .i64,.int .i64,.int .i64,.int .i64,.int .i64,.int .i64,.int .i64,.int .i64,.int .i64,.int .i64,.str,.str]
abbrev shK:List Sh:=[.str,.slice 1 false 3,.slice 1 false 3]
theorem q5c:shT Tryz.prog 3 = [.int .i64]:=by kernel_rfl
theorem qSh {d:Nat} {x:AV} (h:Fit maxLen (shT Tryz.prog) d (.slice 1 false 3) x):∃ l:List Int,x = .view 1 (EIn l):=by
 cases d with
 | zero=>exact h.elim
 | succ d=>
  obtain ⟨es,rfl,hl,hx⟩:=h
  obtain ⟨m,rfl,_⟩:=qBG (f:=AV.int IntKind.i64) (p:=fun _=>True) (l:=es) fun e he=>by
   have h:=hx e he
   rw [q5c] at h
   obtain ⟨_,_,e1,h0,rfl⟩:=h
   cases e1
   obtain ⟨n,rfl,_⟩:=qcK h0
   exact ⟨n,rfl,trivial⟩
  exact ⟨m,rfl⟩
set_option maxHeartbeats 4000000 in
theorem law3 {d:Nat} {avs:List AV} (h:qMA (Fit maxLen (shT Tryz.prog) d) [(true,shM),(true,shK),(false,[.int .u8])] avs):qal IP 3 avs [] = some (.ret (.bool true),[]):=by
 obtain ⟨xs,r,rfl,h0,ys,r',rfl,h1,z,r'',rfl,⟨_,_,e2,h2,rfl⟩,rfl⟩:=h
 cases e2
 obtain ⟨_,_,rfl,g0,_,_,rfl,g1,_,_,rfl,g2,_,_,rfl,g3,_,_,rfl,g4,_,_,rfl,g5,_,_,rfl,g6,_,_,rfl,g7,_,_,rfl,g8,_,_,rfl,g9,_,_,rfl,g10,_,_,rfl,g11,rfl⟩:=h0
 obtain ⟨_,_,rfl,k0,_,_,rfl,k1,_,_,rfl,k2,rfl⟩:=h1
 obtain ⟨x0,rfl,_⟩:=qcK g0
 obtain ⟨x1,rfl,_⟩:=qcK g1
 obtain ⟨x2,rfl,_⟩:=qcK g2
 obtain ⟨x3,rfl,_⟩:=qcK g3
 obtain ⟨x4,rfl,_⟩:=qcK g4
 obtain ⟨x5,rfl,_⟩:=qcK g5
 obtain ⟨x6,rfl,_⟩:=qcK g6
 obtain ⟨x7,rfl,_⟩:=qcK g7
 obtain ⟨x8,rfl,_⟩:=qcK g8
 obtain ⟨x9,rfl,_⟩:=qcK g9
 obtain ⟨c,rfl,_⟩:=qsI g10
 obtain ⟨u,rfl,_⟩:=qsI g11
 obtain ⟨s,rfl,_⟩:=qsI k0
 obtain ⟨ws,rfl⟩:=qSh k1
 obtain ⟨hs,rfl⟩:=qSh k2
 obtain ⟨b,rfl,hb⟩:=qcK h2
 simp only [Lit.wf,Bool.and_eq_true,decide_eq_true_eq] at hb
 obtain ⟨hb1,hb2⟩:=hb
 simp [IntKind.max,IntKind.min,IntKind.signed,IntKind.bits] at hb1 hb2
 obtain ⟨n,hn,hn2⟩:∃ n:Nat,b = n /\ n <= 255:=⟨b.toNat,by omega,by omega⟩
 subst hn
 obtain ⟨r,hr,rfl⟩:=qT5 qOn x0 x1 x2 x3 x4 x5 x6 x7 x8 x9 c u s ws hs hn2
 have h:=qJK (x0,x1,x2,x3,x4,x5,x6,x7,x8,x9,c,u,s,EIn ws,EIn hs,(n:Int)) true hr
 generalize EIn ws = W at h ⊢
 generalize EIn hs = H at h ⊢
 generalize (n:Int) = N at h ⊢
 have e:(qal IP 3 (aE qvI (x0,x1,x2,x3,x4,x5,x6,x7,x8,x9,c,u,s,W,H,N)) (aH qvI (x0,x1,x2,x3,x4,x5,x6,x7,x8,x9,c,u,s,W,H,N)) = some (rE qD1 true)) = (qal IP 3 [.agg [.int .i64 x0,.int .i64 x1,.int .i64 x2,.int .i64 x3,.int .i64 x4,.int .i64 x5,.int .i64 x6,.int .i64 x7,.int .i64 x8,.int .i64 x9,.str c,.str u],.agg [.str s,.view 1 W,.view 1 H],.int .u8 N] [] = some (.ret (.bool true),[])):=by kernel_rfl
 exact e.mp h
end Go.Proofs.H35

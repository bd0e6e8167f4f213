/- Chapter 10: from the machine to the rows. -/
import Derived.Test.YtgpbobelbcbcaaaGreatDoorX10L
import Derived.Test.YtgpbobelbcbcaaaGreatDoorG10
import Derived.Test.YtgpbobelbcbcaaaGreatDoorE3
set_option linter.unusedVariables false
set_option linter.unusedSimpArgs false
set_option linter.unnecessarySimpa false
namespace Go.Proofs.H10
open Go Go.Eng Go.Tk Go.Shelf
set_option maxRecDepth 100000
abbrev shX:List Sh:=[.int .i64,.int .i64,.str,.slice 4 true 27]
theorem q0f:Eng.shT Tryz.prog 27 = shX:=by kernel_rfl
theorem q0g:Eng.shT Tryz.prog 44 = [.int .i64,.int .i64,.str]:=by kernel_rfl
theorem qVy {d:Nat} {x:AV} (h:Fit maxLen (Eng.shT Tryz.prog) d (.slice 3 true 44) x):∃ l:List Tok,x = .view 3 (ET l) /\ l.length <= big:=by
 obtain ⟨l,hl,h1,_⟩:=qKt (av:=Tok.av) (p:=fun _=>True) h fun d xs hx=>by
  rw [q0g] at hx
  obtain ⟨_,_,rfl,h0,_,_,rfl,h1,_,_,rfl,h2,rfl⟩:=hx
  obtain ⟨a,rfl,_⟩:=qmZ h0
  obtain ⟨b,rfl,_⟩:=qmZ h1
  obtain ⟨c,rfl,_⟩:=qET h2
  exact ⟨⟨a,b,c⟩,rfl,trivial⟩
 exact ⟨l,hl,h1⟩
theorem qES:∀ {d:Nat} {xs:List AV},qhU (Fit maxLen (Eng.shT Tryz.prog) d) shX xs -> ∃ e:Ex,xs = [.int .i64 e.op,.int .i64 e.num,.str e.txt,.view 4 (EX e.args)] /\ Wd e:=by
 intro d
 induction d with
 | zero=>
  intro xs h
  obtain ⟨_,_,rfl,h0,_⟩:=h
  exact h0.elim
 | succ d ih=>
  intro xs h
  obtain ⟨_,_,rfl,h0,_,_,rfl,h1,_,_,rfl,h2,_,_,rfl,h3,rfl⟩:=h
  obtain ⟨a,rfl,_⟩:=qmZ h0
  obtain ⟨b,rfl,_⟩:=qmZ h1
  obtain ⟨c,rfl,_⟩:=qET h2
  obtain ⟨es,rfl,hlen,hall⟩:=h3
  obtain ⟨l,rfl,hl⟩:=qw5 (f:=Ex.av) (p:=Wd) (l:=es) fun e he=>by
   obtain ⟨xs,rfl,hf⟩:=hall e he
   rw [q0f] at hf
   obtain ⟨y,rfl,hy⟩:=ih hf
   exact ⟨y,(qk0 y).symm,hy⟩
  refine ⟨.mk a b c l,rfl,?_⟩
  rw [Wd,Ex.allX_eq,Bool.and_eq_true,List.all_eq_true]
  exact ⟨decide_eq_true (Nat.le_trans (show l.length <= maxLen by simpa using hlen) (by decide)),hl⟩
theorem q26 {d:Nat} {avs:List AV} (h:qCL (Fit maxLen (Eng.shT Tryz.prog) d) [(true,shX)] avs):qbs IP 4 avs [] = some (.ret (.bool true),[]):=by
 obtain ⟨xs,r,rfl,h0,rfl⟩:=h
 obtain ⟨e,rfl,hw⟩:=qES h0
 exact qOi (e.op,e.num,e.txt,EX e.args) true (qzO hw)
theorem q27 {d:Nat} {avs:List AV} (h:qCL (Fit maxLen (Eng.shT Tryz.prog) d) [(true,shX),(true,shX)] avs):qbs IP 5 avs [] = some (.ret (.bool true),[]):=by
 obtain ⟨xs,r,rfl,h0,ys,r',rfl,h1,rfl⟩:=h
 obtain ⟨e,rfl,hw⟩:=qES h0
 obtain ⟨f,rfl,hw2⟩:=qES h1
 exact qOj (e.op,e.num,e.txt,EX e.args,f.op,f.num,f.txt,EX f.args) true (qCO hw hw2)
theorem q28 {d:Nat} {avs:List AV} (h:qCL (Fit maxLen (Eng.shT Tryz.prog) d) [(true,shX),(false,[.slice 3 true 44])] avs):qbs IP 6 avs [] = some (.ret (.bool true),[]):=by
 obtain ⟨xs,r,rfl,h0,z,r',rfl,⟨_,_,e2,h1,rfl⟩,rfl⟩:=h
 cases e2
 obtain ⟨e,rfl,hw⟩:=qES h0
 obtain ⟨l,rfl,hl⟩:=qVy h1
 exact qOe (e.op,e.num,e.txt,EX e.args,ET l) true (qoZ hw hl)
theorem law7 {d:Nat} {avs:List AV} (h:qCL (Fit maxLen (Eng.shT Tryz.prog) d) [(true,shX)] avs):qbs IP 7 avs [] = some (.ret (.bool true),[]):=by
 obtain ⟨xs,r,rfl,h0,rfl⟩:=h
 obtain ⟨e,rfl,hw⟩:=qES h0
 exact qOg (e.op,e.num,e.txt,EX e.args) true (qzJ hw)
end Go.Proofs.H10

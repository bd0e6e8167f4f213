/- Chapter 10: from the machine to the rows. -/
import Derived.Test.YtgpbobelbcbcaaaGreatDoorX10L
import Derived.Test.YtgpbobelbcbcaaaGreatDoorG10
import Derived.Test.YtgpbobelbcbcaaaGreatDoorE3
set_option linter.unusedVariables false
set_option linter.unusedSimpArgs false
set_option linter.unnecessarySimpa false
namespace Go.Proofs.H10
open Go Go.Eng Go.Tk Go.Shelf
set_option maxRecDepth 100000
theorem q0g:Eng.shT Tryz.prog 44 = [.int .i64,.int .i64,.str]:=by kernel_rfl
theorem qVy {d:Nat} {x:AV} (h:Fit maxLen (Eng.shT Tryz.prog) d (.slice 3 true 44) x):∃ l:List Tok,x = .view 3 (ET l) /\ l.length <= big:=by
 obtain ⟨l,hl,h1,_⟩:=qKt (av:=Tok.av) (p:=fun _=>True) h fun d xs hx=>by
  rw [q0g] at hx
  obtain ⟨_,_,rfl,h0,_,_,rfl,h1,_,_,rfl,h2,rfl⟩:=hx
  obtain ⟨a,rfl,_⟩:=qmZ h0
  obtain ⟨b,rfl,_⟩:=qmZ h1
  obtain ⟨c,rfl,_⟩:=qET h2
  exact ⟨⟨a,b,c⟩,rfl,trivial⟩
 exact ⟨l,hl,h1⟩
theorem law3 {d:Nat} {avs:List AV} (h:qCL (Fit maxLen (Eng.shT Tryz.prog) d) [(false,[.slice 3 true 44]),(false,[.int .i64])] avs):qbs IP 3 avs [] = some (.ret (.bool true),[]):=by
 obtain ⟨y,r,rfl,⟨_,_,e1,h0,rfl⟩,z,r',rfl,⟨_,_,e2,h1,rfl⟩,rfl⟩:=h
 cases e1; cases e2
 obtain ⟨l,rfl,hl⟩:=qVy h0
 obtain ⟨k,rfl,_⟩:=qmZ h1
 exact qOh (ET l,k) true (qzM hl k)
end Go.Proofs.H10

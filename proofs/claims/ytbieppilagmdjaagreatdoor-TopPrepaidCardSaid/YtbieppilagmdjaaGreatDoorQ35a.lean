/- The machine's own run with facts, for this program. -/
import Derived.Test.YtbieppilagmdjaaGreatDoorIP35
import Derived.Test.YtbieppilagmdjaaGreatDoorMmA
set_option linter.unusedVariables false
set_option linter.unusedSimpArgs false
set_option linter.unnecessarySimpa false
namespace Go.Proofs.H35
open Go Go.Eng Go.Tk
def qak (K:Facts):Prop:=∀ x ∈ K,qal IP x.1 x.2.1 [] = some x.2.2
def noS:Nat -> Option Seen:=fun _=>none
theorem qSX:∀ f s,noS f = some s -> ∀ a h r,s.g (qal IP) a h = some r -> qal IP f a h = some r:=fun f s h=>by cases h
theorem qbg {K:Facts} (hK:qak K) (n:Nat) {f:Nat} {a:List AV} {r:Res × Eng.Heap} (h:(qcL IP noS K n).1 f a [] = some r):qal IP f a [] = some r:=qWe qSX hK n h
def K0:Facts:=[]
theorem qiD:qak K0:=fun _ h=>by cases h
theorem qae {K:Facts} {f:Nat} {a:List AV} {r:Res × Eng.Heap} (h:qal IP f a [] = some r) (hK:qak K):qak ((f,a,r) :: K):=fun x hx=>by
 rcases List.mem_cons.1 hx with rfl | hx
 ·exact h
 ·exact hK x hx
end Go.Proofs.H35

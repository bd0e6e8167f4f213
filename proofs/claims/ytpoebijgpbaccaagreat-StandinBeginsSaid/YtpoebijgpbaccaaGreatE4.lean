/- A machine of plain values, and that what it says holds of the program. -/
import Derived.Test.YtpoebijgpbaccaaGreatE3
import Derived.Below
import Derived.Shelf.Strings.Fields
import Derived.Shelf.Strings.Count
import Derived.Shelf.Strings.Search1
import Derived.Shelf.Strconv.ParseIntPublic10
import Derived.Shelf.Strconv.AtoiAll
import Derived.Shelf.Strconv.Itoa4
set_option linter.unusedVariables false
set_option linter.unusedSimpArgs false
set_option linter.unnecessarySimpa false
namespace Go.Eng
set_option linter.unusedSectionVars false
variable [Globs]
theorem qhB {w w':World} {I:Imm} (ho:∀ b o,I b o -> b < w.heap.size) (hb:RowKit.Below w.heap.size w w'):Stays w w' I where
 size:=hb.size
 row:=fun b C e h=>⟨C,by rw [hb.block b (Array.getElem?_eq_some_iff.1 h).1]; exact h,rfl⟩
 imm:=fun b o hi=>by simp only [World.cell?,ad]; rw [hb.block b (ho b o hi)]
 out:=⟨hb.os,hb.output,hb.tape⟩
theorem qEH {w w':World} {I I':Imm} {m:Names} {h:qai} (H:HeapAt w I m h) (hb:RowKit.Below w.heap.size w w') (hI:∀ b o,I b o -> I' b o) (hN:∀ b o,I' b o -> I b o \/ w.heap.size <= b /\ b < w'.heap.size):Aft w w' I I' m m h h where
 stays:=qhB H.old hb
 imm:=hI
 names:=fun _ _ h=>h
 heap:={
  at_:=fun i b hi=>by
   obtain ⟨L,hL,hat⟩:=H.at_ i b hi
   refine ⟨L,hL,hat.keep (qhB H.old hb) hI (fun _ _ h=>h) (hb.block _ hat.lt) fun o ho=>?_⟩
   rcases hN _ _ ho with h | h
   ·exact h
   ·have:=hat.lt; omega
  apart:=H.apart
  old:=fun b o hi=>by
   rcases hN b o hi with h | h
   ·exact Nat.lt_of_lt_of_le (H.old b o h) hb.size
   ·exact h.2
  glob:=H.glob.mono (qhB H.old hb) hI }
 frame:=fun b hlt _=>hb.block b hlt
 newI:=fun b o hi=>(hN b o hi).imp id fun h=>.inr h.1
 owns:=fun _ h=>.inl h
theorem qCf {w w':World} {I:Imm} {m:Names} {h:qai} (H:HeapAt w I m h) (hb:RowKit.Below w.heap.size w w') {v:AV} {u:Value} (hu:Rel w' I v m u):qQ3 w I m h (.ret v) h (.returned u) w':=
 ⟨I,m,qEH H hb (fun _ _ h=>h) fun _ _ h=>.inl h,u,rfl,hu⟩
def gOf (E:Ent):List AV -> qai -> Option (Res × qai):=fun a h=>((E a h).find? fun p=>p.1).map fun p=>p.2
theorem qYP {IP:Prog} {f:Nat} {E:Ent} (hF:IP.fn f = none) (hS:IP.spec f = some (gOf E)) (h1:∀ a h p q,p ∈ E a h -> q ∈ E a h -> p.1 = true -> q.1 = true -> p.2 = q.2):Snd IP f E:=by
 intro a h r h' hm
 refine qos hF hS ?_
 unfold gOf
 cases hq:(E a h).find? fun p=>p.1 with
 | none=>exact absurd rfl (List.find?_eq_none.1 hq _ hm)
 | some q=>
  have hp:=List.find?_some hq
  rw [Option.map_some,h1 a h q _ (List.mem_of_find?_eq_some hq) hm hp rfl]
theorem qNE {P:Program} {f:Nat} {E:Ent} (hE:qhF P f) (h1:∀ a h r h',(true,r,h') ∈ E a h -> ∀ (w:World) (I:Imm) (m:Names) (vs:List Value),HeapAt w I m h -> qaH w I a m vs -> Calls P f vs.toArray w (qQ3 w I m h r h')):qsv P f (gOf E):=by
 intro a h r h' hg
 unfold gOf at hg
 rw [Option.map_eq_some_iff] at hg
 obtain ⟨⟨b,q⟩,hq,rfl⟩:=hg
 have hb:=List.find?_some hq
 have hm:=List.mem_of_find?_eq_some hq
 simp only at hb
 subst hb
 exact fun w I m vs H _ hr=>.inl ⟨hE,h1 a h r h' hm w I m vs H hr⟩
end Go.Eng
namespace Go.Eng
open Go.Shelf Go.Proofs
set_option linter.unusedSectionVars false
variable [Globs]
theorem qVu {E:Ent} (h:∀ a h,(E a h).length <= 1):∀ a h p q,p ∈ E a h -> q ∈ E a h -> p.1 = true -> q.1 = true -> p.2 = q.2:=by
 intro a b p q hp hq _ _
 have:=h a b
 match E a b,this,hp,hq with
 | [x],_,hp,hq=>rw [List.mem_singleton.1 hp,List.mem_singleton.1 hq]
end Go.Eng
namespace Go.Eng
open Go.Shelf Go.Proofs
set_option linter.unusedSectionVars false
variable [Globs]
def nOk:Lib.NumEnd Int -> Bool
 | .ok _=>true
 | _=>false
end Go.Eng

/- Steps through printed trees; how long what is printed is. -/
import Derived.Test.YtgpbobelbcbcaaaGreatDoorPsC
import Derived.Test.YtgpbobelbcbcaaaGreatDoorE3
set_option linter.unusedVariables false
set_option linter.unusedSimpArgs false
set_option linter.unnecessarySimpa false
namespace Go.Eng
theorem brF {α:Type} {b:Bool} {x y:DT α} (h:b = false):(DT.br b x y).ev = y.ev:=by rw [h]; rfl
theorem brT {α:Type} {b:Bool} {x y:DT α} (h:b = true):(DT.br b x y).ev = x.ev:=by rw [h]; rfl
theorem biS {α β:Type} [Inhabited β] {o:Option β} {v:β} {k:β -> DT α} {e:DT α} (h:o = some v):(DT.bi o k e).ev = (k v).ev:=by rw [h]; rfl
theorem biN {α β:Type} [Inhabited β] {o:Option β} {k:β -> DT α} {e:DT α} (h:o = none):(DT.bi o k e).ev = e.ev:=by rw [h]; rfl
theorem biL {α β γ:Type} [Inhabited β] {o:Option (β ⊕ γ)} {v:β} {k:β -> DT α} {e:DT α} (h:o = some (.inl v)):(DT.bi (pl o) k e).ev = (k v).ev:=by rw [h]; rfl
theorem qk1 {α β γ:Type} [Inhabited β] {o:Option (β ⊕ γ)} {v:γ} {k:β -> DT α} {e:DT α} (h:o = some (.inr v)):(DT.bi (pl o) k e).ev = e.ev:=by rw [h]; rfl
theorem biR {α β γ:Type} [Inhabited γ] {o:Option (β ⊕ γ)} {v:γ} {k:γ -> DT α} {e:DT α} (h:o = some (.inr v)):(DT.bi (pr o) k e).ev = (k v).ev:=by rw [h]; rfl
end Go.Eng
namespace Go.Tk
open Go Go.Eng
theorem qru (r:Nat) (op:Int) (l:List Tok):(qBz r op l).length <= l.length + 2:=by
 unfold qBz
 split
 ·simp
 ·omega
theorem qeG:∀ e:Ex,(wrB e).length <= 5 * e.nodes
 | .mk o n s []=>by
  simp only [wrB,qnk,Ex.nodes,Ex.nodesL]
  (repeat' split) <;> simp
 | .mk o n s [a]=>by
  have h1:=qeG a
  have h2:=qru (qaL o) a.op (wrB a)
  simp only [wrB,List.length_cons,Ex.nodes,Ex.nodesL]
  omega
 | .mk o n s [a,b]=>by
  have h1:=qeG a
  have h2:=qru (qcQ o) a.op (wrB a)
  have h3:=qeG b
  have h4:=qru (qaL o + 1) b.op (wrB b)
  simp only [wrB,Ex.nodes,Ex.nodesL]
  split
  ·simp only [List.length_cons,List.length_append,List.length_nil]; omega
  ·simp only [List.length_cons,List.length_append]; omega
 | .mk o n s (a :: b :: c :: m)=>by
  have h1:=qeG a
  have h2:=qeG b
  have h3:=qeG c
  simp only [wrB,Ex.nodes,Ex.nodesL,List.length_cons,List.length_append]
  omega
theorem qbo (r:Nat) (e:Ex):(par r e).length <= 5 * e.nodes + 2:=by
 have h1:=qeG e
 have h2:=qxd r e
 omega
end Go.Tk

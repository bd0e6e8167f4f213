/- The program of a chapter for the machine. -/
import Derived.Test.YtpoebijgpbaccaaIr53
import Derived.KernelRfl
set_option linter.unusedVariables false
set_option linter.unusedSimpArgs false
set_option linter.unnecessarySimpa false
namespace Go.Proofs.H53
open Go Go.Eng
set_option maxRecDepth 20000
def specs : Nat → Option (List AV → Heap → Option (Res × Heap)) := fun f => if f = 34 then some (cloneG 3 24) else if f = 35 then some (cloneG 3 32) else none
def IP : Prog := { fn := lookF tab, mv := fun _ => false, fresh := fun f => f == 34 || f == 35, spec := specs }
theorem sp34 : Snd IP 34 (cloneE 3 24) := cloneE_ok (by kernel_rfl) (by kernel_rfl)
theorem sp35 : Snd IP 35 (cloneE 3 32) := cloneE_ok (by kernel_rfl) (by kernel_rfl)
theorem cl34a : body IP noC noL 34 F34 [.nils ⟨3, .nil⟩] [] = some (.ret (.nils ⟨3, .nil⟩), []) := by kernel_rfl
theorem cl34b : body IP noC noL 34 F34 [.nils ⟨3, .non⟩] [] = some (.ret (.nils ⟨3, .any⟩), []) := by kernel_rfl
theorem cl34c (es : List AV) (h0 : es.length ≠ 0) (h1 : es.length * 24 ≤ lim) : body IP noC noL 34 F34 [.view 3 es] [] = some (.ret (.own 0 0 none), [(0, .arr 3 es false)]) :=
  clone_body (b := decide (3 = 3)) (c := decide (3 = 3) && decide (3 = 3)) (x := (.ret (.nils ⟨3, .any⟩), [])) (fun es => by kernel_rfl) (by kernel_rfl) es h0 h1
theorem cl35a : body IP noC noL 35 F35 [.nils ⟨3, .nil⟩] [] = some (.ret (.nils ⟨3, .nil⟩), []) := by kernel_rfl
theorem cl35b : body IP noC noL 35 F35 [.nils ⟨3, .non⟩] [] = some (.ret (.nils ⟨3, .any⟩), []) := by kernel_rfl
theorem cl35c (es : List AV) (h0 : es.length ≠ 0) (h1 : es.length * 32 ≤ lim) : body IP noC noL 35 F35 [.view 3 es] [] = some (.ret (.own 0 0 none), [(0, .arr 3 es false)]) :=
  clone_body (b := decide (3 = 3)) (c := decide (3 = 3) && decide (3 = 3)) (x := (.ret (.nils ⟨3, .any⟩), [])) (fun es => by kernel_rfl) (by kernel_rfl) es h0 h1
end Go.Proofs.H53

/- The program of a chapter for the machine. -/
import Derived.Test.YtninmnbkbhfnmaaIr23
import Derived.KernelRfl
set_option linter.unusedVariables false
set_option linter.unusedSimpArgs false
set_option linter.unnecessarySimpa false
namespace Go.Proofs.H23
open Go Go.Eng
set_option maxRecDepth 20000
def specs : Nat → Option (List AV → Heap → Option (Res × Heap)) := fun f => if f = 29 then some (cloneG 7 64) else none
def IP : Prog := { fn := lookF tab, mv := fun f => f == 33, fresh := fun f => f == 29 || f == 33, spec := specs }
theorem sp29 : Snd IP 29 (cloneE 7 64) := cloneE_ok (by kernel_rfl) (by kernel_rfl)
theorem cl1 : body IP noC noL 29 F29 [.nils ⟨7, .nil⟩] [] = some (.ret (.nils ⟨7, .nil⟩), []) := by kernel_rfl
theorem cl2 : body IP noC noL 29 F29 [.nils ⟨7, .non⟩] [] = some (.ret (.nils ⟨7, .any⟩), []) := by kernel_rfl
theorem cl3 (es : List AV) (h0 : es.length ≠ 0) (h1 : es.length * 64 ≤ lim) : body IP noC noL 29 F29 [.view 7 es] [] = some (.ret (.own 0 0 none), [(0, .arr 7 es false)]) :=
  clone_body (b := decide (7 = 7)) (c := decide (7 = 7) && decide (7 = 7)) (x := (.ret (.nils ⟨7, .any⟩), [])) (fun es => by kernel_rfl) (by kernel_rfl) es h0 h1
end Go.Proofs.H23

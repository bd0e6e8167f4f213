/- The program of a seat for the machine. -/
import Derived.Test.YthljpgljbpdmjaaGreatDoorIr15e
import Derived.KernelRfl
set_option linter.unusedVariables false
set_option linter.unusedSimpArgs false
set_option linter.unnecessarySimpa false
namespace Go.Proofs.H15e
open Go Go.Eng
set_option maxRecDepth 20000
instance globs : Globs := ⟨fun g => if g = 2 then some asciiCs else if g = 6 then some [errV 250] else if g = 7 then some [errV 250] else none⟩
def specs : Nat → Option (List AV → Heap → Option (Res × Heap)) := fun f => if f = 152 then some (gOf countE) else if f = 188 then some (gOf fieldsE) else if f = 191 then some (gOf idxE) else if f = 186 then some (gOf (parseE 223)) else if f = 200 then some (gOf (atoiE 223)) else if f = 38 then some (cloneG 2 16) else if f = 58 then some (cloneG 4 56) else if f = 70 then some (cloneG 1 8) else none
def IP : Prog := { fn := lookF tab, mv := fun _ => false, fresh := fun f => f == 135 || f == 38 || f == 58 || f == 70, spec := specs }
theorem sp152 : Snd IP 152 countE := gOf_ok (by kernel_rfl) (by kernel_rfl) (one_ent countE_one)
theorem sp188 : Snd IP 188 fieldsE := gOf_ok (by kernel_rfl) (by kernel_rfl) (one_ent fieldsE_one)
theorem sp191 : Snd IP 191 idxE := gOf_ok (by kernel_rfl) (by kernel_rfl) (one_ent idxE_one)
theorem sp186 : Snd IP 186 (parseE 223) := gOf_ok (by kernel_rfl) (by kernel_rfl) parseE_one
theorem sp200 : Snd IP 200 (atoiE 223) := gOf_ok (by kernel_rfl) (by kernel_rfl) atoiE_one
theorem sp38 : Snd IP 38 (cloneE 2 16) := cloneE_ok (by kernel_rfl) (by kernel_rfl)
theorem cl38a : body IP noC noL 38 F38 [.nils ⟨2, .nil⟩] [] = some (.ret (.nils ⟨2, .nil⟩), []) := by kernel_rfl
theorem cl38b : body IP noC noL 38 F38 [.nils ⟨2, .non⟩] [] = some (.ret (.nils ⟨2, .any⟩), []) := by kernel_rfl
theorem cl38c (es : List AV) (h0 : es.length ≠ 0) (h1 : es.length * 16 ≤ lim) : body IP noC noL 38 F38 [.view 2 es] [] = some (.ret (.own 0 0 none), [(0, .arr 2 es false)]) :=
  clone_body (b := decide (2 = 2)) (c := decide (2 = 2) && decide (2 = 2)) (x := (.ret (.nils ⟨2, .any⟩), [])) (fun es => by kernel_rfl) (by kernel_rfl) es h0 h1
theorem sp58 : Snd IP 58 (cloneE 4 56) := cloneE_ok (by kernel_rfl) (by kernel_rfl)
theorem cl58a : body IP noC noL 58 F58 [.nils ⟨4, .nil⟩] [] = some (.ret (.nils ⟨4, .nil⟩), []) := by kernel_rfl
theorem cl58b : body IP noC noL 58 F58 [.nils ⟨4, .non⟩] [] = some (.ret (.nils ⟨4, .any⟩), []) := by kernel_rfl
theorem cl58c (es : List AV) (h0 : es.length ≠ 0) (h1 : es.length * 56 ≤ lim) : body IP noC noL 58 F58 [.view 4 es] [] = some (.ret (.own 0 0 none), [(0, .arr 4 es false)]) :=
  clone_body (b := decide (4 = 4)) (c := decide (4 = 4) && decide (4 = 4)) (x := (.ret (.nils ⟨4, .any⟩), [])) (fun es => by kernel_rfl) (by kernel_rfl) es h0 h1
theorem sp70 : Snd IP 70 (cloneE 1 8) := cloneE_ok (by kernel_rfl) (by kernel_rfl)
theorem cl70a : body IP noC noL 70 F70 [.nils ⟨1, .nil⟩] [] = some (.ret (.nils ⟨1, .nil⟩), []) := by kernel_rfl
theorem cl70b : body IP noC noL 70 F70 [.nils ⟨1, .non⟩] [] = some (.ret (.nils ⟨1, .any⟩), []) := by kernel_rfl
theorem cl70c (es : List AV) (h0 : es.length ≠ 0) (h1 : es.length * 8 ≤ lim) : body IP noC noL 70 F70 [.view 1 es] [] = some (.ret (.own 0 0 none), [(0, .arr 1 es false)]) :=
  clone_body (b := decide (1 = 1)) (c := decide (1 = 1) && decide (1 = 1)) (x := (.ret (.nils ⟨1, .any⟩), [])) (fun es => by kernel_rfl) (by kernel_rfl) es h0 h1
end Go.Proofs.H15e

/- The program of a seat for the machine. -/
import Derived.Test.YtlgbnjnkcoiceaaGreatDoorIr12
import Derived.KernelRfl
set_option linter.unusedVariables false
set_option linter.unusedSimpArgs false
set_option linter.unnecessarySimpa false
namespace Go.Proofs.H12
open Go Go.Eng
set_option maxRecDepth 20000
instance globs : Globs := ⟨fun g => if g = 4 then some asciiCs else if g = 6 then some [errV 194] else if g = 7 then some [errV 194] else if g = 0 then some (Lib.pow10Tab.map (.int .u64)) else none⟩
def specs : Nat → Option (List AV → Heap → Option (Res × Heap)) := fun f => if f = 104 then some (gOf countE) else if f = 132 then some (gOf fieldsE) else if f = 134 then some (gOf idxE) else if f = 130 then some (gOf (parseE 169)) else if f = 143 then some (gOf (atoiE 169)) else if f = 56 then some (gOf itoa1E) else if f = 32 then some (cloneG 2 24) else if f = 89 then some (cloneG 1 8) else none
noncomputable def IP : Prog := { fn := lookF tab, mv := fun f => f == 33, fresh := fun f => f == 33 || f == 97 || f == 32 || f == 89, spec := specs }
theorem sp104 : Snd IP 104 countE := gOf_ok (by kernel_rfl) (by kernel_rfl) (one_ent countE_one)
theorem sp132 : Snd IP 132 fieldsE := gOf_ok (by kernel_rfl) (by kernel_rfl) (one_ent fieldsE_one)
theorem sp134 : Snd IP 134 idxE := gOf_ok (by kernel_rfl) (by kernel_rfl) (one_ent idxE_one)
theorem sp130 : Snd IP 130 (parseE 169) := gOf_ok (by kernel_rfl) (by kernel_rfl) parseE_one
theorem sp143 : Snd IP 143 (atoiE 169) := gOf_ok (by kernel_rfl) (by kernel_rfl) atoiE_one
theorem sp56 : Snd IP 56 itoa1E := gOf_ok (by kernel_rfl) (by kernel_rfl) (one_ent itoa1E_one)
theorem sp32 : Snd IP 32 (cloneE 2 24) := cloneE_ok (by kernel_rfl) (by kernel_rfl)
theorem cl32a : body IP noC noL 32 F32 [.nils ⟨2, .nil⟩] [] = some (.ret (.nils ⟨2, .nil⟩), []) := by kernel_rfl
theorem cl32b : body IP noC noL 32 F32 [.nils ⟨2, .non⟩] [] = some (.ret (.nils ⟨2, .any⟩), []) := by kernel_rfl
theorem cl32c (es : List AV) (h0 : es.length ≠ 0) (h1 : es.length * 24 ≤ lim) : body IP noC noL 32 F32 [.view 2 es] [] = some (.ret (.own 0 0 none), [(0, .arr 2 es false)]) :=
  clone_body (b := decide (2 = 2)) (c := decide (2 = 2) && decide (2 = 2)) (x := (.ret (.nils ⟨2, .any⟩), [])) (fun es => by kernel_rfl) (by kernel_rfl) es h0 h1
theorem sp89 : Snd IP 89 (cloneE 1 8) := cloneE_ok (by kernel_rfl) (by kernel_rfl)
theorem cl89a : body IP noC noL 89 F89 [.nils ⟨1, .nil⟩] [] = some (.ret (.nils ⟨1, .nil⟩), []) := by kernel_rfl
theorem cl89b : body IP noC noL 89 F89 [.nils ⟨1, .non⟩] [] = some (.ret (.nils ⟨1, .any⟩), []) := by kernel_rfl
theorem cl89c (es : List AV) (h0 : es.length ≠ 0) (h1 : es.length * 8 ≤ lim) : body IP noC noL 89 F89 [.view 1 es] [] = some (.ret (.own 0 0 none), [(0, .arr 1 es false)]) :=
  clone_body (b := decide (1 = 1)) (c := decide (1 = 1) && decide (1 = 1)) (x := (.ret (.nils ⟨1, .any⟩), [])) (fun es => by kernel_rfl) (by kernel_rfl) es h0 h1
end Go.Proofs.H12

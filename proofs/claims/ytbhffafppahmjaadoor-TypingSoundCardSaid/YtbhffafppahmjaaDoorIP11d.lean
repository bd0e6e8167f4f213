/- The program of a seat for the machine. -/
import Derived.Test.YtbhffafppahmjaaDoorIr11d
import Derived.KernelRfl
set_option linter.unusedVariables false
set_option linter.unusedSimpArgs false
set_option linter.unnecessarySimpa false
namespace Go.Proofs.H11d
open Go Go.Eng
set_option maxRecDepth 20000
instance globs : Globs := ⟨fun g => if g = 1 then some asciiCs else if g = 3 then some [errV 127] else if g = 4 then some [errV 127] else none⟩
def specs : Nat → Option (List AV → Heap → Option (Res × Heap)) := fun f => if f = 38 then some (gOf countE) else if f = 59 then some (gOf fieldsE) else if f = 61 then some (gOf idxE) else if f = 57 then some (gOf (parseE 100)) else if f = 70 then some (gOf (atoiE 100)) else none
def IP : Prog := { fn := lookF tab, mv := fun _ => false, fresh := fun f => f == 21, spec := specs }
theorem sp38 : Snd IP 38 countE := gOf_ok (by kernel_rfl) (by kernel_rfl) (one_ent countE_one)
theorem sp59 : Snd IP 59 fieldsE := gOf_ok (by kernel_rfl) (by kernel_rfl) (one_ent fieldsE_one)
theorem sp61 : Snd IP 61 idxE := gOf_ok (by kernel_rfl) (by kernel_rfl) (one_ent idxE_one)
theorem sp57 : Snd IP 57 (parseE 100) := gOf_ok (by kernel_rfl) (by kernel_rfl) parseE_one
theorem sp70 : Snd IP 70 (atoiE 100) := gOf_ok (by kernel_rfl) (by kernel_rfl) atoiE_one
end Go.Proofs.H11d

/- The program of a chapter for the machine. -/
import Derived.Test.YtbhffafppahmjaaGreatDoorIr11
import Derived.KernelRfl
set_option linter.unusedVariables false
set_option linter.unusedSimpArgs false
set_option linter.unnecessarySimpa false
namespace Go.Proofs.H11
open Go Go.Eng
set_option maxRecDepth 20000
instance globs : Globs := ⟨fun g => if g = 1 then some asciiCs else if g = 3 then some [errV 129] else if g = 4 then some [errV 129] else none⟩
def specs : Nat → Option (List AV → Heap → Option (Res × Heap)) := fun f => if f = 54 then some (gOf countE) else if f = 76 then some (gOf fieldsE) else if f = 78 then some (gOf idxE) else if f = 74 then some (gOf (parseE 102)) else if f = 87 then some (gOf (atoiE 102)) else none
def IP : Prog := { fn := lookF tab, mv := fun _ => false, fresh := fun f => f == 41, spec := specs }
theorem sp54 : Snd IP 54 countE := gOf_ok (by kernel_rfl) (by kernel_rfl) (one_ent countE_one)
theorem sp76 : Snd IP 76 fieldsE := gOf_ok (by kernel_rfl) (by kernel_rfl) (one_ent fieldsE_one)
theorem sp78 : Snd IP 78 idxE := gOf_ok (by kernel_rfl) (by kernel_rfl) (one_ent idxE_one)
theorem sp74 : Snd IP 74 (parseE 102) := gOf_ok (by kernel_rfl) (by kernel_rfl) parseE_one
theorem sp87 : Snd IP 87 (atoiE 102) := gOf_ok (by kernel_rfl) (by kernel_rfl) atoiE_one
end Go.Proofs.H11

/- The program of a seat for the machine. -/
import Derived.Test.YtoeknkhpjdomhaaGreatDoorIr09
import Derived.KernelRfl
import Derived.Test.YtoeknkhpjdomhaaGreatDoorE4
import Derived.Test.YtoeknkhpjdomhaaGreatDoorJnA
set_option linter.unusedVariables false
set_option linter.unusedSimpArgs false
set_option linter.unnecessarySimpa false
namespace Go.Proofs.H09
open Go Go.Eng Go.Tk
set_option maxRecDepth 20000
instance globs : Globs := ⟨fun g => if g = 0 then some qjq else if g = 3 then some [qqq 141] else if g = 4 then some [qqq 141] else if g = 5 then some (Lib.pow10Tab.map (.int .u64)) else none⟩
def qzy : Nat → Option (List AV → Heap → Option (Res × Heap)) := fun f => if f = 27 then some (gOf qgD) else if f = 50 then some (gOf qer) else if f = 97 then some (gOf qzc) else if f = 80 then some (gOf (qgc 102)) else if f = 42 then some (gOf (qkW 102)) else if f = 46 then some (gOf qg0) else if f = 47 then some (gOf qh4) else if f = 84 then some (gOf qg9) else none
noncomputable def IP : Prog := { fn := qsn tab, mv := fun _ => false, fresh := fun _ => false, spec := qzy, seen := fun f => if f = 18 then some (qeW 30) else none }
noncomputable def qze : Ent := fun a h => match a, h with
 | [.view 3 es], [] => [(jB IP 18 es, .ret (.tup [.str (jS IP 18 es), .int .i64 (jN IP 18 es)]), [])]
 | _, _ => []
theorem qEZ : Snd IP 18 qze := by
 intro a h r h' hm
 unfold qze at hm
 split at hm
 ·simp only [List.mem_singleton, Prod.mk.injEq, eq_comm (a := true)] at hm
  obtain ⟨h1, rfl, rfl⟩ := hm
  exact qBd h1
 ·cases hm
theorem qE0 : Snd IP 27 qgD := qf5 (by kernel_rfl) (by kernel_rfl) (qfH qof)
theorem qE4 : Snd IP 50 qer := qf5 (by kernel_rfl) (by kernel_rfl) (qfH qmC)
theorem qE7 : Snd IP 97 qzc := qf5 (by kernel_rfl) (by kernel_rfl) (qfH qtY)
theorem qE5 : Snd IP 80 (qgc 102) := qf5 (by kernel_rfl) (by kernel_rfl) qpl
theorem qE1 : Snd IP 42 (qkW 102) := qf5 (by kernel_rfl) (by kernel_rfl) qp3
theorem qE2 : Snd IP 46 qg0 := qf5 (by kernel_rfl) (by kernel_rfl) (qfH qoI)
theorem qE3 : Snd IP 47 qh4 := qf5 (by kernel_rfl) (by kernel_rfl) (qfH qpv)
theorem qE6 : Snd IP 84 qg9 := qf5 (by kernel_rfl) (by kernel_rfl) (qfH qph)
end Go.Proofs.H09

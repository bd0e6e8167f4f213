/- The program of a seat for the machine. -/
import Derived.Test.YtigchhcddgibhaaGreatDoorIr13
import Derived.KernelRfl
import Derived.Test.YtigchhcddgibhaaGreatDoorE4
namespace Go.Proofs.H13
open Go Go.Eng
set_option maxRecDepth 20000
instance globs : Globs := ⟨fun g => if g = 4 then some qxo else if g = 6 then some [qVZ 253] else if g = 7 then some [qVZ 253] else if g = 8 then some (Lib.pow10Tab.map (.int .u64)) else none⟩
def qWr : Nat -> Option (List AV -> qaA -> Option (Res × qaA)) := fun f => if f = 143 then some (gOf qtb) else if f = 166 then some (gOf qng) else if f = 169 then some (gOf q3T) else if f = 164 then some (gOf (qsp 226)) else if f = 178 then some (gOf (qDB 226)) else if f = 196 then some (gOf qti) else if f = 115 then some (gOf qtj) else if f = 159 then some (gOf qLe) else if f = 89 then some (gOf qs8) else if f = 88 then some (gOf qtm) else if f = 47 then some (qvs 2 24) else if f = 139 then some (qvs 1 8) else none
noncomputable def IP : Prog := { fn := qYX tab, mv := fun _ => false, fresh := fun f => f == 86 || f == 47 || f == 139, spec := qWr }
theorem q8i : Snd IP 143 qtb := qgJ (by kernel_rfl) (by kernel_rfl) (qfZ qLm)
theorem q8l : Snd IP 166 qng := qgJ (by kernel_rfl) (by kernel_rfl) (qfZ qER)
theorem q8m : Snd IP 169 q3T := qgJ (by kernel_rfl) (by kernel_rfl) (qfZ qXT)
theorem q8k : Snd IP 164 (qsp 226) := qgJ (by kernel_rfl) (by kernel_rfl) qLN
theorem q8n : Snd IP 178 (qDB 226) := qgJ (by kernel_rfl) (by kernel_rfl) qQw
theorem q8o : Snd IP 196 qti := qgJ (by kernel_rfl) (by kernel_rfl) (qfZ qLy)
theorem q8g : Snd IP 115 qtj := qgJ (by kernel_rfl) (by kernel_rfl) (qfZ qLF)
theorem q8j : Snd IP 159 qLe := qgJ (by kernel_rfl) (by kernel_rfl) (qfZ qQ3)
theorem zds : Snd IP 89 qs8 := qgJ (by kernel_rfl) (by kernel_rfl) (qfZ qLh)
theorem zdr : Snd IP 88 qtm := qgJ (by kernel_rfl) (by kernel_rfl) (qfZ qL0)
theorem zdq : Snd IP 47 (qta 2 24) := qvr (by kernel_rfl) (by kernel_rfl)
theorem q6j : body IP noC noL 47 F47 [.nils ⟨2, .nil⟩] [] = some (.ret (.nils ⟨2, .nil⟩), []) := by kernel_rfl
theorem q6k : body IP noC noL 47 F47 [.nils ⟨2, .non⟩] [] = some (.ret (.nils ⟨2, .any⟩), []) := by kernel_rfl
theorem q6l (es : List AV) (h0 : es.length ≠ 0) (h1 : es.length * 24 <= lim) : body IP noC noL 47 F47 [.view 2 es] [] = some (.ret (.own 0 0 none), [(0, .arr 2 es false)]) :=
 qsI (b := decide (2 = 2)) (c := decide (2 = 2) && decide (2 = 2)) (x := (.ret (.nils ⟨2, .any⟩), [])) (fun es => by kernel_rfl) (by kernel_rfl) es h0 h1
theorem q8h : Snd IP 139 (qta 1 8) := qvr (by kernel_rfl) (by kernel_rfl)
theorem q0S : body IP noC noL 139 q3X [.nils ⟨1, .nil⟩] [] = some (.ret (.nils ⟨1, .nil⟩), []) := by kernel_rfl
theorem q0T : body IP noC noL 139 q3X [.nils ⟨1, .non⟩] [] = some (.ret (.nils ⟨1, .any⟩), []) := by kernel_rfl
theorem q0U (es : List AV) (h0 : es.length ≠ 0) (h1 : es.length * 8 <= lim) : body IP noC noL 139 q3X [.view 1 es] [] = some (.ret (.own 0 0 none), [(0, .arr 1 es false)]) :=
 qsI (b := decide (1 = 1)) (c := decide (1 = 1) && decide (1 = 1)) (x := (.ret (.nils ⟨1, .any⟩), [])) (fun es => by kernel_rfl) (by kernel_rfl) es h0 h1
end Go.Proofs.H13

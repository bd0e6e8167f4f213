/- The program of a seat for the machine. -/
import Derived.Test.YthljpgljbpdmjaaGreatDoorIr15c
import Derived.KernelRfl
set_option linter.unusedVariables false
set_option linter.unusedSimpArgs false
set_option linter.unnecessarySimpa false
namespace Go.Proofs.H15c
open Go Go.Eng
set_option maxRecDepth 20000
instance globs : Globs := ⟨fun g => if g = 2 then some qoJ else if g = 6 then some [qAg 250] else if g = 7 then some [qAg 250] else none⟩
def qNh : Nat → Option (List AV → qag → Option (Res × qag)) := fun f => if f = 152 then some (gOf qjT) else if f = 188 then some (gOf qgo) else if f = 191 then some (gOf qMV) else if f = 186 then some (gOf (qiv 223)) else if f = 200 then some (gOf (qqE 223)) else if f = 38 then some (qin 2 16) else if f = 58 then some (qin 4 56) else if f = 70 then some (qin 1 8) else none
noncomputable def IP : Prog := { fn := qCw tab, mv := fun _ => false, fresh := fun f => f == 135 || f == 38 || f == 58 || f == 70, spec := qNh }
theorem qUh : Snd IP 152 qjT := qq7 (by kernel_rfl) (by kernel_rfl) (quf qwk)
theorem qUj : Snd IP 188 qgo := qq7 (by kernel_rfl) (by kernel_rfl) (quf qtS)
theorem qUk : Snd IP 191 qMV := qq7 (by kernel_rfl) (by kernel_rfl) (quf qGd)
theorem qUi : Snd IP 186 (qiv 223) := qq7 (by kernel_rfl) (by kernel_rfl) qx9
theorem qUl : Snd IP 200 (qqE 223) := qq7 (by kernel_rfl) (by kernel_rfl) qzR
theorem qV9 : Snd IP 38 (qim 2 16) := qjS (by kernel_rfl) (by kernel_rfl)
theorem qSO : body IP noC noL 38 F38 [.nils ⟨2, .nil⟩] [] = some (.ret (.nils ⟨2, .nil⟩), []) := by kernel_rfl
theorem qSP : body IP noC noL 38 F38 [.nils ⟨2, .non⟩] [] = some (.ret (.nils ⟨2, .any⟩), []) := by kernel_rfl
theorem qSQ (es : List AV) (h0 : es.length ≠ 0) (h1 : es.length * 16 ≤ lim) : body IP noC noL 38 F38 [.view 2 es] [] = some (.ret (.own 0 0 none), [(0, .arr 2 es false)]) :=
 qhu (b := decide (2 = 2)) (c := decide (2 = 2) && decide (2 = 2)) (x := (.ret (.nils ⟨2, .any⟩), [])) (fun es => by kernel_rfl) (by kernel_rfl) es h0 h1
theorem qWa : Snd IP 58 (qim 4 56) := qjS (by kernel_rfl) (by kernel_rfl)
theorem qSR : body IP noC noL 58 F58 [.nils ⟨4, .nil⟩] [] = some (.ret (.nils ⟨4, .nil⟩), []) := by kernel_rfl
theorem qSS : body IP noC noL 58 F58 [.nils ⟨4, .non⟩] [] = some (.ret (.nils ⟨4, .any⟩), []) := by kernel_rfl
theorem qST (es : List AV) (h0 : es.length ≠ 0) (h1 : es.length * 56 ≤ lim) : body IP noC noL 58 F58 [.view 4 es] [] = some (.ret (.own 0 0 none), [(0, .arr 4 es false)]) :=
 qhu (b := decide (4 = 4)) (c := decide (4 = 4) && decide (4 = 4)) (x := (.ret (.nils ⟨4, .any⟩), [])) (fun es => by kernel_rfl) (by kernel_rfl) es h0 h1
theorem qWb : Snd IP 70 (qim 1 8) := qjS (by kernel_rfl) (by kernel_rfl)
theorem qSU : body IP noC noL 70 F70 [.nils ⟨1, .nil⟩] [] = some (.ret (.nils ⟨1, .nil⟩), []) := by kernel_rfl
theorem qSV : body IP noC noL 70 F70 [.nils ⟨1, .non⟩] [] = some (.ret (.nils ⟨1, .any⟩), []) := by kernel_rfl
theorem qSW (es : List AV) (h0 : es.length ≠ 0) (h1 : es.length * 8 ≤ lim) : body IP noC noL 70 F70 [.view 1 es] [] = some (.ret (.own 0 0 none), [(0, .arr 1 es false)]) :=
 qhu (b := decide (1 = 1)) (c := decide (1 = 1) && decide (1 = 1)) (x := (.ret (.nils ⟨1, .any⟩), [])) (fun es => by kernel_rfl) (by kernel_rfl) es h0 h1
end Go.Proofs.H15c

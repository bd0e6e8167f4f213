/- The program of a seat for the machine. -/
import Derived.Test.YtigchhcddgibhaaGreatDoorIr13
import Derived.KernelRfl
import Derived.Test.YtigchhcddgibhaaGreatDoorE4
set_option linter.unusedVariables false
set_option linter.unusedSimpArgs false
set_option linter.unnecessarySimpa false
namespace Go.Proofs.H13
open Go Go.Eng
set_option maxRecDepth 20000
instance globs : Globs := ⟨fun g => if g = 4 then some qtm else if g = 6 then some [qJk 253] else if g = 7 then some [qJk 253] else if g = 8 then some (Lib.pow10Tab.map (.int .u64)) else none⟩
def q06 : Nat → Option (List AV → qan → Option (Res × qan)) := fun f => if f = 143 then some (gOf qnU) else if f = 166 then some (gOf qiP) else if f = 169 then some (gOf q0t) else if f = 164 then some (gOf (qlE 226)) else if f = 178 then some (gOf (qv4 226)) else if f = 196 then some (gOf qo5) else if f = 115 then some (gOf qpq) else if f = 159 then some (gOf qz7) else if f = 89 then some (gOf qnI) else if f = 88 then some (gOf qqL) else if f = 47 then some (qnT 2 24) else if f = 139 then some (qnT 1 8) else none
noncomputable def IP : Prog := { fn := qLq tab, mv := fun _ => false, fresh := fun f => f == 86 || f == 47 || f == 139, spec := q06 }
theorem zai : Snd IP 143 qnU := qii (by kernel_rfl) (by kernel_rfl) (qhf qC2)
theorem zal : Snd IP 166 qiP := qii (by kernel_rfl) (by kernel_rfl) (qhf qzJ)
theorem zam : Snd IP 169 q0t := qii (by kernel_rfl) (by kernel_rfl) (qhf qRS)
theorem zak : Snd IP 164 (qlE 226) := qii (by kernel_rfl) (by kernel_rfl) qFn
theorem zan : Snd IP 178 (qv4 226) := qii (by kernel_rfl) (by kernel_rfl) qIT
theorem zao : Snd IP 196 qo5 := qii (by kernel_rfl) (by kernel_rfl) (qhf qEW)
theorem zag : Snd IP 115 qpq := qii (by kernel_rfl) (by kernel_rfl) (qhf qFi)
theorem zaj : Snd IP 159 qz7 := qii (by kernel_rfl) (by kernel_rfl) (qhf qLw)
theorem zdJ : Snd IP 89 qnI := qii (by kernel_rfl) (by kernel_rfl) (qhf qCR)
theorem zdI : Snd IP 88 qqL := qii (by kernel_rfl) (by kernel_rfl) (qhf qFv)
theorem zdH : Snd IP 47 (qrx 2 24) := qwa (by kernel_rfl) (by kernel_rfl)
theorem q8l : body IP noC noL 47 F47 [.nils ⟨2, .nil⟩] [] = some (.ret (.nils ⟨2, .nil⟩), []) := by kernel_rfl
theorem q8m : body IP noC noL 47 F47 [.nils ⟨2, .non⟩] [] = some (.ret (.nils ⟨2, .any⟩), []) := by kernel_rfl
theorem q8n (es : List AV) (h0 : es.length ≠ 0) (h1 : es.length * 24 ≤ lim) : body IP noC noL 47 F47 [.view 2 es] [] = some (.ret (.own 0 0 none), [(0, .arr 2 es false)]) :=
 qry (b := decide (2 = 2)) (c := decide (2 = 2) && decide (2 = 2)) (x := (.ret (.nils ⟨2, .any⟩), [])) (fun es => by kernel_rfl) (by kernel_rfl) es h0 h1
theorem zah : Snd IP 139 (qrx 1 8) := qwa (by kernel_rfl) (by kernel_rfl)
theorem q4y : body IP noC noL 139 q6M [.nils ⟨1, .nil⟩] [] = some (.ret (.nils ⟨1, .nil⟩), []) := by kernel_rfl
theorem q4z : body IP noC noL 139 q6M [.nils ⟨1, .non⟩] [] = some (.ret (.nils ⟨1, .any⟩), []) := by kernel_rfl
theorem q4A (es : List AV) (h0 : es.length ≠ 0) (h1 : es.length * 8 ≤ lim) : body IP noC noL 139 q6M [.view 1 es] [] = some (.ret (.own 0 0 none), [(0, .arr 1 es false)]) :=
 qry (b := decide (1 = 1)) (c := decide (1 = 1) && decide (1 = 1)) (x := (.ret (.nils ⟨1, .any⟩), [])) (fun es => by kernel_rfl) (by kernel_rfl) es h0 h1
end Go.Proofs.H13

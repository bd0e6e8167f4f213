/- The program of a seat for the machine. -/
import Derived.Test.YtgpbobelbcbcaaaGreatDoorIr10
import Derived.KernelRfl
import Derived.Test.YtgpbobelbcbcaaaGreatDoorE4
import Derived.Test.YtgpbobelbcbcaaaGreatDoorPaA
set_option linter.unusedVariables false
set_option linter.unusedSimpArgs false
set_option linter.unnecessarySimpa false
namespace Go.Proofs.H10
open Go Go.Eng Go.Tk
set_option maxRecDepth 20000
instance globs:Globs:=⟨fun g=>if g = 1 then some qqN else if g = 8 then some [qDV 211] else if g = 9 then some [qDV 211] else if g = 0 then some (Lib.pow10Tab.map (.int .u64)) else none⟩
def qSH:Nat -> Option (List AV -> Heap -> Option (Res × Heap)):=fun f=>if f = 118 then some (gOf qmh) else if f = 135 then some (gOf qim) else if f = 180 then some (gOf qSb) else if f = 166 then some (gOf (qkT 180)) else if f = 152 then some (gOf (qs9 180)) else if f = 55 then some (gOf qnb) else if f = 86 then some (gOf qoP) else if f = 42 then some (gOf qxm) else if f = 43 then some (gOf qwa) else none
noncomputable def IP:Prog:={ fn:=qGb tab,mv:=fun f=>f == 42 || f == 43,fresh:=fun f=>f == 41,spec:=qSH,seen:=fun f=>if f = 10 then some (qnR 29 17 53) else none,imp:=fun f=>f == 46 || f == 48 || f == 79 || f == 29 || f == 47 || f == 78 || f == 103 || f == 127 || f == 126 || f == 80 }
theorem q0h:Snd IP 118 qmh:=qiX (by kernel_rfl) (by kernel_rfl) (qiu qzW)
theorem q0i:Snd IP 135 qim:=qiX (by kernel_rfl) (by kernel_rfl) (qiu qwQ)
theorem q0l:Snd IP 180 qSb:=qiX (by kernel_rfl) (by kernel_rfl) (qiu qKC)
theorem q0k:Snd IP 166 (qkT 180):=qiX (by kernel_rfl) (by kernel_rfl) qBA
theorem q0j:Snd IP 152 (qs9 180):=qiX (by kernel_rfl) (by kernel_rfl) qDv
theorem q2Y:Snd IP 55 qnb:=qiX (by kernel_rfl) (by kernel_rfl) (qiu qA3)
theorem q2Z:Snd IP 86 qoP:=qiX (by kernel_rfl) (by kernel_rfl) (qiu qBN)
theorem q2W:Snd IP 42 qxm:=qiX (by kernel_rfl) (by kernel_rfl) (qiu qID)
theorem q2X:Snd IP 43 qwa:=qiX (by kernel_rfl) (by kernel_rfl) (qiu qDD)
noncomputable def qWc:Ent:=qZ9 IP 10
theorem q2V:Snd IP 10 qWc:=qSv IP 10
end Go.Proofs.H10

/- The program of a seat for the machine. -/
import Derived.Test.YthljpgljbpdmjaaGreatDoorIr15p
import Derived.KernelRfl
import Derived.Test.YthljpgljbpdmjaaGreatDoorE4
set_option linter.unusedVariables false
set_option linter.unusedSimpArgs false
set_option linter.unnecessarySimpa false
namespace Go.Proofs.H15p
open Go Go.Eng
set_option maxRecDepth 20000
instance globs:Globs:=⟨fun g=>if g = 2 then some qtx else if g = 6 then some [qI9 250] else if g = 7 then some [qI9 250] else if g = 8 then some (Lib.pow10Tab.map (.int .u64)) else none⟩
def q0c:Nat -> Option (List AV -> qam -> Option (Res × qam)):=fun f=>if f = 152 then some (gOf qnx) else if f = 188 then some (gOf qh9) else if f = 191 then some (gOf qZH) else if f = 186 then some (gOf (qlc 223)) else if f = 200 then some (gOf (qvP 223)) else if f = 220 then some (gOf qoQ) else if f = 154 then some (gOf qpg) else if f = 203 then some (gOf qAh) else if f = 138 then some (gOf qnl) else if f = 137 then some (gOf qqU) else if f = 38 then some (qkY 2 16) else if f = 58 then some (qkY 4 56) else if f = 70 then some (qkY 1 8) else none
noncomputable def IP:Prog:={ fn:=qLs tab,mv:=fun _=>false,fresh:=fun f=>f == 135 || f == 38 || f == 58 || f == 70,spec:=q0c }
theorem q9r:Snd IP 152 qnx:=qhA (by kernel_rfl) (by kernel_rfl) (qgz qCU)
theorem q9u:Snd IP 188 qh9:=qhA (by kernel_rfl) (by kernel_rfl) (qgz qzS)
theorem q9v:Snd IP 191 qZH:=qhA (by kernel_rfl) (by kernel_rfl) (qgz qRE)
theorem q9t:Snd IP 186 (qlc 223):=qhA (by kernel_rfl) (by kernel_rfl) qFu
theorem q9w:Snd IP 200 (qvP 223):=qhA (by kernel_rfl) (by kernel_rfl) qIL
theorem q9y:Snd IP 220 qoQ:=qhA (by kernel_rfl) (by kernel_rfl) (qgz qEW)
theorem q9s:Snd IP 154 qpg:=qhA (by kernel_rfl) (by kernel_rfl) (qgz qFp)
theorem q9x:Snd IP 203 qAh:=qhA (by kernel_rfl) (by kernel_rfl) (qgz qLy)
theorem q9q:Snd IP 138 qnl:=qhA (by kernel_rfl) (by kernel_rfl) (qgz qCJ)
theorem q9p:Snd IP 137 qqU:=qhA (by kernel_rfl) (by kernel_rfl) (qgz qFC)
theorem zco:Snd IP 38 (qkX 2 16):=qnw (by kernel_rfl) (by kernel_rfl)
theorem q7b:body IP noC noL 38 F38 [.nils ⟨2,.nil⟩] [] = some (.ret (.nils ⟨2,.nil⟩),[]):=by kernel_rfl
theorem q7c:body IP noC noL 38 F38 [.nils ⟨2,.non⟩] [] = some (.ret (.nils ⟨2,.any⟩),[]):=by kernel_rfl
theorem q7d (es:List AV) (h0:es.length ≠ 0) (h1:es.length * 16 <= lim):body IP noC noL 38 F38 [.view 2 es] [] = some (.ret (.own 0 0 none),[(0,.arr 2 es false)]):=
 qjz (b:=decide (2 = 2)) (c:=decide (2 = 2) && decide (2 = 2)) (x:=(.ret (.nils ⟨2,.any⟩),[])) (fun es=>by kernel_rfl) (by kernel_rfl) es h0 h1
theorem zcp:Snd IP 58 (qkX 4 56):=qnw (by kernel_rfl) (by kernel_rfl)
theorem q7e:body IP noC noL 58 F58 [.nils ⟨4,.nil⟩] [] = some (.ret (.nils ⟨4,.nil⟩),[]):=by kernel_rfl
theorem q7f:body IP noC noL 58 F58 [.nils ⟨4,.non⟩] [] = some (.ret (.nils ⟨4,.any⟩),[]):=by kernel_rfl
theorem q7g (es:List AV) (h0:es.length ≠ 0) (h1:es.length * 56 <= lim):body IP noC noL 58 F58 [.view 4 es] [] = some (.ret (.own 0 0 none),[(0,.arr 4 es false)]):=
 qjz (b:=decide (4 = 4)) (c:=decide (4 = 4) && decide (4 = 4)) (x:=(.ret (.nils ⟨4,.any⟩),[])) (fun es=>by kernel_rfl) (by kernel_rfl) es h0 h1
theorem zcq:Snd IP 70 (qkX 1 8):=qnw (by kernel_rfl) (by kernel_rfl)
theorem q7h:body IP noC noL 70 F70 [.nils ⟨1,.nil⟩] [] = some (.ret (.nils ⟨1,.nil⟩),[]):=by kernel_rfl
theorem q7i:body IP noC noL 70 F70 [.nils ⟨1,.non⟩] [] = some (.ret (.nils ⟨1,.any⟩),[]):=by kernel_rfl
theorem q7j (es:List AV) (h0:es.length ≠ 0) (h1:es.length * 8 <= lim):body IP noC noL 70 F70 [.view 1 es] [] = some (.ret (.own 0 0 none),[(0,.arr 1 es false)]):=
 qjz (b:=decide (1 = 1)) (c:=decide (1 = 1) && decide (1 = 1)) (x:=(.ret (.nils ⟨1,.any⟩),[])) (fun es=>by kernel_rfl) (by kernel_rfl) es h0 h1
end Go.Proofs.H15p

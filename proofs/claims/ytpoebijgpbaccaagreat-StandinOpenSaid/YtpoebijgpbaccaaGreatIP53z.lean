/- The program of a seat for the machine. -/
import Derived.Test.YtpoebijgpbaccaaGreatIr53z
import Derived.KernelRfl
import Derived.Test.YtpoebijgpbaccaaGreatOfA
set_option linter.unusedVariables false
set_option linter.unusedSimpArgs false
set_option linter.unnecessarySimpa false
namespace Go.Proofs.H53z
open Go Go.Eng Go.Tk
set_option maxRecDepth 20000
instance globs:Globs:=⟨fun g=>none⟩
def qVO:Nat -> Option (List AV -> qai -> Option (Res × qai)):=fun f=>if f = 64 then some (qlF 3 24) else if f = 65 then some (qlF 3 32) else if f = 70 then some (gOf ofE) else none
noncomputable def IP:Prog:={ fn:=qH0 tab,mv:=fun _=>false,fresh:=fun f=>f == 64 || f == 65,spec:=qVO }
theorem q3v:body IP noC noL 64 F64 [.nils ⟨3,.nil⟩] [] = some (.ret (.nils ⟨3,.nil⟩),[]):=by kernel_rfl
theorem q3w:body IP noC noL 64 F64 [.nils ⟨3,.non⟩] [] = some (.ret (.nils ⟨3,.any⟩),[]):=by kernel_rfl
theorem q3x (es:List AV) (h0:es.length ≠ 0) (h1:es.length * 24 <= lim):body IP noC noL 64 F64 [.view 3 es] [] = some (.ret (.own 0 0 none),[(0,.arr 3 es false)]):=
 qou (b:=decide (3 = 3)) (c:=decide (3 = 3) && decide (3 = 3)) (x:=(.ret (.nils ⟨3,.any⟩),[])) (fun es=>by kernel_rfl) (by kernel_rfl) es h0 h1
theorem q3y:body IP noC noL 65 F65 [.nils ⟨3,.nil⟩] [] = some (.ret (.nils ⟨3,.nil⟩),[]):=by kernel_rfl
theorem q3z:body IP noC noL 65 F65 [.nils ⟨3,.non⟩] [] = some (.ret (.nils ⟨3,.any⟩),[]):=by kernel_rfl
theorem q3A (es:List AV) (h0:es.length ≠ 0) (h1:es.length * 32 <= lim):body IP noC noL 65 F65 [.view 3 es] [] = some (.ret (.own 0 0 none),[(0,.arr 3 es false)]):=
 qou (b:=decide (3 = 3)) (c:=decide (3 = 3) && decide (3 = 3)) (x:=(.ret (.nils ⟨3,.any⟩),[])) (fun es=>by kernel_rfl) (by kernel_rfl) es h0 h1
theorem q8g:Snd IP 70 ofE:=qYP (by kernel_rfl) (by kernel_rfl) (qVu qVo)
def qG1:Ent:=fun a h=>match a,h with
 | [],[]=>[(true,.ret (.bool true),[])]
 | _,_=>[]
theorem sp7:Snd IP 7 qG1:=by
 intro a h r h' hm
 unfold qG1 at hm
 split at hm
 ·simp only [List.mem_singleton,Prod.mk.injEq,true_and] at hm
  obtain ⟨rfl,rfl⟩:=hm
  exact qb4.2 ⟨60,by kernel_rfl⟩
 ·cases hm
end Go.Proofs.H53z

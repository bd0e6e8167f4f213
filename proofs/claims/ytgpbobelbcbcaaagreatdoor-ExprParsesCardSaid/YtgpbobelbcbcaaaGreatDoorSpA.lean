/- What is said of a function at a few arguments alone: the machine's own runs. -/
import Derived.Test.YtgpbobelbcbcaaaGreatDoorE3
import Derived.KernelRfl
set_option linter.unusedVariables false
set_option linter.unusedSimpArgs false
set_option linter.unnecessarySimpa false
namespace Go.Eng
open Classical in
noncomputable def qLh {α β:Type} (L:List (α × β)) (v:α):Option β:=(L.find? fun x=>decide (x.1 = v)).map (·.2)
theorem fh {IP:Prog} {T:Tab} {f:Nat} {p:PArgs} {rs:List PRes} {G:Tup (qdE p) -> Option (RT rs)} (F:Fun) (t:Tup (qdE p) -> DT (RT rs)) (hT:qao IP T) (hl:loops F.body = []:=by kernel_rfl) (hF:IP.fn f = some F:=by kernel_rfl)
  (hb:∀ v,qKa (R:=RT rs) IP (qv7 T) (qri []) f F (aE p v) (aH p v) (rD rs) = (t v).ev:=by intro v; kernel_rfl) (hG:∀ v,G v = (t v).ev:=by intro v; exact qab _):FH IP f p rs G:=
 qak hT (qae (l:=[]) hl trivial) hF hb hG
theorem lp {IP:Prog} {T:Tab} {keep:List Nat} {c:ICode} {hs:List PSt} (I:Inhabited (qs5 (hs.map qrb))) {ex:List (qs5 (hs.map qrb) -> X × St)} (st:qs5 (hs.map qrb) -> DT (Rd (qs5 (hs.map qrb)))) {lo:qs5 (hs.map qrb) -> Option (Nat × qs5 (hs.map qrb))} (hT:qao IP T)
  (hlo:∀ v,lo v = qaw (fun v=>(st v).ev) v) (h:loops c = []:=by kernel_rfl) (hn:∀ v,norm (hk keep) (hE hs v) = some (hE hs v):=by intro v; kernel_rfl)
  (hst:∀ v,qgJ IP (qv7 T) (qri []) c (hE hs v) (qR1 keep (hD hs)) = (cvX ex v (st v)).ev:=by intro v; kernel_rfl):Told IP keep c (LE (hD hs) lo ex):=
 qaF I hT (qae (l:=[]) h trivial) hlo hn hst
end Go.Eng

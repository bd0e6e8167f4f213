/- What is said of a function at a few arguments alone: the machine's own runs. -/
import Derived.Test.YthljpgljbpdmjaaGreatDoorE3
import Derived.KernelRfl
set_option linter.unusedVariables false
set_option linter.unusedSimpArgs false
set_option linter.unnecessarySimpa false
namespace Go.Eng
open Classical in
noncomputable def qR5 {α β:Type} (L:List (α × β)) (v:α):Option β:=(L.find? fun x=>decide (x.1 = v)).map (·.2)
theorem fh {IP:Prog} {T:Tab} {f:Nat} {p:PArgs} {rs:List PRes} {G:Tup (qcv p) -> Option (RT rs)} (F:Fun) (t:Tup (qcv p) -> DT (RT rs)) (hT:qai IP T) (hl:loops F.body = []:=by kernel_rfl) (hF:IP.fn f = some F:=by kernel_rfl)
  (hb:∀ v,qIO (R:=RT rs) IP (qyO T) (qt6 []) f F (aE p v) (aH p v) (rD rs) = (t v).ev:=by intro v; kernel_rfl) (hG:∀ v,G v = (t v).ev:=by intro v; exact qaa _):FH IP f p rs G:=
 qag hT (qab (l:=[]) hl trivial) hF hb hG
theorem lp {IP:Prog} {T:Tab} {keep:List Nat} {c:ICode} {hs:List PSt} (I:Inhabited (qvI (hs.map qtU))) {ex:List (qvI (hs.map qtU) -> X × St)} (st:qvI (hs.map qtU) -> DT (Rd (qvI (hs.map qtU)))) {lo:qvI (hs.map qtU) -> Option (Nat × qvI (hs.map qtU))} (hT:qai IP T)
  (hlo:∀ v,lo v = qap (fun v=>(st v).ev) v) (h:loops c = []:=by kernel_rfl) (hn:∀ v,norm (hk keep) (hE hs v) = some (hE hs v):=by intro v; kernel_rfl)
  (hst:∀ v,qiH IP (qyO T) (qt6 []) c (hE hs v) (qZx keep (hD hs)) = (cvX ex v (st v)).ev:=by intro v; kernel_rfl):Told IP keep c (LE (hD hs) lo ex):=
 qar I hT (qab (l:=[]) h trivial) hlo hn hst
end Go.Eng

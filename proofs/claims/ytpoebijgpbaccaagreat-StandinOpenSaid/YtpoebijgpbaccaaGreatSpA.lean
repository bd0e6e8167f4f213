/- What is said of a function at a few arguments alone: the machine's own runs. -/
import Derived.Test.YtpoebijgpbaccaaGreatE3
import Derived.KernelRfl
set_option linter.unusedVariables false
set_option linter.unusedSimpArgs false
set_option linter.unnecessarySimpa false
namespace Go.Eng
open Classical in
noncomputable def qOh {α β:Type} (L:List (α × β)) (v:α):Option β:=(L.find? fun x=>decide (x.1 = v)).map (·.2)
theorem fh {IP:Prog} {T:Tab} {f:Nat} {p:PArgs} {rs:List PRes} {G:Tup (qcZ p) -> Option (RT rs)} (F:Fun) (t:Tup (qcZ p) -> DT (RT rs)) (hT:qau IP T) (hl:loops F.body = []:=by kernel_rfl) (hF:IP.fn f = some F:=by kernel_rfl)
  (hb:∀ v,qEP (R:=RT rs) IP (qwq T) (qqx []) f F (aE p v) (aH p v) (rD rs) = (t v).ev:=by intro v; kernel_rfl) (hG:∀ v,G v = (t v).ev:=by intro v; exact qaa _):FH IP f p rs G:=
 qam hT (qae (l:=[]) hl trivial) hF hb hG
theorem lp {IP:Prog} {T:Tab} {keep:List Nat} {c:ICode} {hs:List PSt} (I:Inhabited (qsw (hs.map qqt))) {ex:List (qsw (hs.map qqt) -> X × St)} (st:qsw (hs.map qqt) -> DT (Rd (qsw (hs.map qqt)))) {lo:qsw (hs.map qqt) -> Option (Nat × qsw (hs.map qqt))} (hT:qau IP T)
  (hlo:∀ v,lo v = qah (fun v=>(st v).ev) v) (h:loops c = []:=by kernel_rfl) (hn:∀ v,norm (hk keep) (hE hs v) = some (hE hs v):=by intro v; kernel_rfl)
  (hst:∀ v,qhR IP (qwq T) (qqx []) c (hE hs v) (qUZ keep (hD hs)) = (cvX ex v (st v)).ev:=by intro v; kernel_rfl):Told IP keep c (LE (hD hs) lo ex):=
 qaj I hT (qae (l:=[]) h trivial) hlo hn hst
end Go.Eng

/- What is said of a function at a few arguments alone: the machine's own runs. -/
import Derived.Test.YtbieppilagmdjaaGreatDoorE3
import Derived.KernelRfl
set_option linter.unusedVariables false
set_option linter.unusedSimpArgs false
set_option linter.unnecessarySimpa false
namespace Go.Eng
open Classical in
noncomputable def q5y {α β:Type} (L:List (α × β)) (v:α):Option β:=(L.find? fun x=>decide (x.1 = v)).map (·.2)
open Classical in
noncomputable def q5x (IP:Prog) (f:Nat):Option Bool:=if qal IP f [] [] = some (.ret (.bool true),[]) then some true else none
theorem fh {IP:Prog} {T:Tab} {f:Nat} {p:PArgs} {rs:List PRes} {G:Tup (qeV p) -> Option (RT rs)} (F:Fun) (t:Tup (qeV p) -> DT (RT rs)) (hT:qap IP T) (hl:loops F.body = []:=by kernel_rfl) (hF:IP.fn f = some F:=by kernel_rfl)
  (hb:∀ v,qFk (R:=RT rs) IP (qzu T) (qsQ []) f F (aE p v) (aH p v) (rD rs) = (t v).ev:=by intro v; kernel_rfl) (hG:∀ v,G v = (t v).ev:=by intro v; exact qaa _):FH IP f p rs G:=
 qaj hT (qaf (l:=[]) hl trivial) hF hb hG
theorem lp {IP:Prog} {T:Tab} {keep:List Nat} {c:ICode} {hs:List PSt} (I:Inhabited (qyE (hs.map qw4))) {ex:List (qyE (hs.map qw4) -> X × St)} (st:qyE (hs.map qw4) -> DT (Rd (qyE (hs.map qw4)))) {lo:qyE (hs.map qw4) -> Option (Nat × qyE (hs.map qw4))} (hT:qap IP T)
  (hlo:∀ v,lo v = qat (fun v=>(st v).ev) v) (h:loops c = []:=by kernel_rfl) (hn:∀ v,norm (hk keep) (hE hs v) = some (hE hs v):=by intro v; kernel_rfl)
  (hst:∀ v,qfX IP (qzu T) (qsQ []) c (hE hs v) (qPh keep (hD hs)) = (cvX ex v (st v)).ev:=by intro v; kernel_rfl):Told IP keep c (LE (hD hs) lo ex):=
 qaF I hT (qaf (l:=[]) h trivial) hlo hn hst
end Go.Eng

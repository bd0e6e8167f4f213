/- What is said of a function at a few arguments alone: the machine's own runs. -/
import Derived.Test.YtjhhnkemeegahaaGreatDoorE3
import Derived.KernelRfl
set_option linter.all false
namespace Go.Eng
open Classical in
noncomputable def q6i{α β:Type}(L:List (α×β))(v:α):Option β:=(L.find? fun x=>decide (x.1=v)).map (·.2)
theorem fh{IP:Prog}{T:Tab}{f:Nat}{p:PArgs}{rs:List PRes}{G:Tup (qey p)->Option (RT rs)}(F:Fun)(t:Tup (qey p)->DT (RT rs))(hT:qan IP T)(hl:loops F.body= []:=by kernel_rfl)(hF:IP.fn f=some F:=by kernel_rfl)
  (hb:∀v,qTx (R:=RT rs) IP (qF6 T) (qzZ []) f F (aE p v) (aH p v) (rD rs)=(t v).ev:=by intro v;kernel_rfl) (hG:∀v,G v=(t v).ev:=by intro v;exact qaa _):FH IP f p rs G:=
 qah hT (qac (l:=[]) hl trivial) hF hb hG
theorem lp{IP:Prog}{T:Tab}{keep:List Nat}{c:ICode}{hs:List PSt}(I:Inhabited (qCr (hs.map qzD))){ex:List (qCr (hs.map qzD)->X×St)}(st:qCr (hs.map qzD)->DT (Rd (qCr (hs.map qzD)))){lo:qCr (hs.map qzD)->Option (Nat×qCr (hs.map qzD))}(hT:qan IP T)
  (hlo:∀v,lo v=qaf (fun v=>(st v).ev) v) (h:loops c= []:=by kernel_rfl) (hn:∀v,norm (hk keep) (hE hs v)=some (hE hs v):=by intro v;kernel_rfl)
  (hst:∀v,qjA IP (qF6 T) (qzZ []) c (hE hs v) (zeN keep (hD hs))=(cvX ex v (st v)).ev:=by intro v;kernel_rfl):Told IP keep c (LE (hD hs) lo ex):=
 qav I hT (qac (l:=[]) h trivial) hlo hn hst
end Go.Eng

/- What is said of a function at a few arguments alone: the machine's own runs. -/
import Derived.Test.YtjhhnkemeegahaaGreatDoorE3
import Derived.KernelRfl
set_option linter.all false
namespace Go.Eng
open Classical in
noncomputable def q68{α β:Type}(L:List (α×β))(v:α):Option β:=(L.find? fun x=>decide (x.1=v)).map (·.2)
open Classical in
noncomputable def qWO(IP:Prog)(f:Nat):Option Bool:=if qa9 IP f [] []=some (.ret (.bool true),[])then some true else none
theorem q6g{IP:Prog}{f:Nat}{z:Bool}(h:qWO IP f=some z):qa9 IP f [] []=some (.ret (.bool z),[]):=by
 unfold qWO at h;split at h
 ·rename_i e;cases h;exact e
 ·cases h
theorem qWP{IP:Prog}{f:Nat}(h:qa9 IP f [] []=some (.ret (.bool true),[])):qWO IP f=some true:=by
 unfold qWO;exact jAr h
theorem fh{IP:Prog}{T:Tab}{f:Nat}{p:PArgs}{rs:List PRes}{G:Tup (qeK p)->Option (RT rs)}(F:Fun)(t:Tup (qeK p)->DT (RT rs))(hT:qao IP T)(hl:loops F.body= []:=by kernel_rfl)(hF:IP.fn f=some F:=by kernel_rfl)
  (hb:∀v,qUo (R:=RT rs) IP (qGY T) (qA0 []) f F (aE p v) (aH p v) (rD rs)=(t v).ev:=by intro v;kernel_rfl) (hG:∀v,G v=(t v).ev:=by intro v;exact qaa _):FH IP f p rs G:=
 qag hT (qac (l:=[]) hl trivial) hF hb hG
theorem lp{IP:Prog}{T:Tab}{keep:List Nat}{c:ICode}{hs:List PSt}(I:Inhabited (qDc (hs.map qAI))){ex:List (qDc (hs.map qAI)->X×St)}(st:qDc (hs.map qAI)->DT (Rd (qDc (hs.map qAI)))){lo:qDc (hs.map qAI)->Option (Nat×qDc (hs.map qAI))}(hT:qao IP T)
  (hlo:∀v,lo v=qae (fun v=>(st v).ev) v) (h:loops c= []:=by kernel_rfl) (hn:∀v,norm (hk keep) (hE hs v)=some (hE hs v):=by intro v;kernel_rfl)
  (hst:∀v,qjR IP (qGY T) (qA0 []) c (hE hs v) (zgb keep (hD hs))=(cvX ex v (st v)).ev:=by intro v;kernel_rfl):Told IP keep c (LE (hD hs) lo ex):=
 qat I hT (qac (l:=[]) h trivial) hlo hn hst
end Go.Eng

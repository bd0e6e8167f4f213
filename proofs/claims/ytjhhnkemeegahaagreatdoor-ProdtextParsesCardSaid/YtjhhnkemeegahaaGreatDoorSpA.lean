/- What is said of a function at a few arguments alone: the machine's own runs. -/
import Derived.Test.YtjhhnkemeegahaaGreatDoorE3
set_option linter.all false
namespace Go.Eng
open Classical in
noncomputable def q4i{α β:Type}(L:List (α×β))(v:α):Option β:=(L.find? fun x=>decide (x.1=v)).map (·.2)
open Classical in
noncomputable def qT7(IP:Prog)(f:Nat):Option Bool:=if qba IP f [] []=some (.ret (.bool true),[])then some true else none
theorem q3s{IP:Prog}{f:Nat}{z:Bool}(h:qT7 IP f=some z):qba IP f [] []=some (.ret (.bool z),[]):=by
 unfold qT7 at h;split at h
 ·rename_i e;cases h;exact e
 ·cases h
theorem qT8{IP:Prog}{f:Nat}(h:qba IP f [] []=some (.ret (.bool true),[])):qT7 IP f=some true:=by
 unfold qT7;exact jAr h
structure Tb (IP:Prog) where
 t:Tab
 ok:qan IP t
def Tb.a{IP:Prog}(T:Tb IP){f:Nat}{p:PArgs}{rs:List PRes}{G:Tup (qcK p)->Option (RT rs)}(h:FH IP f p rs G):Tb IP:=⟨(f,FE p rs G)::T.t,qam h,T.ok⟩
abbrev TL(IP:Prog)(F:Fun)(k:Nat)(g:qbJ):Prop:=Told IP (qad F k).1 (qad F k).2 g
abbrev ih(α:Type)[h:Inhabited α]:Inhabited α:=h
noncomputable def lo{τ:Type}(st:τ->DT (Rd τ))(v:τ):Option (Nat×τ):=qaC (qae (fun v=>(st v).ev) v)
theorem f1{IP:Prog}{f:Nat}{p:PArgs}{rs:List PRes}{G:Tup (qcK p)->Option (RT rs)}(F:Fun)(n:Nat){g:qbJ}(h:TL IP F 0 g)(t:Tup (qcK p)->DT (RT rs))(T:Tb IP)(hl:loops F.body= [qad F 0]:=by kernel_rfl)(hs:qKp [(n,g)] (qad F 0).1= [g]:=by kernel_rfl)(hF:IP.fn f=some F:=by kernel_rfl)
  (hb:∀v,qD3 (R:=RT rs) IP (qxz T.t) (qs9 [(n,g)]) f F (aE p v) (aH p v) (rD rs)=(t v).ev:=by intro v;kernel_rfl) (hG:∀v,G v=(t v).ev:=by intro v;exact qaa _):FH IP f p rs G:=
 qag T.ok (qac hl ⟨qar hs h,trivial⟩) hF hb hG
theorem f2{IP:Prog}{f:Nat}{p:PArgs}{rs:List PRes}{G:Tup (qcK p)->Option (RT rs)}(F:Fun)(n:Nat){g:qbJ}(h:TL IP F 0 g)(n':Nat){g':qbJ}(h':TL IP F 1 g')(t:Tup (qcK p)->DT (RT rs))(T:Tb IP)(hl:loops F.body= [qad F 0,qad F 1]:=by kernel_rfl)(hs:qKp [(n,g),(n',g')] (qad F 0).1= [g]:=by kernel_rfl)(hs':qKp [(n,g),(n',g')] (qad F 1).1= [g']:=by kernel_rfl)(hF:IP.fn f=some F:=by kernel_rfl)
  (hb:∀v,qD3 (R:=RT rs) IP (qxz T.t) (qs9 [(n,g),(n',g')]) f F (aE p v) (aH p v) (rD rs)=(t v).ev:=by intro v;kernel_rfl) (hG:∀v,G v=(t v).ev:=by intro v;exact qaa _):FH IP f p rs G:=
 qag T.ok (qac hl ⟨qar hs h,qar hs' h',trivial⟩) hF hb hG
theorem fh{IP:Prog}{f:Nat}{p:PArgs}{rs:List PRes}{G:Tup (qcK p)->Option (RT rs)}(F:Fun)(t:Tup (qcK p)->DT (RT rs))(T:Tb IP)(hl:loops F.body= []:=by kernel_rfl)(hF:IP.fn f=some F:=by kernel_rfl)
  (hb:∀v,qD3 (R:=RT rs) IP (qxz T.t) (qs9 []) f F (aE p v) (aH p v) (rD rs)=(t v).ev:=by intro v;kernel_rfl) (hG:∀v,G v=(t v).ev:=by intro v;exact qaa _):FH IP f p rs G:=
 qag T.ok (qac (l:=[]) hl trivial) hF hb hG
theorem lp{IP:Prog}{keep:List Nat}{c:ICode}{hs:List PSt}(I:Inhabited (qAF (hs.map qx8))){ex:List (qAF (hs.map qx8)->X×St)}(st:qAF (hs.map qx8)->DT (Rd (qAF (hs.map qx8)))){lo:qAF (hs.map qx8)->Option (Nat×qAF (hs.map qx8))}(T:Tb IP)
  (hlo:∀v,lo v=qae (fun v=>(st v).ev) v) (h:loops c= []:=by kernel_rfl) (hn:∀v,norm (hk keep) (hE hs v)=some (hE hs v):=by intro v;kernel_rfl)
  (hst:∀v,qi1 IP (qxz T.t) (qs9 []) c (hE hs v) (zdc keep (hD hs))=(cvX ex v (st v)).ev:=by intro v;kernel_rfl):Told IP keep c (LE (hD hs) lo ex):=
 qas I T.ok (qac (l:=[]) h trivial) hlo hn hst
end Go.Eng

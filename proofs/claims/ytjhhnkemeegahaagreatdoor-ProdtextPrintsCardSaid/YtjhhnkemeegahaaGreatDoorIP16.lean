/- The program of a seat for the machine. -/
import Derived.Test.YtjhhnkemeegahaaGreatDoorIr16
import Derived.KernelRfl
import Derived.Test.YtjhhnkemeegahaaGreatDoorE4
import Derived.Test.YtjhhnkemeegahaaGreatDoorTkA
import Derived.Test.YtjhhnkemeegahaaGreatDoorIP16a
set_option linter.all false
namespace Go.Proofs.H16
open Go Go.Eng Go.Tk
set_option maxRecDepth 20000
def qFk:Nat->Option (List AV->Heap->Option (Res×Heap)):=fun f=>if f=87 then some (gOf qtH)else if f=62 then some (gOf qhP)else if f=227 then some (gOf zgs)else if f=201 then some (gOf (qqF 240))else if f=155 then some (gOf (qDi 240))else if f=120 then some (gOf quY)else if f=178 then some (gOf qxf)else if f=112 then some (gOf zgK)else if f=152 then some (gOf qGZ)else if f=153 then some (gOf upE)else if f=40 then some (gOf (qmi 3 32))else if f=22 then some (gOf putE)else none
noncomputable def IP:Prog:={ fn:=qP6 tab,mv:=fun _=>false,fresh:=fun _=>false,spec:=qFk,seen:=fun f=>if f=24 then some (qns 66)else if f=157 then some (qpn 209 56 202)else none,imp:=fun f=>f==41||f==89||f==90||f==91||f==92||f==93||f==94||f==95||f==96||f==97||f==98||f==99||f==17||f==18||f==19||f==21||f==22||f==58||f==59||f==64||f==241||f==242||f==243||f==209||f==267||f==268||f==269||f==283||f==286||f==287 }
noncomputable def zgv:Ent:=fun a h=>match a,h with
 | [.view 3 es],[]=>[(jB IP 24 es,.ret (.tup [.str (jS IP 24 es),.int .i64 (jN IP 24 es)]),[])]
 |_,_=>[]
theorem zxa:Snd IP 24 zgv:=by
 intro a h r h' hm;unfold zgv at hm;split at hm
 ·simp only[jAt,jAd,jBv (a:=true)]at hm;obtain⟨h1,rfl,rfl⟩:=hm;exact zaK h1
 ·cases hm
theorem zxc:Snd IP 87 qtH:=qh6 (by kernel_rfl) (by kernel_rfl) (qgT qNL)
theorem zs7:Snd IP 62 qhP:=qh6 (by kernel_rfl) (by kernel_rfl) (qgT quK)
theorem zs6:Snd IP 227 zgs:=qh6 (by kernel_rfl) (by kernel_rfl) (qgT q52)
theorem zs5:Snd IP 201 (qqF 240):=qh6 (by kernel_rfl) (by kernel_rfl) qQf
theorem zs2:Snd IP 155 (qDi 240):=qh6 (by kernel_rfl) (by kernel_rfl) qUf
theorem zsZ:Snd IP 120 quY:=qh6 (by kernel_rfl) (by kernel_rfl) (qgT qPT)
theorem zs4:Snd IP 178 qxf:=qh6 (by kernel_rfl) (by kernel_rfl) (qgT qQy)
theorem zsY:Snd IP 112 zgK:=qh6 (by kernel_rfl) (by kernel_rfl) (qgT q6h)
theorem zs0:Snd IP 152 qGZ:=qh6 (by kernel_rfl) (by kernel_rfl) (qgT qUu)
theorem zs1:Snd IP 153 upE:=qh6 (by kernel_rfl) (by kernel_rfl) (qgT ziu)
theorem zw9:Snd IP 22 putE:=qh6 (by kernel_rfl) (by kernel_rfl) (qgT q6N)
theorem zxb:Snd IP 40 (qmi 3 32):=qh6 (by kernel_rfl) (by kernel_rfl) (qgT (qG1 3 32))
def IPf:Prog:={ fn:=fun _=>none,mv:=fun _=>false,fresh:=fun _=>true }
theorem zqo:body IPf noC noL 40 F40 [.nils ⟨3,.nil⟩] []=some (.ret (.nils ⟨3,.nil⟩),[]):=by kernel_rfl
theorem zqp:body IPf noC noL 40 F40 [.nils ⟨3,.non⟩] []=some (.ret (.nils ⟨3,.any⟩),[]):=by kernel_rfl
theorem zqq(es:List AV)(h0:es.length≠0)(h1:es.length*32<=lim):body IPf noC noL 40 F40 [.view 3 es] []=some (.ret (.own 0 0 none),[(0,.arr 3 es false)]):=
 qNJ (b:=decide (3=3)) (c:=decide (3=3)&&decide (3=3)) (x:=(.ret (.nils ⟨3,.any⟩),[])) (fun es=>by kernel_rfl) (by kernel_rfl) es h0 h1
noncomputable def zbM:Ent:=zsL IP 157
theorem zs3:Snd IP 157 zbM:=zg2 IP 157
end Go.Proofs.H16

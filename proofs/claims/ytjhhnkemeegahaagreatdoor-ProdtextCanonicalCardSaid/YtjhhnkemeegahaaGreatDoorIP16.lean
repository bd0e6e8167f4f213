/- The program of a seat for the machine. -/
import Derived.Test.YtjhhnkemeegahaaGreatDoorIr16
import Derived.KernelRfl
import Derived.Test.YtjhhnkemeegahaaGreatDoorE4
import Derived.Test.YtjhhnkemeegahaaGreatDoorTkA
import Derived.Test.YtjhhnkemeegahaaGreatDoorIP16a
set_option linter.all false
namespace Go.Proofs.H16
open Go Go.Eng Go.Tk
set_option maxRecDepth 20000
def qEw:Nat->Option (List AV->Heap->Option (Res×Heap)):=fun f=>if f=87 then some (gOf qsO)else if f=62 then some (gOf qhD)else if f=227 then some (gOf ze9)else if f=201 then some (gOf (qp2 240))else if f=155 then some (gOf (qCx 240))else if f=120 then some (gOf qt4)else if f=178 then some (gOf qwl)else if f=112 then some (gOf zfp)else if f=152 then some (gOf qF7)else if f=153 then some (gOf upE)else if f=40 then some (gOf (qlW 3 32))else if f=22 then some (gOf putE)else none
noncomputable def IP:Prog:={ fn:=qO8 tab,mv:=fun _=>false,fresh:=fun _=>false,spec:=qEw,seen:=fun f=>if f=24 then some (qm1 66)else if f=157 then some (qu2 209 56 202)else none,imp:=fun f=>f==41||f==89||f==90||f==91||f==92||f==93||f==94||f==95||f==96||f==97||f==98||f==99||f==17||f==18||f==19||f==21||f==22||f==58||f==59||f==64||f==241||f==242||f==243||f==209||f==267||f==268||f==269||f==283||f==286||f==287 }
noncomputable def zfc:Ent:=fun a h=>match a,h with
 | [.view 3 es],[]=>[(jB IP 24 es,.ret (.tup [.str (jS IP 24 es),.int .i64 (jN IP 24 es)]),[])]
 |_,_=>[]
theorem zwN:Snd IP 24 zfc:=by
 intro a h r h' hm;unfold zfc at hm;split at hm
 ·simp only[jAt,jAd,jBv (a:=true)]at hm;obtain⟨h1,rfl,rfl⟩:=hm;exact zlk h1
 ·cases hm
theorem zwP:Snd IP 87 qsO:=qhW (by kernel_rfl) (by kernel_rfl) (qgG qMV)
theorem zsx:Snd IP 62 qhD:=qhW (by kernel_rfl) (by kernel_rfl) (qgG qtM)
theorem zsw:Snd IP 227 ze9:=qhW (by kernel_rfl) (by kernel_rfl) (qgG q5c)
theorem zsv:Snd IP 201 (qp2 240):=qhW (by kernel_rfl) (by kernel_rfl) qPg
theorem zss:Snd IP 155 (qCx 240):=qhW (by kernel_rfl) (by kernel_rfl) qTo
theorem zsp:Snd IP 120 qt4:=qhW (by kernel_rfl) (by kernel_rfl) (qgG qON)
theorem zsu:Snd IP 178 qwl:=qhW (by kernel_rfl) (by kernel_rfl) (qgG qPG)
theorem zso:Snd IP 112 zfp:=qhW (by kernel_rfl) (by kernel_rfl) (qgG q5p)
theorem zsq:Snd IP 152 qF7:=qhW (by kernel_rfl) (by kernel_rfl) (qgG qTE)
theorem zsr:Snd IP 153 upE:=qhW (by kernel_rfl) (by kernel_rfl) (qgG zg9)
theorem zwM:Snd IP 22 putE:=qhW (by kernel_rfl) (by kernel_rfl) (qgG q5W)
theorem zwO:Snd IP 40 (qlW 3 32):=qhW (by kernel_rfl) (by kernel_rfl) (qgG (qF9 3 32))
def IPf:Prog:={ fn:=fun _=>none,mv:=fun _=>false,fresh:=fun _=>true }
theorem zpI:body IPf noC noL 40 F40 [.nils ⟨3,.nil⟩] []=some (.ret (.nils ⟨3,.nil⟩),[]):=by kernel_rfl
theorem zpJ:body IPf noC noL 40 F40 [.nils ⟨3,.non⟩] []=some (.ret (.nils ⟨3,.any⟩),[]):=by kernel_rfl
theorem zpK(es:List AV)(h0:es.length≠0)(h1:es.length*32<=lim):body IPf noC noL 40 F40 [.view 3 es] []=some (.ret (.own 0 0 none),[(0,.arr 3 es false)]):=
 qMT (b:=decide (3=3)) (c:=decide (3=3)&&decide (3=3)) (x:=(.ret (.nils ⟨3,.any⟩),[])) (fun es=>by kernel_rfl) (by kernel_rfl) es h0 h1
noncomputable def zaS:Ent:=zsb IP 157
theorem zst:Snd IP 157 zaS:=zfG IP 157
end Go.Proofs.H16

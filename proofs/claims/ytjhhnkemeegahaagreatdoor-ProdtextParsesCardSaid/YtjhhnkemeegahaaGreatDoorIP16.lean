/- The program of a seat for the machine. -/
import Derived.Test.YtjhhnkemeegahaaGreatDoorIr16
import Derived.Test.YtjhhnkemeegahaaGreatDoorTkA
set_option linter.all false
namespace Go.Proofs.H16
open Go Go.Eng Go.Tk
set_option maxRecDepth 20000
instance globs:Globs:=⟨fun g=>if g=0 then some qxu else if g=4 then some [qR7 280]else if g=5 then some [qR7 280]else if g=8 then some (Lib.pow10Tab.map (.int .u64))else none⟩
def zer:Nat->Option (List AV->Heap->Option (Res×Heap)):=fun f=>if f=87 then some (gOf qrA)else if f=62 then some (gOf qlI)else if f=227 then some (gOf zdz)else if f=201 then some (gOf (qo2 240))else if f=155 then some (gOf (qAK 240))else if f=120 then some (gOf qsO)else if f=178 then some (gOf quT)else if f=112 then some (gOf zdQ)else if f=152 then some (gOf qD8)else if f=153 then some (gOf upE)else if f=40 then some (gOf (qlh 3 32))else none
noncomputable def IP:Prog:={ fn:=qUD tab,mv:=fun _=>false,fresh:=fun _=>false,spec:=zer,seen:=fun f=>if f=24 then some (qml 66)else if f=157 then some (qnW 209 56 202)else none,imp:=fun f=>f==41||f==89||f==90||f==91||f==92||f==93||f==94||f==95||f==96||f==97||f==98||f==99||f==17||f==18||f==19||f==21||f==22||f==58||f==59||f==64||f==241||f==242||f==243||f==209||f==267||f==268||f==269||f==283||f==286||f==287 }
noncomputable def zdD:Ent:=fun a h=>match a,h with
 | [.view 3 es],[]=>[(jB IP 24 es,.ret (.tup [.str (jS IP 24 es),.int .i64 (jN IP 24 es)]),[])]
 |_,_=>[]
theorem zuq:Snd IP 24 zdD:=by
 intro a h r h' hm;unfold zdD at hm;split at hm
 ·simp only[jAt,jAd,jBv (a:=true)]at hm;obtain⟨h1,rfl,rfl⟩:=hm;exact q7R h1
 ·cases hm
theorem zut:Snd IP 87 qrA:=qjs (by kernel_rfl) (by kernel_rfl) (qiu qK0)
theorem zus:Snd IP 62 qlI:=qjs (by kernel_rfl) (by kernel_rfl) (qiu qFg)
theorem zqw:Snd IP 227 zdz:=qjs (by kernel_rfl) (by kernel_rfl) (qiu q3f)
theorem zqv:Snd IP 201 (qo2 240):=qjs (by kernel_rfl) (by kernel_rfl) qNh
theorem zqs:Snd IP 155 (qAK 240):=qjs (by kernel_rfl) (by kernel_rfl) qRv
theorem zqp:Snd IP 120 qsO:=qjs (by kernel_rfl) (by kernel_rfl) (qiu qML)
theorem zqu:Snd IP 178 quT:=qjs (by kernel_rfl) (by kernel_rfl) (qiu qNK)
theorem zqo:Snd IP 112 zdQ:=qjs (by kernel_rfl) (by kernel_rfl) (qiu q3u)
theorem zqq:Snd IP 152 qD8:=qjs (by kernel_rfl) (by kernel_rfl) (qiu qRI)
theorem zqr:Snd IP 153 upE:=qjs (by kernel_rfl) (by kernel_rfl) (qiu zfr)
theorem zur:Snd IP 40 (qlh 3 32):=qjs (by kernel_rfl) (by kernel_rfl) (qiu (qEa 3 32))
def IPf:Prog:={ fn:=fun _=>none,mv:=fun _=>false,fresh:=fun _=>true }
theorem zn0:body IPf noC noL 40 F40 [.nils ⟨3,.nil⟩] []=some (.ret (.nils ⟨3,.nil⟩),[]):=by kernel_rfl
theorem zn1:body IPf noC noL 40 F40 [.nils ⟨3,.non⟩] []=some (.ret (.nils ⟨3,.any⟩),[]):=by kernel_rfl
theorem zn2(es:List AV)(h0:es.length≠0)(h1:es.length*32<=lim):body IPf noC noL 40 F40 [.view 3 es] []=some (.ret (.own 0 0 none),[(0,.arr 3 es false)]):=
 qKY (b:=decide (3=3)) (c:=decide (3=3)&&decide (3=3)) (x:=(.ret (.nils ⟨3,.any⟩),[])) (fun es=>by kernel_rfl) (by kernel_rfl) es h0 h1
noncomputable def q8U:Ent:=zqg IP 157
theorem zqt:Snd IP 157 q8U:=zd5 IP 157
end Go.Proofs.H16

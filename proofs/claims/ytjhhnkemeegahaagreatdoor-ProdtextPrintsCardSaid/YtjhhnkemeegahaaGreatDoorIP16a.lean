/- The program of a seat for the machine. -/
import Derived.Test.YtjhhnkemeegahaaGreatDoorIr16a
import Derived.KernelRfl
import Derived.Test.YtjhhnkemeegahaaGreatDoorE4
set_option linter.all false
namespace Go.Proofs.H16a
open Go Go.Eng
set_option maxRecDepth 20000
instance globs:Globs:=⟨fun g=>if g=0 then some qAa else if g=4 then some [qUT 280]else if g=5 then some [qUT 280]else if g=8 then some (Lib.pow10Tab.map (.int .u64))else none⟩
def qFk:Nat->Option (List AV->Heap->Option (Res×Heap)):=fun f=>if f=62 then some (gOf qhP)else none
noncomputable def IP:Prog:={ fn:=qP6 tab,mv:=fun _=>false,fresh:=fun _=>false,spec:=qFk,imp:=fun f=>f==22||f==64 }
theorem zs7:Snd IP 62 qhP:=qh6 (by kernel_rfl) (by kernel_rfl) (qgT quK)
end Go.Proofs.H16a

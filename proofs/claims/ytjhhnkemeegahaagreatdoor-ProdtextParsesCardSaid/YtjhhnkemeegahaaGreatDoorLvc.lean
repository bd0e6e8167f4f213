/- A definition with an error -/
import Derived.Test.YtjhhnkemeegahaaGreatDoorLva
set_option linter.all false
namespace Go.Proofs.H16
open Go Go.Eng Go.Tk
set_option maxRecDepth 100000
def noP:Pr:=⟨[],[],[],0,0,0,0,⟨[],false,0,0,false⟩,⟨[],false,0,0,false⟩,[],[]⟩
theorem fS2:qba IP 11 [.str sF] []=some (.ret (.tup [pV noP,.int .i64 2,.int .i64 2]),[]):=
 qAS qoM (K:=[(39,[.str sF],(.ret (.tup [.view 3 (ET tF),.int .i64 0,.int .i64 0]),[]))]) (fun x hx=>by
  simp only[jAc,jAp,jBp]at hx;rcases hx with rfl;exact fU) 200 (by kernel_rfl)
end Go.Proofs.H16

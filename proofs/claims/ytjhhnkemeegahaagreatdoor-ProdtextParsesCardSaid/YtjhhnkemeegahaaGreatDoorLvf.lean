/- What every statement of the chapter runs first -/
import Derived.Test.YtjhhnkemeegahaaGreatDoorLvb
import Derived.Test.YtjhhnkemeegahaaGreatDoorLvc
import Derived.Test.YtjhhnkemeegahaaGreatDoorLve
set_option linter.all false
namespace Go.Proofs.H16
open Go Go.Eng Go.Tk
set_option maxRecDepth 100000
theorem zdN:qba IP 8 [] []=some (.ret (.bool true),[]):=
 qAS qoM (K:=[(9,[pV pE],(.ret (.tup [.str sE,.int .i64 0]),[])),(9,[pV { pE with cur:=[69,85,82,79] }],(.ret (.tup [.str [],.int .i64 1]),[])),(11,[.str sE],(.ret (.tup [pV pE,.int .i64 0,.int .i64 0]),[])),(11,[.str sF],(.ret (.tup [pV noP,.int .i64 2,.int .i64 2]),[]))]) (fun x hx=>by
  simp only[jAc,jAp,jBp]at hx;rcases hx with rfl|rfl|rfl|rfl
  ·exact fP1
  ·exact fP2
  ·exact fS1
  ·exact fS2) 200 (by kernel_rfl)
end Go.Proofs.H16

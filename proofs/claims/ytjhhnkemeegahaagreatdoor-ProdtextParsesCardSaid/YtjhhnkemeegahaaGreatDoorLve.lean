/- The chapter's example is read -/
import Derived.Test.YtjhhnkemeegahaaGreatDoorLvd
set_option linter.all false
namespace Go.Proofs.H16
open Go Go.Eng Go.Tk
set_option maxRecDepth 100000
theorem fS1:qba IP 11 [.str sE] []=some (.ret (.tup [pV pE,.int .i64 0,.int .i64 0]),[]):=
 qAS qoM (K:=[(39,[.str sE],(.ret (.tup [.view 3 (ET tE),.int .i64 0,.int .i64 0]),[])),(157,[.view 3 (ET tE),.int .i64 49],paF (12,0,[],EX [.mk 1 1 [] [],.mk 1 2 [] []],52,0)),(157,[.view 3 (ET tE),.int .i64 53],paF (2,250,[],EX [],55,0)),(157,[.view 3 (ET tE),.int .i64 59],paF (2,100000,[],EX [],61,0))]) (fun x hx=>by
  simp only[jAc,jAp,jBp]at hx;rcases hx with rfl|rfl|rfl|rfl
  ·exact fT
  ·exact fE1
  ·exact fE2
  ·exact fE3) 300 (by kernel_rfl)
end Go.Proofs.H16

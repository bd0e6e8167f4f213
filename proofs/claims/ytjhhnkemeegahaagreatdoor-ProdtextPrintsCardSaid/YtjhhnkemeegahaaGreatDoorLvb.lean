/- The chapter's example is printed -/
import Derived.Test.YtjhhnkemeegahaaGreatDoorLva
set_option linter.all false
namespace Go.Proofs.H16
open Go Go.Eng Go.Tk
set_option maxRecDepth 100000
theorem fP1:qa9 IP 9 [pV pE] []=some (.ret (.tup [.str sE,.int .i64 0]),[]):=
 qDq qqo (K:=[(24,[.view 3 (ET tE)],(.ret (.tup [.str sE,.int .i64 0]),[])),(126,[],(.ret (.view 1 (ES wordsS)),[]))]) (fun x hx=>by
  simp only[jAc,jAp,jBp]at hx;rcases hx with rfl|rfl
  ·exact fJ
  ·exact fW) 200 (by kernel_rfl)
end Go.Proofs.H16

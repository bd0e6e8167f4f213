/- The example's expressions -/
import Derived.Test.YtjhhnkemeegahaaGreatDoorLva
set_option linter.all false
namespace Go.Proofs.H16
open Go Go.Eng Go.Tk
set_option maxRecDepth 100000
theorem fE1:qba IP 157 [.view 3 (ET tE),.int .i64 49] []=some (paF (12,0,[],EX [.mk 1 1 [] [],.mk 1 2 [] []],52,0)):=
 qAS qoM (K:=[]) (fun x hx=>by cases hx) 200 (by kernel_rfl)
theorem fE2:qba IP 157 [.view 3 (ET tE),.int .i64 53] []=some (paF (2,250,[],EX [],55,0)):=
 qAS qoM (K:=[]) (fun x hx=>by cases hx) 200 (by kernel_rfl)
theorem fE3:qba IP 157 [.view 3 (ET tE),.int .i64 59] []=some (paF (2,100000,[],EX [],61,0)):=
 qAS qoM (K:=[]) (fun x hx=>by cases hx) 200 (by kernel_rfl)
end Go.Proofs.H16

/- The chapter's example is printed -/
import Derived.Test.YtjhhnkemeegahaaGreatDoorLva
set_option linter.all false
namespace Go.Proofs.H16
open Go Go.Eng Go.Tk
set_option maxRecDepth 100000
def wsE:List Bs:=[[112,114,111,100,117,99,116],[98,97,115,105,99],[123],[99,117,114,114,101,110,99,121],[101,117,114],[59],[99,97,108,101,110,100,97,114],[119,101,101,107],[102,114,111,109],[47],[101,118,101,114,121],[111,118,101,114,100,114,97,102,116],[36],[116,97,120],[99,114,101,100,105,116],[109,97,114,103,105,110,97,108],[97,99,116,51,54,53],[104,97,108,102,95,101,118,101,110],[107,101,101,112],[58],[125],[100,101,98,105,116],[119,104,111,108,101],[97,99,116,51,54,48],[117,112],[100,114,111,112],[102,101,101],[108,97,116,101],[114,101,116,117,114,110],[119,104,101,110],[97,109,111,117,110,116,95,111,102],[108,105,109,105,116],[100,97,121],[100,97,105,108,121]]
def wK(w:Bs):Nat×List AV×(Res×Heap):=(65,[.str w],(.ret (.bool (qbT w)),[]))
theorem zqL:∀x∈wsE.map wK,qba IP x.1 x.2.1 []=some x.2.2:=fun x hx=>by
 obtain⟨w,_,rfl⟩:=jCd.1 hx;exact qRH w _ (qfR w)
theorem fP1:qba IP 9 [pV pE] []=some (.ret (.tup [.str sE,.int .i64 0]),[]):=
 qAS qoM (K:=[(24,[.view 3 (ET tE)],(.ret (.tup [.str sE,.int .i64 0]),[])),(126,[],(.ret (.view 1 (ES wordsS)),[]))]++wsE.map wK) (fun x hx=>by
  rcases jAo.1 hx with hx|hx
  ·simp only[jAc,jAp,jBp]at hx;rcases hx with rfl|rfl
   ·exact fJ
   ·exact fW
  ·exact zqL x hx) 200 (by kernel_rfl)
end Go.Proofs.H16

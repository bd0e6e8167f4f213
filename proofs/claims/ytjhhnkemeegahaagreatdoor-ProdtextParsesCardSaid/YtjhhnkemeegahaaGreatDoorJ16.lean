/- Chapter 16: from the machine to the rows. -/
import Derived.Test.YtjhhnkemeegahaaGreatDoorX16Ptz
import Derived.Test.YtjhhnkemeegahaaGreatDoorG16
set_option linter.all false
namespace Go.Proofs.H16
open Go Go.Eng Go.Tk Go.Shelf
set_option maxRecDepth 100000
theorem law4{d:Nat}{avs:List AV}(h:Eng.FitP (Fit maxLen (shT Tryz.prog) d) [(false,[.str])] avs):qba IP 4 avs []=some (.ret (.bool true),[]):=by
 obtain⟨y,r,rfl,⟨_,_,e1,h0,rfl⟩,rfl⟩:=h;cases e1;obtain⟨s,rfl,_⟩:=zdq h0;exact q7k s true (qMA s)
end Go.Proofs.H16

/- The intermediate code of the functions reached. Printed by a program of mine. -/
import Derived.Test.YtjhhnkemeegahaaGreatDoorE4
import Derived.Test.YtjhhnkemeegahaaGreatDoorProg
set_option linter.all false
namespace Go.Proofs.H16a
open Go Go.Eng Tryz
abbrev zi(d:Nat)(o:IOp):IOper:=⟨some d,o,none⟩
abbrev zj(d e:Nat):IOper:=⟨some d,.mov (.t e),none⟩
noncomputable section
abbrev fC:=zpt Tryz.prog
def F22:Fun:=fC [] [[1002200,0,6,7,8,2000000]] f22
def F65:Fun:=fC [] [] f65
def F64:Fun:=fC [] [] f64
def q5d:Fun:=fC [(0,1)] [] f126
def q5c:Fun:=fC [] [] f125
def qGb:Fun:=fC [] [[1018600,0,1,7,8,2000000,4]] f186
def tab:List (Nat×Fun):=[(22,F22),(65,F65),(64,F64),(126,q5d),(125,q5c),(186,qGb)]
end
end Go.Proofs.H16a

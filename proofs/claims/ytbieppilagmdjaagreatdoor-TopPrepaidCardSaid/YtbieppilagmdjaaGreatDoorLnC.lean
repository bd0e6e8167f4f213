/- Loans as values of the machine. -/
import Derived.Test.YtbieppilagmdjaaGreatDoorLnB
import Derived.Test.YtbieppilagmdjaaGreatDoorE1
set_option linter.unusedVariables false
set_option linter.unusedSimpArgs false
set_option linter.unnecessarySimpa false
namespace Go.Tk
open Go Go.Eng
def Du.av (d:Du):AV:=.agg [.int .i64 d.no,.int .i64 d.day,.int .i64 d.pr,.int .i64 d.it]
abbrev EDu (l:List Du):List AV:=l.map Du.av
def ivA:AV -> Int
 | .int _ n=>n
 | _=>0
def duO:AV -> Du
 | .agg [a,b,c,d]=>⟨ivA a,ivA b,ivA c,ivA d⟩
 | _=>⟨0,0,0,0⟩
def dusO (l:List AV):List Du:=l.map duO
theorem qJR:∀ l:List Du,dusO (EDu l) = l
 | []=>rfl
 | d :: l=>by
  show duO d.av :: dusO (EDu l) = d :: l
  rw [qJR l]; rfl
def Pa.av (p:Int × Int):AV:=.agg [.int .i64 p.1,.int .i64 p.2]
abbrev EPa (l:List (Int × Int)):List AV:=l.map Pa.av
def lnV (a0 a1:AV) (s:Ln) (r:List AV):AV:=.agg (a0 :: a1 :: .int .i64 s.st :: .int .i64 s.pp :: .int .i64 s.pi :: r)
def q3v:AV:=.agg [.int .i64 0,.int .i64 0,.int .i64 0,.int .i64 0,.int .i64 0,.int .i64 0,.int .i64 0,.int .i64 0,.int .i64 0,.int .i64 0,.int .i64 0,.int .i64 0,.int .i64 0,.int .i64 0,.int .i64 0,.int .i64 0,.int .i64 0,.int .i64 0,.int .i64 0,.int .i64 0,.int .i64 0,.str [],.str [],.view 4 [],.view 14 []]
def qYX (a0 a1:AV) (s:Ln) (r:List AV) (D:List Du) (n on:Int):AV:=.tup [lnV a0 a1 (payT D n on s) r,.view 2 (EPa (payL D n on s)),.int .i64 0]
def qTa (e:Int):AV:=.tup [q3v,.view 2 [],.int .i64 e]
end Go.Tk

/- Tokens: what follows a token, blanks ahead and behind, lines; texts of joined tokens are read back. -/
import Derived.Test.YtgpbobelbcbcaaaGreatDoorJnA
set_option linter.unusedVariables false
set_option linter.unusedSimpArgs false
set_option linter.unnecessarySimpa false
namespace Go.Tk
open Go Go.Eng
set_option linter.unusedSimpArgs false
set_option linter.unusedVariables false
theorem qvq {p:UInt8 -> Bool} {d:UInt8} (hd:p d = false):∀ (l q:Bs),(l ++ d :: q).takeWhile p = l.takeWhile p
 | [],q=>by simp [List.takeWhile,hd]
 | c :: l,q=>by
  simp only [List.cons_append,List.takeWhile_cons]
  cases p c
  ·rfl
  ·rw [qvq hd l q]
def shT (d:Int) (q:List Tok × Int × Int):List Tok × Int × Int:=(q.1.map fun t=>⟨t.kind,t.line + d,t.text⟩,(bif q.2.2 != 0 then q.2.1 + d else q.2.1),q.2.2)
end Go.Tk

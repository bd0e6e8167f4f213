/- Chapter 15: from the machine to the rows. -/
import Derived.Test.YthljpgljbpdmjaaGreatDoorX15vL
import Derived.Test.YthljpgljbpdmjaaGreatDoorG15v
import Derived.Test.YthljpgljbpdmjaaGreatDoorE3
set_option linter.unusedVariables false
set_option linter.unusedSimpArgs false
set_option linter.unnecessarySimpa false
namespace Go.Proofs.H15v
open Go Go.Eng Go.Tk Go.Shelf
set_option maxRecDepth 100000
theorem law3 {d : Nat} {avs : List AV} (h : FitP (Fit maxLen (shT Tryz.prog) d) [(false, [.int .i64])] avs) : callO IP 3 avs [] = some (.ret (.bool true), []) := by
  obtain ⟨y, r, rfl, ⟨_, _, e1, h1, rfl⟩, rfl⟩ := h
  cases e1
  obtain ⟨n, rfl, _⟩ := fit_int h1
  exact c_u33q n true (Vars_law n)
end Go.Proofs.H15v

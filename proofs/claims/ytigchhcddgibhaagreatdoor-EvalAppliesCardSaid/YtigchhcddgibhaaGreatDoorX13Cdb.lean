/- Code: what the printed functions that examine code come to. -/
import Derived.Test.YtigchhcddgibhaaGreatDoorX13Typ
import Derived.Test.YtigchhcddgibhaaGreatDoorCdB
set_option linter.unusedVariables false
set_option linter.unusedSimpArgs false
set_option linter.unnecessarySimpa false
namespace Go.Proofs.H13
open Go Go.Eng Go.Tk
set_option maxRecDepth 20000
def skA (s : Sk) : AV := .agg [.bool s.kn, .view 1 (EI s.ts)]
abbrev SK (σ : List Sk) : List AV := σ.map skA
abbrev CL (σ : List Sk) : List AV := σ.map (fun s => AV.bool s.bad)
def skR (s : Sk) : AV := .agg [.bool s.kn, .bool s.bad, .view 1 (EI s.ts)]
abbrev SR (σ : List Sk) : List AV := σ.map skR
section
variable {σ : List Sk} {n : Nat}
theorem k0 (h : n < σ.length) : qbH (qaz (SK σ) n 0) = σ[n].kn := by rw [qdC h]; rfl
theorem k1 (h : n < σ.length) : qaj (qaz (SK σ) n 1) = EI σ[n].ts := by rw [qdC h]; rfl
theorem c0 (h : n < σ.length) : qbH (qaz (CL σ) n 0) = σ[n].bad := by rw [qdC h]; rfl
theorem r0 (h : n < σ.length) : qbH (qaz (SR σ) n 0) = σ[n].kn := by rw [qdC h]; rfl
theorem r1 (h : n < σ.length) : qbH (qaz (SR σ) n 1) = σ[n].bad := by rw [qdC h]; rfl
theorem r2 (h : n < σ.length) : qaj (qaz (SR σ) n 2) = EI σ[n].ts := by rw [qdC h]; rfl
end
theorem nz {p : Prop} (h : (9 : Int) = 0) : p := absurd h (by decide)
end Go.Proofs.H13

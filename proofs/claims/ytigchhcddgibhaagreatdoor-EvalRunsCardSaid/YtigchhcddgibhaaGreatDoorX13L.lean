/- Chapter 13: the laws over plain data. -/
import Derived.Test.YtigchhcddgibhaaGreatDoorX13Run
import Derived.Test.YtigchhcddgibhaaGreatDoorX13Typ
import Derived.Test.YtigchhcddgibhaaGreatDoorCdB
import Derived.Test.YtigchhcddgibhaaGreatDoorCdC
import Derived.Test.YtigchhcddgibhaaGreatDoorEvC
import Derived.Test.YtigchhcddgibhaaGreatDoorEvD
set_option linter.unusedVariables false
set_option linter.unusedSimpArgs false
set_option linter.unnecessarySimpa false
namespace Go.Proofs.H13
open Go Go.Eng Go.Tk
set_option maxRecDepth 20000
abbrev sV : List Va := [⟨[97], 1⟩]
abbrev sI : List In := [⟨2, 0, 0⟩, ⟨1, 1, 2⟩, ⟨3, 5, 0⟩]
theorem q2A : qna ⟨1, sV, sI⟩ [⟨1, 5⟩] 3 = (⟨1, 7⟩, 0, 0) := by kernel_rfl
theorem q2z : qna ⟨1, sV, sI⟩ [⟨1, 5⟩] 2 = (⟨0, 0⟩, 0, 8) := by kernel_rfl
theorem qZI : qbc 7 [⟨2, 250⟩, ⟨3, 10000⟩] = (⟨2, 2⟩, 0) := by kernel_rfl
theorem qZJ : qbc 8 [⟨2, -7⟩, ⟨1, 2⟩] = (⟨2, -4⟩, 0) := by kernel_rfl
theorem qZK : qbc 5 [⟨4, 73048⟩, ⟨1, 1⟩] = (⟨0, 0⟩, 6) := by kernel_rfl
theorem qJE {t n : Int} : qbV t n = some (t, n) := by rw [qyi, qjA]; rfl
theorem qeO : qaR = some true := by
 have i5 : ∀ x ∈ [(⟨1, 5⟩ : Vl)], qa6 x.n = true := by decide
 have a1 := qbl (op := 7) (l := [⟨2, 250⟩, ⟨3, 10000⟩]) (by decide) (by decide)
 have a2 := qbl (op := 8) (l := [⟨2, -7⟩, ⟨1, 2⟩]) (by decide) (by decide)
 have a3 := qbl (op := 5) (l := [⟨4, 73048⟩, ⟨1, 1⟩]) (by decide) (by decide)
 rw [qZI] at a1
 rw [qZJ] at a2
 rw [qZK] at a3
 have h3 := qdk (c := ⟨1, sV, sI⟩) (env := [⟨1, 5⟩]) (fuel := 3) (by decide) (by decide) (by decide) i5 (by decide)
 rw [q2A] at h3
 have h4 := qdk (c := ⟨1, sV, sI⟩) (env := [⟨1, 5⟩]) (fuel := 2) (by decide) (by decide) (by decide) i5 (by decide)
 rw [q2z] at h4
 have h5 := qb9 (vs := sV) (env := [⟨1, 5⟩]) (by decide)
 have h6 := qb9 (vs := sV) (env := []) (by decide)
 rw [show qhE sV [⟨1, 5⟩] = true by kernel_rfl] at h5
 rw [show qhE sV [] = false by kernel_rfl] at h6
 have a1' : qaH 7 [AV.agg [AV.int IntKind.i64 2, AV.int IntKind.i64 250], AV.agg [AV.int IntKind.i64 3, AV.int IntKind.i64 10000]] = some (2, 2, 0) := a1
 have a2' : qaH 8 [AV.agg [AV.int IntKind.i64 2, AV.int IntKind.i64 (-7)], AV.agg [AV.int IntKind.i64 1, AV.int IntKind.i64 2]] = some (2, -4, 0) := a2
 have a3' : qaH 5 [AV.agg [AV.int IntKind.i64 4, AV.int IntKind.i64 73048], AV.agg [AV.int IntKind.i64 1, AV.int IntKind.i64 1]] = some (0, 0, 6) := a3
 have h1' : qe0 5 0 [] [AV.agg [AV.int IntKind.i64 4, AV.int IntKind.i64 0, AV.str [97], AV.view 4 []], AV.agg [AV.int IntKind.i64 1, AV.int IntKind.i64 2, AV.str [], AV.view 4 []]] [AV.agg [AV.str [97], AV.int IntKind.i64 1]] [AV.agg [AV.int IntKind.i64 1, AV.int IntKind.i64 5]] = some (1, 7, 0) := q2L
 have h2' : qm2 5 0 [] [AV.agg [AV.int IntKind.i64 4, AV.int IntKind.i64 0, AV.str [97], AV.view 4 []], AV.agg [AV.int IntKind.i64 1, AV.int IntKind.i64 2, AV.str [], AV.view 4 []]] [AV.agg [AV.str [97], AV.int IntKind.i64 1]] = some (1, EV sV, EN sI, 0) := q2L
 have h3' : qdj 1 (EV sV) (EN sI) [AV.agg [AV.int IntKind.i64 1, AV.int IntKind.i64 5]] 3 = some (1, 7, 0, 0) := h3
 have h4' : qdj 1 (EV sV) (EN sI) [AV.agg [AV.int IntKind.i64 1, AV.int IntKind.i64 5]] 2 = some (0, 0, 0, 8) := h4
 have h5' : qbG [AV.agg [AV.str [97], AV.int IntKind.i64 1]] [AV.agg [AV.int IntKind.i64 1, AV.int IntKind.i64 5]] = some true := h5
 have h6' : qbG [AV.agg [AV.str [97], AV.int IntKind.i64 1]] [] = some false := h6
 rw [qyu, qjM]
 simp only [qJE, ev_bi_some, a1', a2', a3', h1', h2', h3', h4', h5', h6']
 rfl
end Go.Proofs.H13

/- Code over plain data: its text. Which expressions are small. -/
import Derived.Test.YtigchhcddgibhaaGreatDoorCdB
import Derived.Lib.ItoaLen
set_option linter.unusedVariables false
set_option linter.unusedSimpArgs false
set_option linter.unnecessarySimpa false
namespace Go.Tk
open Go Go.Eng
set_option maxRecDepth 20000
def q6B (vs : List Va) (N : Nat) (x : In) : Prop := (x.op = 1 /\ (x.a = 1 \/ x.a = 2 \/ x.a = 3) /\ 0 <= x.n) \/ (x.op = 2 /\ 0 <= x.a /\ x.a.toNat < vs.length) \/ (x.op = 3 /\ 5 <= x.a /\ x.a <= 18) \/ ((x.op = 4 \/ x.op = 5) /\ 0 <= x.a /\ x.a <= (N : Int))
theorem qV3 {vs : List Va} {N i : Nat} {x : In} {T : List Int} {r : List Int × Option Nat × Bool} (h : qcC vs N i x T = some r) : q6B vs N x := by
 unfold qcC at h
 split at h
 ·rename_i c
  left
  cases hp : pushB x <;> rw [hp] at h
  ·cases h
  ·unfold pushB at hp
   split at hp
   ·exact ⟨c, by omega, by simpa using hp⟩
   ·split at hp
    ·simp at hp; exact ⟨c, by omega, by omega⟩
    ·split at hp
     ·simp at hp; exact ⟨c, by omega, by omega⟩
     ·cases hp
 ·split at h
  ·cases h
  ·split at h
   ·rename_i c
    split at h
    ·rename_i h0
     split at h
     ·rename_i v hv
      exact .inr (.inl ⟨c, h0, (List.getElem?_eq_some_iff.1 hv).1⟩)
     ·cases h
    ·cases h
   ·split at h
    ·rename_i c
     refine .inr (.inr (.inl ⟨c, ?_⟩))
     cases ho : qfn x.a T with
     | none => rw [ho] at h; cases h
     | some r =>
      unfold qfn at ho
      split at ho
      ·rename_i hc; exact ⟨hc.1, hc.2.1⟩
      ·cases ho
    ·split at h
     ·rename_i c
      split at h
      ·exact .inr (.inr (.inr ⟨.inl c, by omega, by omega⟩))
      ·cases h
     ·split at h
      ·rename_i c
       split at h
       ·exact .inr (.inr (.inr ⟨.inr c, by omega, by omega⟩))
       ·cases h
      ·cases h
end Go.Tk

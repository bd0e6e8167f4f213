/- Code over plain data: what an expression is compiled to, how code is examined, compared. -/
import Derived.Test.YtlgbnjnkcoiceaaGreatDoorTyA
set_option linter.unusedVariables false
set_option linter.unusedSimpArgs false
set_option linter.unnecessarySimpa false
namespace Go.Tk
open Go Go.Eng
set_option maxRecDepth 20000
structure In where
  (op a n : Int)
deriving DecidableEq
def In.av (x : In) : AV := .agg [.int .i64 x.op, .int .i64 x.a, .int .i64 x.n]
abbrev EN (l : List In) : List AV := l.map In.av
abbrev ksN : List CS := [CS.int IntKind.i64, CS.int IntKind.i64, CS.int IntKind.i64]
theorem hkN (h : In) : okCs ksN (cellsA h.av) = true := rfl
theorem okN {l : List In} {n : Nat} (h : n < l.length) : okAt ksN (EN l) (n : Int) = true := okAt_at hkN h
theorem qn0 {l : List In} {n : Nat} (h : n < l.length) : intOf (cellAt (EN l) (n : Int) 0) = l[n].op := by rw [cellAt_map h]; rfl
theorem qn1 {l : List In} {n : Nat} (h : n < l.length) : intOf (cellAt (EN l) (n : Int) 1) = l[n].a := by rw [cellAt_map h]; rfl
theorem qn2 {l : List In} {n : Nat} (h : n < l.length) : intOf (cellAt (EN l) (n : Int) 2) = l[n].n := by rw [cellAt_map h]; rfl
def idxS (vs : List Va) (s : Bs) : Int := bif vs.any (fun v => v.name == s) then ((vs.findIdx (fun v => v.name == s) : Nat) : Int) else -1
mutual
def emE (vs : List Va) (k : Nat) : Ex → List In
  | .mk o n s l => if o = 1 ∨ o = 2 ∨ o = 3 then [⟨1, o, n⟩] else if o = 4 then [⟨2, idxS vs s, 0⟩] else if o = 19 then emI vs k l else emL vs k l ++ [⟨3, o, 0⟩]
def emI (vs : List Va) (k : Nat) : List Ex → List In
  | [c, a, b] =>
    let C := emE vs k c
    let A := emE vs (k + C.length + 1) a
    let B := emE vs (k + C.length + 1 + A.length + 1) b
    C ++ ⟨5, ((k + C.length + 1 + A.length + 1 : Nat) : Int), 0⟩ :: (A ++ ⟨4, ((k + C.length + 1 + A.length + 1 + B.length : Nat) : Int), 0⟩ :: B)
  | _ => []
def emL (vs : List Va) (k : Nat) : List Ex → List In
  | [] => []
  | e :: l => emE vs k e ++ emL vs (k + (emE vs k e).length) l
end
structure Cd where
  (ty : Int)
  (vars : List Va)
  (ins : List In)
def compS (e : Ex) (vs : List Va) : Cd × Int := bif varsS vs != 0 then (⟨0, [], []⟩, varsS vs) else bif (ofS e vs).2 != 0 then (⟨0, [], []⟩, (ofS e vs).2) else (⟨(ofS e vs).1, vs, emE vs 0 e⟩, 0)
structure Sk where
  (kn bad : Bool)
  (ts : List Int)
def meetS (s : Sk) (T : List Int) : Sk := bif s.kn then ⟨true, s.bad || s.ts != T, s.ts⟩ else ⟨true, s.bad, T⟩
def leadS (σ : List Sk) (jt : Nat) (T : List Int) : List Sk := σ.modify jt (meetS · T)
def pushB (x : In) : Bool := if x.a = 1 then decide (0 ≤ x.n) else if x.a = 2 then decide (0 ≤ x.n) && decide (x.n ≤ 1000000000000) else if x.a = 3 then decide (0 ≤ x.n) && decide (x.n ≤ 1000000) else false
def arS (o : Int) : Nat := if o = 9 ∨ o = 16 then 1 else 2
def operS (o : Int) (T : List Int) : Option (List Int) :=
  if 5 ≤ o ∧ o ≤ 18 ∧ arS o ≤ T.length then bif (resS o (T.drop (T.length - arS o))).2 then some (T.take (T.length - arS o) ++ [(resS o (T.drop (T.length - arS o))).1]) else none else none
def stepS (vs : List Va) (N i : Nat) (x : In) (T : List Int) : Option (List Int × Option Nat × Bool) :=
  if x.op = 1 then bif pushB x then some (T ++ [x.a], none, true) else none
  else if x.n ≠ 0 then none
  else if x.op = 2 then (if 0 ≤ x.a then match vs[x.a.toNat]? with
    | some v => some (T ++ [v.ty], none, true)
    | none => none else none)
  else if x.op = 3 then (operS x.a T).map fun T => (T, none, true)
  else if x.op = 4 then (if (i : Int) < x.a ∧ x.a ≤ (N : Int) then some (T, some x.a.toNat, false) else none)
  else if x.op = 5 then (if T.getLast? = some 5 ∧ (i : Int) < x.a ∧ x.a ≤ (N : Int) then some (T.dropLast, some x.a.toNat, true) else none)
  else none
def toS (σ : List Sk) (T : List Int) : Option Nat → List Sk
  | some j => leadS σ j T
  | none => σ
def goS (σ : List Sk) (T : List Int) (i : Nat) : Bool → List Sk
  | true => leadS σ (i + 1) T
  | false => σ
def oneI (vs : List Va) (N i : Nat) (x : In) (σ : List Sk) : Int × List Sk × Nat := match σ[i]? with
  | none => (9, σ, 0)
  | some s => bif !s.kn || s.bad then (9, σ, 0) else match stepS vs N i x s.ts with
    | none => (9, σ, 0)
    | some (T, jt, go) => if 16 < T.length then (5, σ, 0) else (0, goS (toS σ T jt) T i go, T.length)
def walkS (vs : List Va) (N : Nat) : Nat → List In → List Sk → Nat → Int × List Sk × Nat
  | _, [], σ, d => (0, σ, d)
  | i, x :: l, σ, d => bif (oneI vs N i x σ).1 != 0 then ((oneI vs N i x σ).1, σ, d) else walkS vs N (i + 1) l (oneI vs N i x σ).2.1 (max d (oneI vs N i x σ).2.2)
def sk0 (N : Nat) : List Sk := ⟨true, false, []⟩ :: List.replicate N ⟨false, false, []⟩
def endB (c : Cd) (σ : List Sk) : Bool := match σ[c.ins.length]? with
  | some s => s.kn && !s.bad && s.ts == [c.ty]
  | none => false
def walkC (c : Cd) : Int × List Sk × Nat := walkS c.vars c.ins.length 0 c.ins (sk0 c.ins.length) 0
def runS (c : Cd) : Int × Int := if c.ins.length > 128 then (0, 5) else bif varsS c.vars != 0 then (0, varsS c.vars) else bif (walkC c).1 != 0 then (0, (walkC c).1) else bif endB c (walkC c).2.1 then (((walkC c).2.2 : Int), 0) else (0, 9)
theorem lead_get {σ : List Sk} {jt j : Nat} {T : List Int} : (leadS σ jt T)[j]? = if j = jt then (σ[j]?).map (meetS · T) else σ[j]? := by
  unfold leadS
  rw [List.getElem?_modify]
  by_cases h : jt = j
  · subst h; simp
  · rw [if_neg (fun e => h e.symm)]; simp [h]
theorem lead_len {σ : List Sk} {jt : Nat} {T : List Int} : (leadS σ jt T).length = σ.length := by simp [leadS]
def sameS (a b : Cd) : Bool := a.ty == b.ty && (a.vars.map fun v => (v.name, v.ty)) == (b.vars.map fun v => (v.name, v.ty)) && a.ins == b.ins
end Go.Tk

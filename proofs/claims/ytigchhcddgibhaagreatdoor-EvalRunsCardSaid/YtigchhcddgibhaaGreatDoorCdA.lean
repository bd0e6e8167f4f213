/- Code over plain data: what an expression is compiled to, how code is examined, compared. -/
import Derived.Test.YtigchhcddgibhaaGreatDoorTyA
set_option linter.unusedVariables false
set_option linter.unusedSimpArgs false
set_option linter.unnecessarySimpa false
namespace Go.Tk
open Go Go.Eng
set_option maxRecDepth 20000
structure In where
 (op a n : Int)
deriving DecidableEq
def In.av (x : In) : AV := .agg [.int .i64 x.op, .int .i64 x.a, .int .i64 x.n]
abbrev EN (l : List In) : List AV := l.map In.av
abbrev ksN : List CS := [CS.int IntKind.i64, CS.int IntKind.i64, CS.int IntKind.i64]
theorem hkN (h : In) : qAn ksN (qao h.av) = true := rfl
theorem okN {l : List In} {n : Nat} (h : n < l.length) : qay ksN (EN l) (n : Int) = true := qu5 hkN h
theorem qn0 {l : List In} {n : Nat} (h : n < l.length) : intOf (cellAt (EN l) (n : Int) 0) = l[n].op := by rw [qbZ h]; rfl
theorem qn1 {l : List In} {n : Nat} (h : n < l.length) : intOf (cellAt (EN l) (n : Int) 1) = l[n].a := by rw [qbZ h]; rfl
theorem qn2 {l : List In} {n : Nat} (h : n < l.length) : intOf (cellAt (EN l) (n : Int) 2) = l[n].n := by rw [qbZ h]; rfl
def q1x (vs : List Va) (s : Bs) : Int := bif vs.any (fun v => v.name == s) then ((vs.findIdx (fun v => v.name == s) : Nat) : Int) else -1
mutual
def emE (vs : List Va) (k : Nat) : Ex -> List In
 | .mk o n s l => if o = 1 \/ o = 2 \/ o = 3 then [⟨1, o, n⟩] else if o = 4 then [⟨2, q1x vs s, 0⟩] else if o = 19 then emI vs k l else emL vs k l ++ [⟨3, o, 0⟩]
def emI (vs : List Va) (k : Nat) : List Ex -> List In
 | [c, a, b] =>
  let C := emE vs k c
  let A := emE vs (k + C.length + 1) a
  let B := emE vs (k + C.length + 1 + A.length + 1) b
  C ++ ⟨5, ((k + C.length + 1 + A.length + 1 : Nat) : Int), 0⟩ :: (A ++ ⟨4, ((k + C.length + 1 + A.length + 1 + B.length : Nat) : Int), 0⟩ :: B)
 | _ => []
def emL (vs : List Va) (k : Nat) : List Ex -> List In
 | [] => []
 | e :: l => emE vs k e ++ emL vs (k + (emE vs k e).length) l
end
structure Cd where
 (ty : Int)
 (vars : List Va)
 (ins : List In)
structure Sk where
 (kn bad : Bool)
 (ts : List Int)
def qci (s : Sk) (T : List Int) : Sk := bif s.kn then ⟨true, s.bad || s.ts != T, s.ts⟩ else ⟨true, s.bad, T⟩
def qeX (σ : List Sk) (jt : Nat) (T : List Int) : List Sk := σ.modify jt (qci · T)
def pushB (x : In) : Bool := if x.a = 1 then decide (0 <= x.n) else if x.a = 2 then decide (0 <= x.n) && decide (x.n <= 1000000000000) else if x.a = 3 then decide (0 <= x.n) && decide (x.n <= 1000000) else false
def arS (o : Int) : Nat := if o = 9 \/ o = 16 then 1 else 2
def qfn (o : Int) (T : List Int) : Option (List Int) :=
 if 5 <= o /\ o <= 18 /\ arS o <= T.length then bif (qa0 o (T.drop (T.length - arS o))).2 then some (T.take (T.length - arS o) ++ [(qa0 o (T.drop (T.length - arS o))).1]) else none else none
def qcC (vs : List Va) (N i : Nat) (x : In) (T : List Int) : Option (List Int × Option Nat × Bool) :=
 if x.op = 1 then bif pushB x then some (T ++ [x.a], none, true) else none
 else if x.n ≠ 0 then none
 else if x.op = 2 then (if 0 <= x.a then match vs[x.a.toNat]? with
  | some v => some (T ++ [v.ty], none, true)
  | none => none else none)
 else if x.op = 3 then (qfn x.a T).map fun T => (T, none, true)
 else if x.op = 4 then (if (i : Int) < x.a /\ x.a <= (N : Int) then some (T, some x.a.toNat, false) else none)
 else if x.op = 5 then (if T.getLast? = some 5 /\ (i : Int) < x.a /\ x.a <= (N : Int) then some (T.dropLast, some x.a.toNat, true) else none)
 else none
def toS (σ : List Sk) (T : List Int) : Option Nat -> List Sk
 | some j => qeX σ j T
 | none => σ
def goS (σ : List Sk) (T : List Int) (i : Nat) : Bool -> List Sk
 | true => qeX σ (i + 1) T
 | false => σ
def qtk (vs : List Va) (N i : Nat) (x : In) (σ : List Sk) : Int × List Sk × Nat := match σ[i]? with
 | none => (9, σ, 0)
 | some s => bif !s.kn || s.bad then (9, σ, 0) else match qcC vs N i x s.ts with
  | none => (9, σ, 0)
  | some (T, jt, go) => if 16 < T.length then (5, σ, 0) else (0, goS (toS σ T jt) T i go, T.length)
def qcD (vs : List Va) (N : Nat) : Nat -> List In -> List Sk -> Nat -> Int × List Sk × Nat
 | _, [], σ, d => (0, σ, d)
 | i, x :: l, σ, d => bif (qtk vs N i x σ).1 != 0 then ((qtk vs N i x σ).1, σ, d) else qcD vs N (i + 1) l (qtk vs N i x σ).2.1 (max d (qtk vs N i x σ).2.2)
def sk0 (N : Nat) : List Sk := ⟨true, false, []⟩ :: List.replicate N ⟨false, false, []⟩
def endB (c : Cd) (σ : List Sk) : Bool := match σ[c.ins.length]? with
 | some s => s.kn && !s.bad && s.ts == [c.ty]
 | none => false
def qdZ (c : Cd) : Int × List Sk × Nat := qcD c.vars c.ins.length 0 c.ins (sk0 c.ins.length) 0
def qtl (c : Cd) : Int × Int := if c.ins.length > 128 then (0, 5) else bif qdv c.vars != 0 then (0, qdv c.vars) else bif (qdZ c).1 != 0 then (0, (qdZ c).1) else bif endB c (qdZ c).2.1 then (((qdZ c).2.2 : Int), 0) else (0, 9)
theorem qdq {σ : List Sk} {jt j : Nat} {T : List Int} : (qeX σ jt T)[j]? = if j = jt then (σ[j]?).map (qci · T) else σ[j]? := by
 unfold qeX
 rw [List.getElem?_modify]
 by_cases h : jt = j
 ·subst h; simp
 ·rw [if_neg (fun e => h e.symm)]; simp [h]
theorem qgZ {σ : List Sk} {jt : Nat} {T : List Int} : (qeX σ jt T).length = σ.length := by simp [qeX]
theorem qTC {σ : List Sk} {T : List Int} : ∀ {t : Option Nat}, (toS σ T t).length = σ.length
 | some _ => qgZ
 | none => rfl
theorem q1u {σ : List Sk} {T : List Int} {i : Nat} : ∀ {g : Bool}, (goS σ T i g).length = σ.length
 | true => qgZ
 | false => rfl
theorem q4y {vs : List Va} {N i : Nat} {x : In} {σ : List Sk} : (qtk vs N i x σ).2.1.length = σ.length := by
 unfold qtk
 cases σ[i]? with
 | none => rfl
 | some s =>
  simp only
  cases (!s.kn || s.bad) with
  | true => rfl
  | false =>
   simp only [cond_false]
   cases qcC vs N i x s.ts with
   | none => rfl
   | some r =>
    obtain ⟨T, jt, go⟩ := r
    simp only
    split
    ·rfl
    ·simp [q1u, qTC]
end Go.Tk

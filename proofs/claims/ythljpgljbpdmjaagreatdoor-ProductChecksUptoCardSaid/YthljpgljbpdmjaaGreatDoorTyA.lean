/- Types of expressions over plain data. -/
import Derived.Test.YthljpgljbpdmjaaGreatDoorExA
set_option linter.unusedVariables false
set_option linter.unusedSimpArgs false
set_option linter.unnecessarySimpa false
namespace Go.Tk
open Go Go.Eng
set_option maxRecDepth 20000
structure Va where
 (name : Bs)
 (ty : Int)
def Va.av (x : Va) : AV := .agg [.str x.name, .int .i64 x.ty]
abbrev EV (l : List Va) : List AV := l.map Va.av
abbrev ksV : List CS := [CS.str, CS.int IntKind.i64]
theorem hkV (h : Va) : qhl ksV (qab h.av) = true := rfl
theorem okV {l : List Va} {n : Nat} (h : n < l.length) : qaS ksV (EV l) (n : Int) = true := qdy hkV h
theorem qv0 {l : List Va} {n : Nat} (h : n < l.length) : strOf (cellAt (EV l) (n : Int) 0) = l[n].name := by rw [qap h]; rfl
theorem qv1 {l : List Va} {n : Nat} (h : n < l.length) : intOf (cellAt (EV l) (n : Int) 1) = l[n].ty := by rw [qap h]; rfl
abbrev EI (l : List Int) : List AV := l.map (.int .i64)
abbrev ksI : List CS := [CS.int IntKind.i64]
theorem okI {l : List Int} {n : Nat} (h : n < l.length) : qaS ksI (EI l) (n : Int) = true := qdy (fun _ => rfl) h
theorem qi0 {l : List Int} {n : Nat} (h : n < l.length) : intOf (cellAt (EI l) (n : Int) 0) = l[n] := by rw [qap h]; rfl
def qa8 (t : Int) : Bool := decide (t ≥ 1) && decide (t ≤ 5)
theorem qbI {t : Int} (h : qa8 t = true) : t = 1 ∨ t = 2 ∨ t = 3 ∨ t = 4 ∨ t = 5 := by
 simp only [qa8, Bool.and_eq_true, decide_eq_true_eq] at h; omega
def ariL : List ((Int × Int × Int) × Int) := [((5, 1, 1), 1), ((5, 2, 2), 2), ((5, 3, 3), 3), ((5, 4, 1), 4), ((6, 1, 1), 1), ((6, 2, 2), 2), ((6, 3, 3), 3), ((6, 4, 1), 4), ((6, 4, 4), 1), ((7, 1, 1), 1), ((7, 1, 2), 2), ((7, 1, 3), 3), ((7, 2, 1), 2), ((7, 2, 3), 2), ((7, 3, 1), 3), ((7, 3, 2), 2), ((8, 1, 1), 1), ((8, 2, 1), 2), ((8, 2, 2), 1), ((8, 3, 1), 3)]
def qOj (p : (Int × Int × Int) × Int) : AV × AV := (.agg [.int .i64 p.1.1, .int .i64 p.1.2.1, .int .i64 p.1.2.2], .int .i64 p.2)
abbrev ks3 : Key := (true, [EK.i, EK.i, EK.i])
abbrev qJM (a b c : Int) : AV := .agg [.int .i64 a, .int .i64 b, .int .i64 c]
theorem eq3 (a b c a' b' c' : Int) : qa4 ks3 (qJM a b c) (qJM a' b' c') = some (a == a' && (b == b' && (c == c' && true))) := rfl
theorem qvG (a b c : Int) : ∀ l : List ((Int × Int × Int) × Int), qld ks3 (l.map qOj) (qJM a b c) = some ((l.find? fun p => p.1 == (a, b, c)).map fun p => .int .i64 p.2)
 | [] => rfl
 | p :: l => by
  obtain ⟨⟨x, y, z⟩, t⟩ := p
  simp only [List.map_cons, qOj, qld, eq3, List.find?_cons]
  by_cases h : (x, y, z) = (a, b, c)
  ·cases h
   simp
  ·have e1 : ((x, y, z) == (a, b, c)) = false := by simpa using h
   have e2 : (a == x && (b == y && (c == z && true))) = false := by
    rw [Bool.eq_false_iff]
    intro hh
    simp only [Bool.and_eq_true, beq_iff_eq, Bool.and_true] at hh
    exact h (by rw [hh.1, hh.2.1, hh.2.2])
   rw [e1, e2]
   exact qvG a b c l
def qyj (op a b : Int) : Option Int := (ariL.find? fun p => p.1 == (op, a, b)).map (·.2)
theorem qTk (op a b : Int) : qmY ks3 (ariL.map qOj) (qJM op a b) = (qyj op a b).isSome := by
 unfold qmY
 rw [qvG, qyj]
 have : isKey ks3 (qJM op a b) = true := rfl
 rw [this]
 cases (ariL.find? fun p => p.1 == (op, a, b)) <;> rfl
theorem qTm (op a b : Int) : qn2 ks3 (ariL.map qOj) (qJM op a b) = !(qyj op a b).isSome := by
 unfold qn2
 rw [qvG, qyj]
 have : isKey ks3 (qJM op a b) = true := rfl
 rw [this]
 cases (ariL.find? fun p => p.1 == (op, a, b)) <;> rfl
theorem qTn {op a b t : Int} (h : qyj op a b = some t) : qcm ks3 (ariL.map qOj) (qJM op a b) = .int .i64 t := by
 unfold qcm
 rw [qvG]
 unfold qyj at h
 cases hf : (ariL.find? fun p => p.1 == (op, a, b)) with
 | none => rw [hf] at h; cases h
 | some p => rw [hf] at h; cases h; rfl
theorem qzP {op a b t : Int} (h : qyj op a b = some t) : t ≠ 0 ∧ 5 ≤ op ∧ op ≤ 8 := by
 unfold qyj at h
 cases hf : (ariL.find? fun p => p.1 == (op, a, b)) with
 | none => rw [hf] at h; cases h
 | some p =>
  rw [hf] at h; cases h
  have h1 := List.mem_of_find?_eq_some hf
  have h2 := List.find?_some hf
  have : ∀ p ∈ ariL, p.2 ≠ 0 ∧ 5 ≤ p.1.1 ∧ p.1.1 ≤ 8 := by decide
  obtain ⟨h3, h4, h5⟩ := this p h1
  have : p.1 = (op, a, b) := by simpa using h2
  rw [this] at h4 h5
  exact ⟨h3, h4, h5⟩
theorem qLM {op : Int} (h : op < 5 ∨ 8 < op) (a b : Int) : qyj op a b = none := by
 cases hq : qyj op a b with
 | none => rfl
 | some t => have := qzP hq; omega
def nrm (p : Int × Bool) : Int × Bool := bif p.2 then (p.1, true) else (0, false)
def qQk (op a : Int) : Int × Bool :=
 if op = 16 then bif a == 5 then (5, true) else (0, false)
 else if op = 9 then bif a == 1 || (a == 2 || a == 3) then (a, true) else (0, false)
 else (0, false)
def qm2 (op a b : Int) : Int × Bool :=
 if op = 10 ∨ op = 11 then bif a == b then (5, true) else (0, false)
 else if op = 12 ∨ op = 13 then bif a == b && a != 5 then (5, true) else (0, false)
 else if op = 14 ∨ op = 15 then bif a == b && a == 5 then (5, true) else (0, false)
 else if op = 17 ∨ op = 18 then bif a == b && a != 5 then (a, true) else (0, false)
 else match qyj op a b with
  | some t => (t, true)
  | none => (0, false)
def qvW (op a b c : Int) : Int × Bool := bif op == 19 && (a == 5 && b == c) then (b, true) else (0, false)
def qyk (op : Int) (l : List Int) : Int × Bool := bif !l.all qa8 then (0, false) else match l with
 | [a] => qQk op a
 | [a, b] => qm2 op a b
 | [a, b, c] => qvW op a b c
 | _ => (0, false)
def qEQ (vs : List Va) (s : Bs) : Int × Int := match vs.find? fun v => v.name == s with
 | none => (0, 4)
 | some v => bif qa8 v.ty then (v.ty, 0) else (0, 3)
def qFu (op : Int) (p : List Int × Int) : Int × Int := bif p.2 != 0 then (0, p.2) else bif (qyk op p.1).2 then ((qyk op p.1).1, 0) else (0, 3)
mutual
def Ex.ty (vs : List Va) : Ex → Int × Int
 | .mk o _ s l => if o = 1 then (1, 0) else if o = 2 then (2, 0) else if o = 3 then (3, 0) else if o = 4 then qEQ vs s else qFu o (Ex.tys vs l)
def Ex.tys (vs : List Va) : List Ex → List Int × Int
 | [] => ([], 0)
 | e :: l => bif (Ex.ty vs e).2 != 0 then ([], (Ex.ty vs e).2) else bif (Ex.tys vs l).2 != 0 then ([], (Ex.tys vs l).2) else ((Ex.ty vs e).1 :: (Ex.tys vs l).1, 0)
end
def ofS (e : Ex) (vs : List Va) : Int × Int := bif qb7 e != 0 then (0, qb7 e) else e.ty vs
def qfM (e : Ex) (vs : List Va) (want : Int) : Int := bif (ofS e vs).2 != 0 then (ofS e vs).2 else bif (ofS e vs).1 != want then 3 else 0
end Go.Tk

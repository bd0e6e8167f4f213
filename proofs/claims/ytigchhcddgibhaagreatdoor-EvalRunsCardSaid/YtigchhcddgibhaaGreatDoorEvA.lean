/- Values of expressions over plain data: operators, trees. -/
import Derived.Test.YtigchhcddgibhaaGreatDoorTyA
set_option linter.unusedVariables false
set_option linter.unusedSimpArgs false
set_option linter.unnecessarySimpa false
namespace Go.Tk
open Go Go.Eng
set_option maxRecDepth 20000
structure Vl where
 (ty n : Int)
deriving DecidableEq
def Vl.av (x : Vl) : AV := .agg [.int .i64 x.ty, .int .i64 x.n]
abbrev EL (l : List Vl) : List AV := l.map Vl.av
abbrev ksL : List CS := [CS.int IntKind.i64, CS.int IntKind.i64]
theorem hkL (h : Vl) : qAn ksL (qao h.av) = true := rfl
theorem okL {l : List Vl} {n : Nat} (h : n < l.length) : qay ksL (EL l) (n : Int) = true := qu5 hkL h
theorem ql0 {l : List Vl} {n : Nat} (h : n < l.length) : intOf (cellAt (EL l) (n : Int) 0) = l[n].ty := by rw [qbZ h]; rfl
theorem ql1 {l : List Vl} {n : Nat} (h : n < l.length) : intOf (cellAt (EL l) (n : Int) 1) = l[n].n := by rw [qbZ h]; rfl
def qbb (v : Vl) : Bool :=
 if v.ty = 1 then true else if v.ty = 2 then decide (-1000000000000 <= v.n) && decide (v.n <= 1000000000000)
 else if v.ty = 3 then decide (-1000000000 <= v.n) && decide (v.n <= 1000000000) else if v.ty = 4 then decide (0 <= v.n) && decide (v.n <= 73048)
 else if v.ty = 5 then v.n == 0 || v.n == 1 else false
def qa6 (n : Int) : Bool := decide (-9223372036854775808 <= n) && decide (n <= 9223372036854775807)
def qnn (v n : Int) : Int := if v % n > n - v % n \/ (v % n = n - v % n /\ (v / n) % 2 = 1) then v / n + 1 else v / n
def qrc (t w : Int) : Vl × Int := bif qa6 w && qbb ⟨t, w⟩ then (⟨t, w⟩, 0) else (⟨0, 0⟩, 6)
def qTN (t : Int) (a b : Vl) : Vl × Int :=
 if b.n = 0 then (⟨0, 0⟩, 7) else if a.ty = b.ty then qrc t (a.n.tdiv b.n)
 else if b.n = -9223372036854775808 then (⟨t, 0⟩, 0) else if b.n < 0 then qrc t (qnn (-a.n) (-b.n)) else qrc t (qnn a.n b.n)
def qM4 (t : Int) (a b : Vl) : Vl × Int := if a.ty ≠ b.ty /\ a.ty ≠ 1 /\ b.ty ≠ 1 then qrc t (qnn (a.n * b.n) 1000000) else qrc t (a.n * b.n)
def bI (b : Bool) : Int := bif b then 1 else 0
def qmY (op t : Int) (a b : Vl) : Vl × Int :=
 if op = 5 then qrc t (a.n + b.n) else if op = 6 then qrc t (a.n - b.n) else if op = 7 then qM4 t a b else if op = 8 then qTN t a b
 else if op = 10 then (⟨t, bI (a.n == b.n)⟩, 0) else if op = 11 then (⟨t, bI (a.n != b.n)⟩, 0) else if op = 12 then (⟨t, bI (decide (a.n < b.n))⟩, 0) else if op = 13 then (⟨t, bI (decide (a.n <= b.n))⟩, 0)
 else if op = 14 then (⟨t, a.n * b.n⟩, 0) else if op = 15 then (⟨t, max a.n b.n⟩, 0) else if op = 17 then (⟨t, min a.n b.n⟩, 0) else (⟨t, max a.n b.n⟩, 0)
def opV (op t : Int) : List Vl -> Vl × Int
 | [a] => if op = 9 then qrc t (-a.n) else (⟨t, 1 - a.n⟩, 0)
 | [a, b] => qmY op t a b
 | [a, b, c] => (⟨t, if a.n = 1 then b.n else c.n⟩, 0)
 | _ => (⟨0, 0⟩, 3)
def qbc (op : Int) (l : List Vl) : Vl × Int :=
 bif !(qa0 op (l.map (·.ty))).2 then (⟨0, 0⟩, 3) else bif !l.all qbb then (⟨0, 0⟩, 1) else opV op (qa0 op (l.map (·.ty))).1 l
mutual
def qa4 (vs : List Va) (env : List Vl) : Ex -> Vl × Int
 | .mk o n s l => if o = 1 then (⟨1, n⟩, 0) else if o = 2 then (⟨2, n⟩, 0) else if o = 3 then (⟨3, n⟩, 0)
  else if o = 4 then ((env[vs.findIdx (fun v => v.name == s)]?).getD ⟨0, 0⟩, 0) else if o = 19 then qK7 vs env l else bif (qe1 vs env l).2 != 0 then (⟨0, 0⟩, (qe1 vs env l).2) else qbc o (qe1 vs env l).1
def qK7 (vs : List Va) (env : List Vl) : List Ex -> Vl × Int
 | [c, a, b] => bif (qa4 vs env c).2 != 0 then (⟨0, 0⟩, (qa4 vs env c).2) else if (qa4 vs env c).1.n = 1 then qa4 vs env a else qa4 vs env b
 | _ => (⟨0, 0⟩, 3)
def qe1 (vs : List Va) (env : List Vl) : List Ex -> List Vl × Int
 | [] => ([], 0)
 | e :: l => bif (qa4 vs env e).2 != 0 then ([], (qa4 vs env e).2) else bif (qe1 vs env l).2 != 0 then ([], (qe1 vs env l).2) else ((qa4 vs env e).1 :: (qe1 vs env l).1, 0)
end
def qhE (vs : List Va) (env : List Vl) : Bool := vs.length == env.length && (List.range env.length).all fun n => match vs[n]?, env[n]? with
 | some v, some x => x.ty == v.ty && qbb x
 | _, _ => false
end Go.Tk

/- Code over plain data: what an expression is compiled to, how code is examined, compared. -/
import Derived.Test.YtigchhcddgibhaaGreatDoorTyA
set_option linter.unusedVariables false
set_option linter.unusedSimpArgs false
set_option linter.unnecessarySimpa false
namespace Go.Tk
open Go Go.Eng
set_option maxRecDepth 20000
structure In where
 (op a n : Int)
deriving DecidableEq
def In.av (x : In) : AV := .agg [.int .i64 x.op, .int .i64 x.a, .int .i64 x.n]
abbrev EN (l : List In) : List AV := l.map In.av
def q1x (vs : List Va) (s : Bs) : Int := bif vs.any (fun v => v.name == s) then ((vs.findIdx (fun v => v.name == s) : Nat) : Int) else -1
mutual
def emE (vs : List Va) (k : Nat) : Ex -> List In
 | .mk o n s l => if o = 1 \/ o = 2 \/ o = 3 then [⟨1, o, n⟩] else if o = 4 then [⟨2, q1x vs s, 0⟩] else if o = 19 then emI vs k l else emL vs k l ++ [⟨3, o, 0⟩]
def emI (vs : List Va) (k : Nat) : List Ex -> List In
 | [c, a, b] =>
  let C := emE vs k c
  let A := emE vs (k + C.length + 1) a
  let B := emE vs (k + C.length + 1 + A.length + 1) b
  C ++ ⟨5, ((k + C.length + 1 + A.length + 1 : Nat) : Int), 0⟩ :: (A ++ ⟨4, ((k + C.length + 1 + A.length + 1 + B.length : Nat) : Int), 0⟩ :: B)
 | _ => []
def emL (vs : List Va) (k : Nat) : List Ex -> List In
 | [] => []
 | e :: l => emE vs k e ++ emL vs (k + (emE vs k e).length) l
end
structure Cd where
 (ty : Int)
 (vars : List Va)
 (ins : List In)
structure Sk where
 (kn bad : Bool)
 (ts : List Int)
def pushB (x : In) : Bool := if x.a = 1 then decide (0 <= x.n) else if x.a = 2 then decide (0 <= x.n) && decide (x.n <= 1000000000000) else if x.a = 3 then decide (0 <= x.n) && decide (x.n <= 1000000) else false
def arS (o : Int) : Nat := if o = 9 \/ o = 16 then 1 else 2
def qfn (o : Int) (T : List Int) : Option (List Int) :=
 if 5 <= o /\ o <= 18 /\ arS o <= T.length then bif (qa0 o (T.drop (T.length - arS o))).2 then some (T.take (T.length - arS o) ++ [(qa0 o (T.drop (T.length - arS o))).1]) else none else none
def qcC (vs : List Va) (N i : Nat) (x : In) (T : List Int) : Option (List Int × Option Nat × Bool) :=
 if x.op = 1 then bif pushB x then some (T ++ [x.a], none, true) else none
 else if x.n ≠ 0 then none
 else if x.op = 2 then (if 0 <= x.a then match vs[x.a.toNat]? with
  | some v => some (T ++ [v.ty], none, true)
  | none => none else none)
 else if x.op = 3 then (qfn x.a T).map fun T => (T, none, true)
 else if x.op = 4 then (if (i : Int) < x.a /\ x.a <= (N : Int) then some (T, some x.a.toNat, false) else none)
 else if x.op = 5 then (if T.getLast? = some 5 /\ (i : Int) < x.a /\ x.a <= (N : Int) then some (T.dropLast, some x.a.toNat, true) else none)
 else none
def endB (c : Cd) (σ : List Sk) : Bool := match σ[c.ins.length]? with
 | some s => s.kn && !s.bad && s.ts == [c.ty]
 | none => false
end Go.Tk

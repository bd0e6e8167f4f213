/- Types of expressions over plain data. -/
import Derived.Test.YtlgbnjnkcoiceaaGreatDoorExA
set_option linter.unusedVariables false
set_option linter.unusedSimpArgs false
set_option linter.unnecessarySimpa false
namespace Go.Tk
open Go Go.Eng
set_option maxRecDepth 20000
structure Va where
  (name : Bs)
  (ty : Int)
def Va.av (x : Va) : AV := .agg [.str x.name, .int .i64 x.ty]
abbrev EV (l : List Va) : List AV := l.map Va.av
abbrev ksV : List CS := [CS.str, CS.int IntKind.i64]
theorem hkV (h : Va) : okCs ksV (cellsA h.av) = true := rfl
theorem okV {l : List Va} {n : Nat} (h : n < l.length) : okAt ksV (EV l) (n : Int) = true := okAt_at hkV h
theorem qv0 {l : List Va} {n : Nat} (h : n < l.length) : strOf (cellAt (EV l) (n : Int) 0) = l[n].name := by rw [cellAt_map h]; rfl
theorem qv1 {l : List Va} {n : Nat} (h : n < l.length) : intOf (cellAt (EV l) (n : Int) 1) = l[n].ty := by rw [cellAt_map h]; rfl
abbrev EI (l : List Int) : List AV := l.map (.int .i64)
abbrev ksI : List CS := [CS.int IntKind.i64]
theorem okI {l : List Int} {n : Nat} (h : n < l.length) : okAt ksI (EI l) (n : Int) = true := okAt_at (fun _ => rfl) h
theorem qi0 {l : List Int} {n : Nat} (h : n < l.length) : intOf (cellAt (EI l) (n : Int) 0) = l[n] := by rw [cellAt_map h]; rfl
def goodB (t : Int) : Bool := decide (t ≥ 1) && decide (t ≤ 5)
def ariL : List ((Int × Int × Int) × Int) := [((5, 1, 1), 1), ((5, 2, 2), 2), ((5, 3, 3), 3), ((5, 4, 1), 4), ((6, 1, 1), 1), ((6, 2, 2), 2), ((6, 3, 3), 3), ((6, 4, 1), 4), ((6, 4, 4), 1), ((7, 1, 1), 1), ((7, 1, 2), 2), ((7, 1, 3), 3), ((7, 2, 1), 2), ((7, 2, 3), 2), ((7, 3, 1), 3), ((7, 3, 2), 2), ((8, 1, 1), 1), ((8, 2, 1), 2), ((8, 2, 2), 1), ((8, 3, 1), 3)]
def triA (p : (Int × Int × Int) × Int) : AV × AV := (.agg [.int .i64 p.1.1, .int .i64 p.1.2.1, .int .i64 p.1.2.2], .int .i64 p.2)
abbrev ks3 : Key := (true, [EK.i, EK.i, EK.i])
abbrev key3 (a b c : Int) : AV := .agg [.int .i64 a, .int .i64 b, .int .i64 c]
theorem eq3 (a b c a' b' c' : Int) : keyEq ks3 (key3 a b c) (key3 a' b' c') = some (a == a' && (b == b' && (c == c' && true))) := rfl
theorem mfind3 (a b c : Int) : ∀ l : List ((Int × Int × Int) × Int), mfind ks3 (l.map triA) (key3 a b c) = some ((l.find? fun p => p.1 == (a, b, c)).map fun p => .int .i64 p.2)
  | [] => rfl
  | p :: l => by
    obtain ⟨⟨x, y, z⟩, t⟩ := p
    simp only [List.map_cons, triA, mfind, eq3, List.find?_cons]
    by_cases h : (x, y, z) = (a, b, c)
    · cases h
      simp
    · have e1 : ((x, y, z) == (a, b, c)) = false := by simpa using h
      have e2 : (a == x && (b == y && (c == z && true))) = false := by
        rw [Bool.eq_false_iff]
        intro hh
        simp only [Bool.and_eq_true, beq_iff_eq, Bool.and_true] at hh
        exact h (by rw [hh.1, hh.2.1, hh.2.2])
      rw [e1, e2]
      exact mfind3 a b c l
def ariT (op a b : Int) : Option Int := (ariL.find? fun p => p.1 == (op, a, b)).map (·.2)
theorem mhas3 (op a b : Int) : mhas ks3 (ariL.map triA) (key3 op a b) = (ariT op a b).isSome := by
  unfold mhas
  rw [mfind3, ariT]
  have : isKey ks3 (key3 op a b) = true := rfl
  rw [this]
  cases (ariL.find? fun p => p.1 == (op, a, b)) <;> rfl
theorem mnot3 (op a b : Int) : mnot ks3 (ariL.map triA) (key3 op a b) = !(ariT op a b).isSome := by
  unfold mnot
  rw [mfind3, ariT]
  have : isKey ks3 (key3 op a b) = true := rfl
  rw [this]
  cases (ariL.find? fun p => p.1 == (op, a, b)) <;> rfl
theorem mval3 {op a b t : Int} (h : ariT op a b = some t) : mval ks3 (ariL.map triA) (key3 op a b) = .int .i64 t := by
  unfold mval
  rw [mfind3]
  unfold ariT at h
  cases hf : (ariL.find? fun p => p.1 == (op, a, b)) with
  | none => rw [hf] at h; cases h
  | some p => rw [hf] at h; cases h; rfl
theorem ariT_ne {op a b t : Int} (h : ariT op a b = some t) : t ≠ 0 ∧ 5 ≤ op ∧ op ≤ 8 := by
  unfold ariT at h
  cases hf : (ariL.find? fun p => p.1 == (op, a, b)) with
  | none => rw [hf] at h; cases h
  | some p =>
    rw [hf] at h; cases h
    have h1 := List.mem_of_find?_eq_some hf
    have h2 := List.find?_some hf
    have : ∀ p ∈ ariL, p.2 ≠ 0 ∧ 5 ≤ p.1.1 ∧ p.1.1 ≤ 8 := by decide
    obtain ⟨h3, h4, h5⟩ := this p h1
    have : p.1 = (op, a, b) := by simpa using h2
    rw [this] at h4 h5
    exact ⟨h3, h4, h5⟩
def nrm (p : Int × Bool) : Int × Bool := bif p.2 then (p.1, true) else (0, false)
def oneS (op a : Int) : Int × Bool :=
  if op = 16 then bif a == 5 then (5, true) else (0, false)
  else if op = 9 then bif a == 1 || (a == 2 || a == 3) then (a, true) else (0, false)
  else (0, false)
def twoS (op a b : Int) : Int × Bool :=
  if op = 10 ∨ op = 11 then bif a == b then (5, true) else (0, false)
  else if op = 12 ∨ op = 13 then bif a == b && a != 5 then (5, true) else (0, false)
  else if op = 14 ∨ op = 15 then bif a == b && a == 5 then (5, true) else (0, false)
  else if op = 17 ∨ op = 18 then bif a == b && a != 5 then (a, true) else (0, false)
  else match ariT op a b with
    | some t => (t, true)
    | none => (0, false)
def threeS (op a b c : Int) : Int × Bool := bif op == 19 && (a == 5 && b == c) then (b, true) else (0, false)
def resS (op : Int) (l : List Int) : Int × Bool := bif !l.all goodB then (0, false) else match l with
  | [a] => oneS op a
  | [a, b] => twoS op a b
  | [a, b, c] => threeS op a b c
  | _ => (0, false)
def varTy (vs : List Va) (s : Bs) : Int × Int := match vs.find? fun v => v.name == s with
  | none => (0, 4)
  | some v => bif goodB v.ty then (v.ty, 0) else (0, 3)
def finT (op : Int) (p : List Int × Int) : Int × Int := bif p.2 != 0 then (0, p.2) else bif (resS op p.1).2 then ((resS op p.1).1, 0) else (0, 3)
mutual
def Ex.ty (vs : List Va) : Ex → Int × Int
  | .mk o _ s l => if o = 1 then (1, 0) else if o = 2 then (2, 0) else if o = 3 then (3, 0) else if o = 4 then varTy vs s else finT o (Ex.tys vs l)
def Ex.tys (vs : List Va) : List Ex → List Int × Int
  | [] => ([], 0)
  | e :: l => bif (Ex.ty vs e).2 != 0 then ([], (Ex.ty vs e).2) else bif (Ex.tys vs l).2 != 0 then ([], (Ex.tys vs l).2) else ((Ex.ty vs e).1 :: (Ex.tys vs l).1, 0)
end
def ofS (e : Ex) (vs : List Va) : Int × Int := bif validS e != 0 then (0, validS e) else e.ty vs
def wrongV (vs : List Va) (n : Nat) : Nat := match vs[n]? with
  | none => 9
  | some v => bif !varS v.name then 0 else bif (vs.take n).any (fun w => w.name == v.name) then 1 else bif !goodB v.ty then 2 else 9
def eV (vs : List Va) : Nat := seek (fun n => wrongV vs n != 9) (wrongV vs) 3 (List.range vs.length)
def varsS (vs : List Va) : Int := if vs.length > 64 then 5 else match eV vs with
  | 0 => 4
  | 1 => 12
  | 2 => 3
  | _ => 0
theorem wrongV_cases (vs : List Va) (n : Nat) : wrongV vs n = 0 ∨ wrongV vs n = 1 ∨ wrongV vs n = 2 ∨ wrongV vs n = 9 := by
  unfold wrongV
  cases vs[n]? with
  | none => simp
  | some v => cases h1 : varS v.name <;> cases h2 : (vs.take n).any (fun w => w.name == v.name) <;> cases h3 : goodB v.ty <;> simp [h1, h2, h3]
theorem valid_var (s : Bs) : validS (.mk 4 0 s []) = bif varS s then 0 else 4 := by
  have h1 : formedB (.mk 4 0 s []) = true := by simp [formedB, Ex.op, Ex.num, Ex.txt, Ex.args, operandsS, mostS]
  have h2 : namedB (.mk 4 0 s []) = varS s := by simp [namedB, Ex.op, Ex.txt]
  cases hv : varS s <;> simp [validS, Ex.nodes, Ex.nodesL, Ex.dep, Ex.depL, Ex.allX, Ex.allL, h1, h2, hv]
end Go.Tk

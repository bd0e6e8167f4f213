/- Running code over plain data; compiled code gives the value of its expression. -/
import Derived.Test.YtigchhcddgibhaaGreatDoorEvB
import Derived.Test.YtigchhcddgibhaaGreatDoorCdB
set_option linter.unusedVariables false
set_option linter.unusedSimpArgs false
set_option linter.unnecessarySimpa false
namespace Go.Tk
open Go Go.Eng
set_option maxRecDepth 20000
def qgN (env : List Vl) (ins : List In) : Nat -> Nat -> List Vl -> Int -> Vl × Int × Int
 | 0, _, _, _ => (⟨0, 0⟩, 0, 0)
 | k + 1, p, st, fuel => match ins[p]? with
  | none => ((st[0]?).getD ⟨0, 0⟩, fuel, 0)
  | some x => if fuel <= 0 then (⟨0, 0⟩, 0, 8)
   else if x.op = 1 then qgN env ins k (p + 1) (st ++ [⟨x.a, x.n⟩]) (fuel - 1)
   else if x.op = 2 then qgN env ins k (p + 1) (st ++ [(env[x.a.toNat]?).getD ⟨0, 0⟩]) (fuel - 1)
   else if x.op = 3 then (if (qbc x.a (st.drop (st.length - arS x.a))).2 = 0 then qgN env ins k (p + 1) (st.take (st.length - arS x.a) ++ [(qbc x.a (st.drop (st.length - arS x.a))).1]) (fuel - 1)
    else (⟨0, 0⟩, 0, (qbc x.a (st.drop (st.length - arS x.a))).2))
   else if x.op = 4 then qgN env ins k x.a.toNat st (fuel - 1)
   else qgN env ins k (if ((st.getLast?).getD ⟨0, 0⟩).n = 0 then x.a.toNat else p + 1) st.dropLast (fuel - 1)
structure FlowC (c : Cd) (Z : Nat -> List Int) : Prop where
 zero : Z 0 = []
 last : Z c.ins.length = [c.ty]
 step : ∀ (n : Nat) (hn : n < c.ins.length), ∃ T jt go, qcC c.vars c.ins.length n c.ins[n] (Z n) = some (T, jt, go) /\ T.length <= 16 /\ (∀ q, jt = some q -> Z q = T) /\ (go = true -> Z (n + 1) = T)
section
variable {env : List Vl} {ins : List In} {k p : Nat} {st : List Vl} {fuel : Int}
theorem run_load {x : In} (h : ins[p]? = some x) (ho : x.op = 2) (hf : 0 < fuel) : qgN env ins (k + 1) p st fuel = qgN env ins k (p + 1) (st ++ [(env[x.a.toNat]?).getD ⟨0, 0⟩]) (fuel - 1) := by
 simp only [qgN, h]
 rw [if_neg (by omega), if_neg (by omega), if_pos ho]
end
def Gives (env : List Vl) (ins : List In) (p n : Nat) (r : Vl × Int) : Prop :=
 ∃ s, 1 <= s /\ s <= n /\ ∀ (k : Nat) (st : List Vl) (fuel : Int), (n : Int) <= fuel -> qgN env ins (k + s) p st fuel = if r.2 = 0 then qgN env ins k (p + n) (st ++ [r.1]) (fuel - s) else (⟨0, 0⟩, 0, r.2)
theorem qrP {t w : Int} (h : (qrc t w).2 ≠ 0) : (qrc t w).1 = ⟨0, 0⟩ := by
 unfold qrc at h ⊢
 cases hb : (qa6 w && qbb ⟨t, w⟩)
 ·rfl
 ·rw [hb] at h; simp at h
theorem q8u {op t : Int} {a b : Vl} (h : (qmY op t a b).2 ≠ 0) : (qmY op t a b).1 = ⟨0, 0⟩ := by
 unfold qmY at h ⊢
 split at h
 ·rw [if_pos (by assumption)]; exact qrP h
 ·rw [if_neg (by assumption)]
  split at h
  ·rw [if_pos (by assumption)]; exact qrP h
  ·rw [if_neg (by assumption)]
   split at h
   ·rw [if_pos (by assumption)]
    unfold qM4 at h ⊢
    split at h
    ·rw [if_pos (by assumption)]; exact qrP h
    ·rw [if_neg (by assumption)]; exact qrP h
   ·rw [if_neg (by assumption)]
    split at h
    ·rw [if_pos (by assumption)]
     unfold qTN at h ⊢
     split at h
     ·rw [if_pos (by assumption)]
     ·rw [if_neg (by assumption)]
      split at h
      ·rw [if_pos (by assumption)]; exact qrP h
      ·rw [if_neg (by assumption)]
       split at h
       ·exact absurd rfl h
       ·rw [if_neg (by assumption)]
        split at h
        ·rw [if_pos (by assumption)]; exact qrP h
        ·rw [if_neg (by assumption)]; exact qrP h
    ·repeat (split at h; exact absurd rfl h)
     exact absurd rfl h
theorem zaT {op t : Int} {l : List Vl} (h : (opV op t l).2 ≠ 0) : (opV op t l).1 = ⟨0, 0⟩ := by
 match l, h with
 | [], _ => rfl
 | [a], h =>
  simp only [opV] at h ⊢
  split at h
  ·rw [if_pos (by assumption)]; exact qrP h
  ·exact absurd rfl h
 | [a, b], h => exact q8u h
 | [a, b, c], h => exact absurd rfl h
 | _ :: _ :: _ :: _ :: _, _ => rfl
theorem q58 {op : Int} {l : List Vl} (h : (qbc op l).2 ≠ 0) : (qbc op l).1 = ⟨0, 0⟩ := by
 unfold qbc at h ⊢
 cases hr : (qa0 op (l.map (·.ty))).2
 ·rfl
 ·cases hv : l.all qbb
  ·rfl
  ·rw [hr, hv] at h
   exact zaT h
mutual
theorem qW0 (vs : List Va) (env : List Vl) : ∀ e : Ex, (qa4 vs env e).2 ≠ 0 -> (qa4 vs env e).1 = ⟨0, 0⟩
 | .mk o n s l, h => by
  have hi := q4N vs env l
  simp only [qa4] at h ⊢
  split at h
  ·exact absurd rfl h
  ·rw [if_neg (by assumption)]
   split at h
   ·exact absurd rfl h
   ·rw [if_neg (by assumption)]
    split at h
    ·exact absurd rfl h
    ·rw [if_neg (by assumption)]
     split at h
     ·exact absurd rfl h
     ·rw [if_neg (by assumption)]
      split at h
      ·rw [if_pos (by assumption)]; exact hi h
      ·rw [if_neg (by assumption)]
       cases hq : ((qe1 vs env l).2 != 0)
       ·rw [hq] at h; exact q58 h
       ·rfl
theorem q4N (vs : List Va) (env : List Vl) : ∀ l : List Ex, (qK7 vs env l).2 ≠ 0 -> (qK7 vs env l).1 = ⟨0, 0⟩
 | [c, a, b], h => by
  have ha := qW0 vs env a
  have hb := qW0 vs env b
  simp only [qK7] at h ⊢
  cases hq : ((qa4 vs env c).2 != 0)
  ·rw [hq] at h
   simp only [cond_false] at h ⊢
   split at h
   ·rw [if_pos (by assumption)]; exact ha h
   ·rw [if_neg (by assumption)]; exact hb h
  ·rfl
 | [], _ => rfl
 | [_], _ => rfl
 | [_, _], _ => rfl
 | _ :: _ :: _ :: _ :: _, _ => rfl
end
end Go.Tk

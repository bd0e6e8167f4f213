/- Laws of code over plain data: compiled code is valid; equal code comes from equal expressions; jumps that are not right. -/
import Derived.Test.YtigchhcddgibhaaGreatDoorCdA
set_option linter.unusedVariables false
set_option linter.unusedSimpArgs false
set_option linter.unnecessarySimpa false
namespace Go.Tk
open Go Go.Eng
set_option maxRecDepth 20000
abbrev un : Sk := ⟨false, false, []⟩
abbrev ks (T : List Int) : Sk := ⟨true, false, T⟩
theorem qNr (N : Nat) : (sk0 N).length = N + 1 := by simp [sk0]
def atD (σ : List Sk) (i : Nat) : Nat := match σ[i]? with
 | some s => s.ts.length
 | none => 0
def okD (σ : List Sk) (i : Nat) : Bool := match σ[i]? with
 | some s => s.kn && !s.bad
 | none => false
def qf1 (vs : List Va) (N : Nat) : Nat -> List In -> List Sk -> Nat -> Int × List Sk × Nat
 | i, [], σ, d => bif okD σ i then (0, σ, max d (atD σ i)) else (9, σ, d)
 | i, x :: l, σ, d => bif (qtk vs N i x σ).1 != 0 then ((qtk vs N i x σ).1, σ, d) else qf1 vs N (i + 1) l (qtk vs N i x σ).2.1 (max d (atD σ i))
def tsB (c : Cd) (σ : List Sk) : Bool := match σ[c.ins.length]? with
 | some s => s.ts == [c.ty]
 | none => false
def zbl (c : Cd) : Int × Int := if c.ins.length > 128 then (0, 5) else bif qdv c.vars != 0 then (0, qdv c.vars) else
 bif (qf1 c.vars c.ins.length 0 c.ins (sk0 c.ins.length) 0).1 != 0 then (0, (qf1 c.vars c.ins.length 0 c.ins (sk0 c.ins.length) 0).1) else bif tsB c (qf1 c.vars c.ins.length 0 c.ins (sk0 c.ins.length) 0).2.1 then (((qf1 c.vars c.ins.length 0 c.ins (sk0 c.ins.length) 0).2.2 : Int), 0) else (0, 9)
theorem q18 {vs : List Va} {N i : Nat} {x : In} {σ : List Sk} (h : (qtk vs N i x σ).1 = 0) : ∃ s T jt go, σ[i]? = some s /\ s.kn = true /\ s.bad = false /\ qcC vs N i x s.ts = some (T, jt, go) /\ qtk vs N i x σ = (0, goS (toS σ T jt) T i go, T.length) := by
 unfold qtk at h
 cases hs : σ[i]? with
 | none => rw [hs] at h; simp at h
 | some s =>
  rw [hs] at h
  simp only at h
  cases hb : (!s.kn || s.bad) with
  | true => rw [hb] at h; simp at h
  | false =>
   rw [hb] at h
   simp only [cond_false] at h
   simp only [Bool.or_eq_false_iff, Bool.not_eq_false'] at hb
   cases hq : qcC vs N i x s.ts with
   | none => rw [hq] at h; simp at h
   | some r =>
    obtain ⟨T, jt, go⟩ := r
    rw [hq] at h
    simp only at h
    split at h
    ·simp at h
    ·rename_i hT
     refine ⟨s, T, jt, go, rfl, hb.1, hb.2, hq, ?_⟩
     simp only [qtk, hs, hb.1, hb.2, hq, if_neg hT]
     rfl
theorem qzQ {vs : List Va} {N i : Nat} {x : In} {T T' : List Int} {jt : Option Nat} {go : Bool} (h : qcC vs N i x T = some (T', jt, go)) : (∀ j, jt = some j -> i < j /\ j <= N) /\ (go = true \/ ∃ j, jt = some j) := by
 unfold qcC at h
 split at h
 ·cases hp : pushB x <;> rw [hp] at h
  ·cases h
  ·cases h; exact ⟨fun j hj => (by cases hj), .inl rfl⟩
 ·split at h
  ·cases h
  ·split at h
   ·split at h
    ·split at h
     ·cases h; exact ⟨fun j hj => (by cases hj), .inl rfl⟩
     ·cases h
    ·cases h
   ·split at h
    ·cases ho : qfn x.a T with
     | none => rw [ho] at h; cases h
     | some r => rw [ho] at h; cases h; exact ⟨fun j hj => (by cases hj), .inl rfl⟩
    ·split at h
     ·split at h
      ·cases h; exact ⟨fun j hj => (by cases hj; omega), .inr ⟨_, rfl⟩⟩
      ·cases h
     ·split at h
      ·split at h
       ·rename_i hq
        cases h; exact ⟨fun j hj => (by cases hj; omega), .inl rfl⟩
       ·cases h
      ·cases h
def qDL (σ : List Sk) : Prop := ∀ (j : Nat) (s : Sk), σ[j]? = some s -> s.kn = false -> s.ts = []
def qJs (σ : List Sk) (i : Nat) : Prop := ∀ (j : Nat) (s : Sk), i <= j -> σ[j]? = some s -> s.bad = false
theorem qLC {σ : List Sk} {jt : Nat} {T : List Int} (h : qDL σ) : qDL (qeX σ jt T) := by
 intro j s hs hk
 rw [qdq] at hs
 split at hs
 ·cases hq : σ[j]? with
  | none => rw [hq] at hs; cases hs
  | some s0 =>
   rw [hq] at hs
   simp only [Option.map_some, Option.some.injEq] at hs
   subst hs
   unfold qci at hk
   cases hk0 : s0.kn <;> rw [hk0] at hk <;> cases hk
 ·exact h j s hs hk
theorem qX0 {σ : List Sk} {jt i : Nat} {T : List Int} (h : qJs (qeX σ jt T) i) : qJs σ i := by
 intro j s hj hs
 by_cases c : j = jt
 ·have := h j (qci s T) hj (by rw [qdq, if_pos c, hs]; rfl)
  unfold qci at this
  cases hk : s.kn <;> rw [hk] at this
  ·exact this
  ·simp only [cond_true, Bool.or_eq_false_iff] at this; exact this.1
 ·exact h j s hj (by rw [qdq, if_neg c]; exact hs)
def qq8 (σ : List Sk) (i m : Nat) : Prop := ∀ (j : Nat) (s : Sk), i <= j -> σ[j]? = some s -> s.ts.length <= m
theorem qLB {σ : List Sk} {jt i m : Nat} {T : List Int} (he : qDL σ) (hs : qJs (qeX σ jt T) i) (hi : i <= jt) (hl : jt < σ.length) : qq8 (qeX σ jt T) i m ↔ qq8 σ i m /\ T.length <= m := by
 have hq : σ[jt]? = some σ[jt] := List.getElem?_eq_getElem hl
 have hto : (qeX σ jt T)[jt]? = some (qci σ[jt] T) := by rw [qdq, if_pos rfl, hq]; rfl
 have hmeet : (qci σ[jt] T).ts = T := by
  have hb := hs jt _ hi hto
  unfold qci at hb ⊢
  cases hk : σ[jt].kn
  ·rfl
  ·rw [hk] at hb
   simp only [cond_true, Bool.or_eq_false_iff, bne_eq_false_iff_eq] at hb
   exact hb.2
 constructor
 ·intro h
  refine ⟨fun j s hj hs' => ?_, by have := h jt _ hi hto; rwa [hmeet] at this⟩
  by_cases c : j = jt
  ·subst c
   rw [hq] at hs'; cases hs'
   cases hk : σ[j].kn
   ·rw [he j _ hq hk]; simp
   ·have := h j _ hi hto
    unfold qci at this
    rw [hk] at this; exact this
  ·exact h j s hj (by rw [qdq, if_neg c]; exact hs')
 ·rintro ⟨h, hT⟩ j s hj hs'
  by_cases c : j = jt
  ·subst c
   rw [hto] at hs'; cases hs'
   rw [hmeet]; exact hT
  ·rw [qdq, if_neg c] at hs'
   exact h j s hj hs'
theorem qTK {vs : List Va} {N : Nat} : ∀ {l : List In} {i : Nat} {σ : List Sk} {d d2 : Nat}, i + l.length = N -> σ.length = N + 1 ->
  ((qcD vs N i l σ d).1 ≠ 0 -> (qf1 vs N i l σ d2).1 = (qcD vs N i l σ d).1) /\ ((qcD vs N i l σ d).1 = 0 -> (qf1 vs N i l σ d2).1 = (bif okD (qcD vs N i l σ d).2.1 N then 0 else 9) /\ (qf1 vs N i l σ d2).2.1 = (qcD vs N i l σ d).2.1)
 | [], i, σ, d, d2, hi, hl => by
  simp only [List.length_nil, Nat.add_zero] at hi
  subst hi
  simp only [qcD, qf1]
  refine ⟨fun h => absurd rfl h, fun _ => ?_⟩
  cases okD σ i <;> exact ⟨rfl, rfl⟩
 | x :: l, i, σ, d, d2, hi, hl => by
  simp only [List.length_cons] at hi
  simp only [qcD, qf1]
  cases h1 : ((qtk vs N i x σ).1 != 0)
  ·simp only [cond_false]
   exact qTK (by omega) (by rw [q4y, hl])
  ·simp only [cond_true]
   exact ⟨fun _ => trivial, fun h => by rw [h] at h1; simp at h1⟩
theorem qL9 {vs : List Va} {N : Nat} : ∀ {l : List In} {i : Nat} {σ : List Sk} {d d2 : Nat}, i + l.length = N -> σ.length = N + 1 -> qDL σ -> (qcD vs N i l σ d).1 = 0 -> okD (qcD vs N i l σ d).2.1 N = true ->
  qJs σ i /\ ((∀ m, d <= m ↔ d2 <= m /\ qq8 σ i m) -> (qf1 vs N i l σ d2).2.2 = (qcD vs N i l σ d).2.2)
 | [], i, σ, d, d2, hi, hl, he, h0, hok => by
  simp only [List.length_nil, Nat.add_zero] at hi
  subst hi
  simp only [qcD] at hok
  have hq : σ[i]? = some σ[i] := List.getElem?_eq_getElem (by omega)
  have hok' := hok
  rw [okD, hq] at hok'
  simp only [Bool.and_eq_true, Bool.not_eq_true'] at hok'
  refine ⟨fun j s hj hs => ?_, fun hm => ?_⟩
  ·have : j = i := by
    have := (List.getElem?_eq_some_iff.1 hs).1
    omega
   subst this
   rw [hq] at hs; cases hs
   exact hok'.2
  ·simp only [qf1, qcD, hok, cond_true]
   have hat : atD σ i = σ[i].ts.length := by rw [atD, hq]
   have hb : ∀ m, qq8 σ i m ↔ σ[i].ts.length <= m := by
    intro m
    constructor
    ·intro h; exact h i _ (Nat.le_refl _) hq
    ·intro h j s hj hs
     have : j = i := by
      have := (List.getElem?_eq_some_iff.1 hs).1
      omega
     subst this
     rw [hq] at hs; cases hs; exact h
   have h1 := (hm d).1 (Nat.le_refl _)
   have h2 := (hm (max d2 (atD σ i))).2 ⟨by omega, (hb _).2 (by rw [<- hat]; omega)⟩
   have h3 := (hb d).1 h1.2
   omega
 | x :: l, i, σ, d, d2, hi, hl, he, h0, hok => by
  simp only [List.length_cons] at hi
  simp only [qcD] at h0 hok
  simp only [qcD, qf1]
  cases h1 : ((qtk vs N i x σ).1 != 0)
  ·rw [h1] at h0 hok
   simp only [cond_false] at h0 hok ⊢
   obtain ⟨s, T, jt, go, g1, g2, g3, g4, g5⟩ := q18 (by simpa using h1)
   obtain ⟨g6, g7⟩ := qzQ g4
   rw [g5] at h0 hok ⊢
   simp only at h0 hok ⊢
   have hq : σ[i]? = some s := g1
   have he1 : qDL (toS σ T jt) := by cases jt with | none => exact he | some j => exact qLC he
   have he2 : qDL (goS (toS σ T jt) T i go) := by cases go with | false => exact he1 | true => exact qLC he1
   have ih := qL9 (d := max d T.length) (d2 := max d2 (atD σ i)) (by omega) (by rw [q1u, qTC, hl]) he2 h0 hok
   obtain ⟨ih1, ih2⟩ := ih
   have hs1 : qJs (toS σ T jt) (i + 1) := by cases go with | false => exact ih1 | true => exact qX0 ih1
   have hs2 : qJs σ (i + 1) := by cases jt with | none => exact hs1 | some j => exact qX0 hs1
   have hs3 : qJs σ i := by
    intro j s' hj hs'
    by_cases c : j = i
    ·subst c; rw [hq] at hs'; cases hs'; exact g3
    ·exact hs2 j s' (by omega) hs'
   refine ⟨hs3, fun hm => ih2 fun m => ?_⟩
   have hat : atD σ i = s.ts.length := by rw [atD, hq]
   have hsplit : qq8 σ i m ↔ atD σ i <= m /\ qq8 σ (i + 1) m := by
    rw [hat]
    constructor
    ·intro h; exact ⟨h i s (Nat.le_refl _) hq, fun j s' hj hs' => h j s' (by omega) hs'⟩
    ·rintro ⟨h3, h4⟩ j s' hj hs'
     by_cases c : j = i
     ·subst c; rw [hq] at hs'; cases hs'; exact h3
     ·exact h4 j s' (by omega) hs'
   have hlead : qq8 (goS (toS σ T jt) T i go) (i + 1) m ↔ qq8 σ (i + 1) m /\ T.length <= m := by
    have hto : ∀ j, jt = some j -> (qq8 (toS σ T jt) (i + 1) m ↔ qq8 σ (i + 1) m /\ T.length <= m) := by
     rintro j rfl
     have := g6 j rfl
     exact qLB he hs1 (by omega) (by omega)
    have hgo : go = true -> (qq8 (goS (toS σ T jt) T i go) (i + 1) m ↔ qq8 (toS σ T jt) (i + 1) m /\ T.length <= m) := by
     rintro rfl
     exact qLB he1 ih1 (Nat.le_refl _) (by rw [qTC]; omega)
    cases go with
    | false =>
     rcases g7 with h | ⟨j, h⟩
     ·cases h
     ·exact hto j h
    | true =>
     rw [hgo rfl]
     cases jt with
     | none => exact Iff.rfl
     | some j => rw [hto j rfl]; exact ⟨fun h => h.1, fun h => ⟨h, h.2⟩⟩
   have := hm m
   rw [hsplit] at this
   rw [hlead, Nat.max_le, Nat.max_le, this]
   constructor
   ·rintro ⟨⟨a, b, c⟩, e⟩; exact ⟨⟨a, b⟩, c, e⟩
   ·rintro ⟨⟨a, b⟩, c, e⟩; exact ⟨⟨a, b, c⟩, e⟩
  ·rw [h1] at h0; simp only [cond_true] at h0; rw [h0] at h1; simp at h1
theorem q2G (N : Nat) : qDL (sk0 N) := by
 intro j s hs hk
 cases j with
 | zero => simp [sk0] at hs; subst hs; rfl
 | succ j =>
  simp only [sk0, List.getElem?_cons_succ, List.getElem?_replicate] at hs
  split at hs
  ·cases hs; rfl
  ·cases hs
theorem q2y (c : Cd) : zbl c = qtl c := by
 unfold zbl qtl
 split
 ·rfl
 ·cases h1 : (qdv c.vars != 0)
  ·simp only [cond_false]
   have hW : qcD c.vars c.ins.length 0 c.ins (sk0 c.ins.length) 0 = qdZ c := rfl
   obtain ⟨b1, b2⟩ := qTK (vs := c.vars) (l := c.ins) (i := 0) (σ := sk0 c.ins.length) (d := 0) (d2 := 0) (by omega) (qNr _)
   have b5 := qL9 (vs := c.vars) (l := c.ins) (i := 0) (σ := sk0 c.ins.length) (d := 0) (d2 := 0) (by omega) (qNr _) (q2G _)
   rw [hW] at b1 b2 b5
   cases h2 : ((qdZ c).1 != 0)
   ·have h2' : (qdZ c).1 = 0 := by simpa using h2
    obtain ⟨b3, b4⟩ := b2 h2'
    have hend : endB c (qdZ c).2.1 = (okD (qdZ c).2.1 c.ins.length && tsB c (qdZ c).2.1) := by
     unfold endB okD tsB
     cases (qdZ c).2.1[c.ins.length]? <;> rfl
    rw [b3, b4, hend]
    cases h3 : okD (qdZ c).2.1 c.ins.length
    ·simp
    ·cases h4 : tsB c (qdZ c).2.1
     ·rfl
     ·have := (b5 h2' h3).2 (fun m => by
       refine ⟨fun _ => ⟨Nat.zero_le _, fun j s _ hs => ?_⟩, fun _ => Nat.zero_le _⟩
       cases j with
       | zero => simp [sk0] at hs; subst hs; simp
       | succ j =>
        simp only [sk0, List.getElem?_cons_succ, List.getElem?_replicate] at hs
        split at hs
        ·cases hs; simp
        ·cases hs)
      rw [this]; rfl
   ·rw [b1 (by simpa using h2), h2]
    rfl
  ·rfl
end Go.Tk

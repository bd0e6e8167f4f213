/- Laws of code over plain data: compiled code is valid; equal code comes from equal expressions; jumps that are not right. -/
import Derived.Test.YtigchhcddgibhaaGreatDoorCdA
set_option linter.unusedVariables false
set_option linter.unusedSimpArgs false
set_option linter.unnecessarySimpa false
namespace Go.Tk
open Go Go.Eng
set_option maxRecDepth 20000
theorem qip {vs : List Va} {k : Nat} {o n : Int} {s : Bs} {l : List Ex} (h : o = 1 ∨ o = 2 ∨ o = 3) : emE vs k (.mk o n s l) = [⟨1, o, n⟩] := by
 rw [emE, if_pos h]
theorem qiq {vs : List Va} {k : Nat} {n : Int} {s : Bs} {l : List Ex} : emE vs k (.mk 4 n s l) = [⟨2, qVO vs s, 0⟩] := by
 rw [emE, if_neg (by decide), if_pos rfl]
theorem qnV {vs : List Va} {k : Nat} {n : Int} {s : Bs} {l : List Ex} : emE vs k (.mk 19 n s l) = emI vs k l := by
 rw [emE, if_neg (by decide), if_neg (by decide), if_pos rfl]
theorem qeQ {vs : List Va} {k : Nat} {o n : Int} {s : Bs} {l : List Ex} (h : 5 ≤ o ∧ o ≤ 18) : emE vs k (.mk o n s l) = emL vs k l ++ [⟨3, o, 0⟩] := by
 rw [emE, if_neg (by omega), if_neg (by omega), if_neg (by omega)]
theorem qbC {o n : Int} {s : Bs} {l : List Ex} (h : qas (.mk o n s l) = true) :
  ((o = 1 ∨ o = 2 ∨ o = 3) ∧ l = [] ∧ s = [] ∧ 0 ≤ n ∧ n ≤ qgt o) ∨ (o = 4 ∧ l = [] ∧ n = 0) ∨ ((o = 9 ∨ o = 16) ∧ l.length = 1 ∧ n = 0 ∧ s = []) ∨ (o = 19 ∧ l.length = 3 ∧ n = 0 ∧ s = []) ∨ ((5 ≤ o ∧ o ≤ 18) ∧ o ≠ 9 ∧ o ≠ 16 ∧ l.length = 2 ∧ n = 0 ∧ s = []) := by
 replace h : (qaV o == (l.length : Int) && (decide (n ≥ 0) && (decide (n ≤ qgt o) && (s == [] || o == 4)))) = true := h
 simp only [Bool.and_eq_true, beq_iff_eq, decide_eq_true_eq, Bool.or_eq_true] at h
 obtain ⟨h1, h2, h3, h4⟩ := h
 by_cases c1 : o = 1 ∨ o = 2 ∨ o = 3
 ·left
  rw [qaV, if_pos (by omega)] at h1
  refine ⟨c1, List.length_eq_zero_iff.1 (by omega), ?_, by omega, h3⟩
  rcases h4 with h | h
  ·exact h
  ·omega
 by_cases c2 : o = 4
 ·right; left
  rw [qaV, if_pos (by omega)] at h1
  rw [qgt, if_neg (by omega), if_neg (by omega), if_neg (by omega)] at h3
  exact ⟨c2, List.length_eq_zero_iff.1 (by omega), by omega⟩
 have hs : s = [] := by
  rcases h4 with h | h
  ·exact h
  ·exact absurd h c2
 have hn : n = 0 := by
  rw [qgt, if_neg (by omega), if_neg (by omega), if_neg (by omega)] at h3
  omega
 right; right
 rw [qaV, if_neg (by omega)] at h1
 split at h1
 ·left; exact ⟨by assumption, by omega, hn, hs⟩
 ·split at h1
  ·right; left; exact ⟨by assumption, by omega, hn, hs⟩
  ·split at h1
   ·right; right
    rename_i k1 k2 k3
    exact ⟨by omega, by omega, by omega, by omega, hn, hs⟩
   ·omega
theorem qf7 {vs : List Va} {k : Nat} {x : Ex} : emL vs k [x] = emE vs k x := by simp [emL]
theorem qf8 {vs : List Va} {k : Nat} {x y : Ex} : emL vs k [x, y] = emE vs k x ++ emE vs (k + (emE vs k x).length) y := by simp [emL]
theorem q0y {l : List Ex} (h : l.length = 1) : ∃ x, l = [x] := by
 match l, h with
 | [x], _ => exact ⟨x, rfl⟩
theorem q0z {l : List Ex} (h : l.length = 2) : ∃ x y, l = [x, y] := by
 match l, h with
 | [x, y], _ => exact ⟨x, y, rfl⟩
theorem q0A {l : List Ex} (h : l.length = 3) : ∃ x y z, l = [x, y, z] := by
 match l, h with
 | [x, y, z], _ => exact ⟨x, y, z, rfl⟩
theorem qJc (vs : List Va) : ∀ e : Ex, e.allX qas = true → ∀ k, e.nodes ≤ (emE vs k e).length ∧ (emE vs k e).length ≤ 2 * e.nodes := by
 intro e
 induction e using Ex.ind with
 | h o n s l ih =>
  intro hf k
  rw [Ex.allX_eq, Bool.and_eq_true, List.all_eq_true] at hf
  obtain ⟨h1, h2⟩ := hf
  simp only [Ex.args] at h2
  rcases qbC h1 with ⟨h, rfl, _⟩ | ⟨rfl, rfl, _⟩ | ⟨h, hl, _⟩ | ⟨rfl, hl, _⟩ | ⟨h, _, _, hl, _⟩
  ·rw [qip h]; simp [Ex.nodes, Ex.nodesL]
  ·rw [qiq]; simp [Ex.nodes, Ex.nodesL]
  ·obtain ⟨x, rfl⟩ := q0y hl
   rw [qeQ (by omega), qf7]
   have := ih x (by simp) (h2 x (by simp)) k
   simp only [Ex.nodes, Ex.nodesL, List.length_append, List.length_singleton]; omega
  ·obtain ⟨x, y, z, rfl⟩ := q0A hl
   rw [qnV]
   have a := ih x (by simp) (h2 x (by simp))
   have b := ih y (by simp) (h2 y (by simp))
   have c := ih z (by simp) (h2 z (by simp))
   simp only [emI, Ex.nodes, Ex.nodesL, List.length_append, List.length_cons]
   generalize k + (emE vs k x).length + 1 = k1
   have a := a k
   have b := b k1
   generalize k1 + (emE vs k1 y).length + 1 = k2
   have c := c k2
   omega
  ·obtain ⟨x, y, rfl⟩ := q0z hl
   rw [qeQ (by omega), qf8]
   have a := ih x (by simp) (h2 x (by simp)) k
   have b := ih y (by simp) (h2 y (by simp)) (k + (emE vs k x).length)
   simp only [Ex.nodes, Ex.nodesL, List.length_append, List.length_singleton]; omega
theorem qh8 {vs : List Va} {e : Ex} (h : e.allX qas = true) (k : Nat) : 1 ≤ (emE vs k e).length := by
 have := qJc vs e h k
 have := Ex.nodes_pos e
 omega
theorem q6k {vs : List Va} {o n t : Int} {s : Bs} {l : List Ex} (ho : o = 1 ∨ o = 2 ∨ o = 3) (h : Ex.ty vs (.mk o n s l) = (t, 0)) : t = o := by
 rcases ho with rfl | rfl | rfl <;> simp [Ex.ty] at h <;> omega
theorem qPB {vs : List Va} {n t : Int} {s : Bs} {l : List Ex} (h : Ex.ty vs (.mk 4 n s l) = (t, 0)) : ∃ v, vs[(vs.findIdx fun v => v.name == s)]? = some v ∧ v.name = s ∧ v.ty = t ∧ qVO vs s = ((vs.findIdx fun v => v.name == s : Nat) : Int) := by
 have h' : qj9 vs s = (t, 0) := by simpa [Ex.ty] using h
 unfold qj9 at h'
 cases hf : vs.find? fun v => v.name == s with
 | none => rw [hf] at h'; simp at h'
 | some v =>
  rw [hf] at h'
  have hg : v.ty = t := by
   simp only at h'
   cases hgd : qaO v.ty
   ·rw [hgd] at h'; simp at h'
   ·rw [hgd] at h'; simpa using h'
  rw [List.find?_eq_getElem?_findIdx] at hf
  have hn : v.name = s := by
   have := List.find?_some (p := fun v : Va => v.name == s) (l := vs) (by rw [List.find?_eq_getElem?_findIdx]; exact hf)
   simpa using this
  refine ⟨v, hf, hn, hg, ?_⟩
  have : vs.any (fun v => v.name == s) = true := by
   rw [List.any_eq_true]
   exact ⟨v, List.mem_of_getElem? hf, by simpa using hn⟩
  rw [qVO, this]; rfl
theorem q4N {op t : Int} {p : List Int × Int} (h : qx7 op p = (t, 0)) : p.2 = 0 ∧ qa3 op p.1 = (t, true) := by
 unfold qx7 at h
 cases h1 : (p.2 != 0)
 ·rw [h1] at h
  cases h2 : (qa3 op p.1).2
  ·rw [h2] at h; simp at h
  ·rw [h2] at h
   simp only [cond_false, cond_true, Prod.mk.injEq] at h
   exact ⟨by simpa using h1, by rw [← h.1, ← h2]⟩
 ·rw [h1] at h
  simp only [cond_true, Prod.mk.injEq] at h
  rw [h.2] at h1; simp at h1
theorem qFA {vs : List Va} {o n t : Int} {s : Bs} {l : List Ex} (ho : 5 ≤ o) (h : Ex.ty vs (.mk o n s l) = (t, 0)) : (Ex.tys vs l).2 = 0 ∧ qa3 o (Ex.tys vs l).1 = (t, true) := by
 have h' : qx7 o (Ex.tys vs l) = (t, 0) := by
  simpa [Ex.ty, show ¬ o = 1 by omega, show ¬ o = 2 by omega, show ¬ o = 3 by omega, show ¬ o = 4 by omega] using h
 exact q4N h'
theorem qck {vs : List Va} {e : Ex} {l : List Ex} (h : (Ex.tys vs (e :: l)).2 = 0) : (Ex.ty vs e).2 = 0 ∧ (Ex.tys vs l).2 = 0 ∧ (Ex.tys vs (e :: l)).1 = (Ex.ty vs e).1 :: (Ex.tys vs l).1 := by
 simp only [Ex.tys] at h ⊢
 cases h1 : ((Ex.ty vs e).2 != 0)
 ·rw [h1] at h
  cases h2 : ((Ex.tys vs l).2 != 0)
  ·exact ⟨by simpa using h1, by simpa using h2, rfl⟩
  ·rw [h2] at h; simp only [cond_false, cond_true] at h; rw [h] at h2; simp at h2
 ·rw [h1] at h; simp only [cond_true] at h; rw [h] at h1; simp at h1
abbrev un : Sk := ⟨false, false, []⟩
abbrev ks (T : List Int) : Sk := ⟨true, false, T⟩
theorem qqW {vs : List Va} {N i : Nat} {x : In} {l : List In} {σ : List Sk} {d : Nat} {σ' : List Sk} {k : Nat} (h : qkb vs N i x σ = (0, σ', k)) : qbg vs N i (x :: l) σ d = qbg vs N (i + 1) l σ' (max d k) := by
 rw [qbg, h]; rfl
theorem qAb {vs : List Va} {N i : Nat} {x : In} {σ : List Sk} {T T' : List Int} {jt : Option Nat} {go : Bool} (h1 : σ[i]? = some (ks T)) (h2 : qbA vs N i x T = some (T', jt, go)) (h3 : T'.length ≤ 16) : qkb vs N i x σ = (0, goS (toS σ T' jt) T' i go, T'.length) := by
 simp only [qkb, h1, h2]
 rw [if_neg (by omega)]; rfl
theorem qvO {vs : List Va} {N i : Nat} {x : In} {l : List In} {σ : List Sk} {d : Nat} {T T' : List Int} (h1 : σ[i]? = some (ks T)) (h2 : qbA vs N i x T = some (T', none, true)) (h3 : T'.length ≤ 16) (h4 : σ[i + 1]? = some un ∨ σ[i + 1]? = some (ks T')) :
  ∃ σ', qbg vs N i (x :: l) σ d = qbg vs N (i + 1) l σ' (max d T'.length) ∧ σ'.length = σ.length ∧ σ'[i + 1]? = some (ks T') ∧ ∀ j, i + 1 < j → σ'[j]? = σ[j]? := by
 refine ⟨_, qqW (qAb h1 h2 h3), by simp [goS, toS, qeU], ?_, fun j hj => ?_⟩
 ·simp only [goS, toS, qbw, if_true]
  rcases h4 with h | h
  ·rw [h]; rfl
  ·rw [h]; simp [qbP]
 ·simp only [goS, toS, qbw]
  rw [if_neg (by omega)]
theorem qCB {vs : List Va} {N i : Nat} {o : Int} {T r : List Int} (h : qex o T = some r) : qbA vs N i ⟨3, o, 0⟩ T = some (r, none, true) := by simp [qbA, h]
theorem bal (vs : List Va) (N : Nat) : ∀ (e : Ex), e.allX qas = true → ∀ (t : Int), e.ty vs = (t, 0) → ∀ (i : Nat) (rest : List In) (σ : List Sk) (d : Nat) (T : List Int), T.length + e.dep ≤ 16 → i + (emE vs i e).length ≤ N → σ.length = N + 1 → σ[i]? = some (ks T) →
  (∀ j, i < j → j < i + (emE vs i e).length → σ[j]? = some un) → (σ[i + (emE vs i e).length]? = some un ∨ σ[i + (emE vs i e).length]? = some (ks (T ++ [t]))) →
  ∃ σ' d', qbg vs N i (emE vs i e ++ rest) σ d = qbg vs N (i + (emE vs i e).length) rest σ' d' ∧ σ'.length = N + 1 ∧ σ'[i + (emE vs i e).length]? = some (ks (T ++ [t])) ∧ (∀ j, i + (emE vs i e).length < j → σ'[j]? = σ[j]?) ∧ T.length + 1 ≤ d' ∧ d' ≤ max d (T.length + e.dep) := by
 intro e
 induction e using Ex.ind with
 | h o n s l ih =>
  intro hf t ht i rest σ d T hd hN hσ h0 hun hend
  rw [Ex.allX_eq, Bool.and_eq_true, List.all_eq_true] at hf
  obtain ⟨h1, h2⟩ := hf
  simp only [Ex.args] at h2
  have hdep := qVD (.mk o n s l)
  simp only [Ex.args] at hdep
  rcases qbC h1 with ⟨ho, rfl, rfl, hn0, hn1⟩ | ⟨rfl, rfl, rfl⟩ | ⟨ho, hl, rfl, rfl⟩ | ⟨rfl, hl, rfl, rfl⟩ | ⟨ho, h9, h16, hl, rfl, rfl⟩
  ·rw [qip ho] at hend hN hun ⊢
   simp only [List.length_singleton] at hend hN hun ⊢
   have := q6k ho ht
   subst this
   simp only [Ex.depL] at hdep
   obtain ⟨σ', g1, g2, g3, g4⟩ := qvO (vs := vs) (N := N) (x := ⟨1, t, n⟩) (l := rest) (d := d) (T' := T ++ [t]) h0 (by
    simp only [qbA, if_true]
    have : pushB ⟨1, t, n⟩ = true := by
     rcases ho with rfl | rfl | rfl <;> simp [pushB, qgt] at hn1 ⊢ <;> omega
    rw [this]; rfl) (by simp; omega) hend
   exact ⟨σ', _, g1, by rw [g2, hσ], g3, g4, by simp; omega, by simp; omega⟩
  ·rw [qiq] at hend hN hun ⊢
   simp only [List.length_singleton] at hend hN hun ⊢
   obtain ⟨v, q1, q2, q3, q4⟩ := qPB ht
   subst q3
   simp only [Ex.depL] at hdep
   obtain ⟨σ', g1, g2, g3, g4⟩ := qvO (vs := vs) (N := N) (x := ⟨2, qVO vs s, 0⟩) (l := rest) (d := d) (T' := T ++ [v.ty]) h0 (by
    simp only [qbA, q4, Int.toNat_natCast, q1]
    simp) (by simp; omega) hend
   exact ⟨σ', _, g1, by rw [g2, hσ], g3, g4, by simp; omega, by simp; omega⟩
  ·obtain ⟨x, rfl⟩ := q0y hl
   obtain ⟨t1, t2⟩ := qFA (by omega) ht
   obtain ⟨t3, t4, t5⟩ := qck t1
   rw [t5] at t2
   simp only [Ex.tys] at t2
   rw [qeQ (by omega), qf7] at hend hN hun ⊢
   have hpos := qh8 (vs := vs) (h2 x (by simp)) i
   simp only [List.length_append, List.length_singleton] at hend hN hun ⊢
   simp only [Ex.depL, Nat.max_zero] at hdep
   obtain ⟨σ1, d1, a1, a2, a3, a4, a5, a6⟩ := ih x (by simp) (h2 x (by simp)) (x.ty vs).1 (by rw [← t3]) i ([⟨3, o, 0⟩] ++ rest) σ d T (by omega) (by omega) hσ h0 (fun j q1 q2 => hun j q1 (by omega)) (.inl (hun _ (by omega) (by omega)))
   obtain ⟨σ', g1, g2, g3, g4⟩ := qvO (vs := vs) (N := N) (x := ⟨3, o, 0⟩) (l := rest) (d := d1) (T' := T ++ [t]) a3 (by
    have hoper : qex o (T ++ [(x.ty vs).1]) = some (T ++ [t]) := by
     have har : arS o = 1 := by rw [arS, if_pos ho]
     simp only [qex, har]
     rw [if_pos ⟨by omega, by omega, by simp⟩]
     simp [t2]
    exact qCB hoper) (by simp; omega) (by rw [a4 _ (by omega)]; exact hend)
   refine ⟨σ', max d1 (T ++ [t]).length, ?_, by rw [g2, a2], g3, fun j hj => ?_, by simp; omega, by simp; omega⟩
   ·rw [List.append_assoc, a1]; exact g1
   ·rw [g4 j (by omega), a4 j (by omega)]
  ·obtain ⟨x, y, z, rfl⟩ := q0A hl
   obtain ⟨t1, t2⟩ := qFA (by omega) ht
   obtain ⟨t3, t4, t5⟩ := qck t1
   obtain ⟨t6, t7, t8⟩ := qck t4
   obtain ⟨t9, t10, t11⟩ := qck t7
   rw [t5, t8, t11] at t2
   simp only [Ex.tys] at t2
   have hres : (x.ty vs).1 = 5 ∧ (y.ty vs).1 = t ∧ (z.ty vs).1 = t := by
    unfold qa3 at t2
    revert t2
    cases ([(x.ty vs).1, (y.ty vs).1, (z.ty vs).1].all qaO) with
    | false => simp
    | true =>
     simp only [Bool.not_true, cond_false, qsT]
     cases c1 : ((x.ty vs).1 == 5) with
     | false => simp
     | true =>
      cases c2 : ((y.ty vs).1 == (z.ty vs).1) with
      | false => simp
      | true =>
       simp only [beq_iff_eq] at c1 c2
       intro h
       simp at h
       exact ⟨c1, h, by rw [← c2]; exact h⟩
   obtain ⟨r1, r2, r3⟩ := hres
   rw [qnV] at hend hN hun ⊢
   have px := qh8 (vs := vs) (h2 x (by simp)) i
   simp only [emI] at hend hN hun ⊢
   generalize hC : emE vs i x = C at hend hN hun px ⊢
   have py := qh8 (vs := vs) (h2 y (by simp)) (i + C.length + 1)
   generalize hA : emE vs (i + C.length + 1) y = A at hend hN hun py ⊢
   have pz := qh8 (vs := vs) (h2 z (by simp)) (i + C.length + 1 + A.length + 1)
   generalize hB : emE vs (i + C.length + 1 + A.length + 1) z = B at hend hN hun pz ⊢
   simp only [List.length_append, List.length_cons] at hend hN hun ⊢
   have hlen : C.length + (A.length + (B.length + 1) + 1) = C.length + 1 + A.length + 1 + B.length := by omega
   rw [hlen] at hend hN hun ⊢
   simp only [Ex.depL, Nat.max_zero] at hdep
   obtain ⟨σ1, d1, a1, a2, a3, a4, a5, a6⟩ := ih x (by simp) (h2 x (by simp)) 5 (by rw [← r1, ← t3]) i (⟨5, ((i + C.length + 1 + A.length + 1 : Nat) : Int), 0⟩ :: (A ++ ⟨4, ((i + C.length + 1 + A.length + 1 + B.length : Nat) : Int), 0⟩ :: B) ++ rest) σ d T (by omega) (by rw [hC]; omega) hσ h0 (fun j q1 q2 => hun j q1 (by rw [hC] at q2; omega)) (.inl (hun _ (by rw [hC]; omega) (by rw [hC]; omega)))
   rw [hC] at a1 a3 a4
   have hj : qbA vs N (i + C.length) ⟨5, ((i + C.length + 1 + A.length + 1 : Nat) : Int), 0⟩ (T ++ [5]) = some (T, some (i + C.length + 1 + A.length + 1), true) := by
    simp only [qbA]
    rw [if_neg (by decide), if_neg (by decide), if_neg (by decide), if_neg (by decide), if_neg (by decide), if_pos trivial, if_pos ⟨by simp, by omega, by omega⟩]
    simp only [Int.toNat_natCast, List.dropLast_concat]
   have b1 := qqW (l := (A ++ ⟨4, ((i + C.length + 1 + A.length + 1 + B.length : Nat) : Int), 0⟩ :: B) ++ rest) (d := d1) (qAb a3 hj (by omega))
   generalize hσ2 : goS (toS σ1 T (some (i + C.length + 1 + A.length + 1))) T (i + C.length) true = σ2 at b1
   have hget2 : ∀ j, i + C.length < j → σ2[j]? = if j = i + C.length + 1 ∨ j = i + C.length + 1 + A.length + 1 then some (ks T) else σ[j]? := by
    intro j hj
    rw [← hσ2]
    simp only [goS, toS, qbw]
    by_cases c1 : j = i + C.length + 1
    ·subst c1
     rw [if_pos rfl, if_neg (by omega), if_pos (.inl rfl), a4 _ (by omega), hun _ (by omega) (by omega)]; rfl
    ·rw [if_neg c1]
     by_cases c2 : j = i + C.length + 1 + A.length + 1
     ·subst c2
      rw [if_pos rfl, if_pos (.inr rfl), a4 _ (by omega), hun _ (by omega) (by omega)]; rfl
     ·rw [if_neg c2, if_neg (by omega), a4 _ (by omega)]
   have hl2 : σ2.length = N + 1 := by rw [← hσ2]; simp [goS, toS, qeU, a2]
   obtain ⟨σ3, d3, e1, e2, e3, e4, e5, e6⟩ := ih y (by simp) (h2 y (by simp)) t (by rw [← r2, ← t6]) (i + C.length + 1) (⟨4, ((i + C.length + 1 + A.length + 1 + B.length : Nat) : Int), 0⟩ :: B ++ rest) σ2 (max d1 T.length) T (by omega) (by rw [hA]; omega) hl2
    (by rw [hget2 _ (by omega), if_pos (.inl rfl)])
    (fun j q1 q2 => by rw [hA] at q2; rw [hget2 _ (by omega), if_neg (by omega)]; exact hun _ (by omega) (by omega))
    (.inl (by rw [hA, hget2 _ (by omega), if_neg (by omega)]; exact hun _ (by omega) (by omega)))
   rw [hA] at e1 e3 e4
   have hk : qbA vs N (i + C.length + 1 + A.length) ⟨4, ((i + C.length + 1 + A.length + 1 + B.length : Nat) : Int), 0⟩ (T ++ [t]) = some (T ++ [t], some (i + C.length + 1 + A.length + 1 + B.length), false) := by
    simp only [qbA]
    rw [if_neg (by decide), if_neg (by decide), if_neg (by decide), if_neg (by decide), if_pos trivial, if_pos ⟨by omega, by omega⟩]
    simp only [Int.toNat_natCast]
   have f1 := qqW (l := B ++ rest) (d := d3) (qAb e3 hk (by simp; omega))
   generalize hσ4 : goS (toS σ3 (T ++ [t]) (some (i + C.length + 1 + A.length + 1 + B.length))) (T ++ [t]) (i + C.length + 1 + A.length) false = σ4 at f1
   have hget4 : ∀ j, i + C.length + 1 + A.length < j → σ4[j]? = if j = i + C.length + 1 + A.length + 1 + B.length then some (ks (T ++ [t])) else if j = i + C.length + 1 + A.length + 1 then some (ks T) else σ[j]? := by
    intro j hj
    rw [← hσ4]
    simp only [goS, toS, qbw]
    have hb : σ3[j]? = if j = i + C.length + 1 + A.length + 1 then some (ks T) else σ[j]? := by
     rw [e4 _ (by omega), hget2 _ (by omega)]
     by_cases c : j = i + C.length + 1 + A.length + 1
     ·rw [if_pos (.inr c), if_pos c]
     ·rw [if_neg (by omega), if_neg c]
    by_cases c1 : j = i + C.length + 1 + A.length + 1 + B.length
    ·rw [if_pos c1, if_pos c1, hb, if_neg (by omega)]
     rw [c1]
     have hend' := hend
     rw [show i + (C.length + 1 + A.length + 1 + B.length) = i + C.length + 1 + A.length + 1 + B.length by omega] at hend'
     rcases hend' with h | h
     ·rw [h]; rfl
     ·rw [h]; simp [qbP]
    ·rw [if_neg c1, if_neg c1, hb]
   have hl4 : σ4.length = N + 1 := by rw [← hσ4]; simp [goS, toS, qeU, e2]
   obtain ⟨σ5, d5, g1, g2, g3, g4, g5, g6⟩ := ih z (by simp) (h2 z (by simp)) t (by rw [← r3, ← t9]) (i + C.length + 1 + A.length + 1) rest σ4 (max d3 (T ++ [t]).length) T (by omega) (by rw [hB]; omega) hl4
    (by rw [hget4 _ (by omega), if_neg (by omega), if_pos rfl])
    (fun j q1 q2 => by rw [hB] at q2; rw [hget4 _ (by omega), if_neg (by omega), if_neg (by omega)]; exact hun _ (by omega) (by omega))
    (.inr (by rw [hB, hget4 _ (by omega), if_pos rfl]))
   rw [hB] at g1 g3 g4
   rw [show i + (C.length + 1 + A.length + 1 + B.length) = i + C.length + 1 + A.length + 1 + B.length by omega]
   simp only [List.length_append, List.length_singleton] at g6
   refine ⟨σ5, d5, ?_, g2, g3, fun j hj => ?_, g5, by omega⟩
   ·rw [List.append_assoc]
    refine a1.trans ((b1.trans ?_).trans g1)
    rw [List.append_assoc, e1]
    exact f1
   ·rw [g4 _ hj, hget4 _ (by omega), if_neg (by omega), if_neg (by omega)]
  ·obtain ⟨x, y, rfl⟩ := q0z hl
   obtain ⟨t1, t2⟩ := qFA (by omega) ht
   obtain ⟨t3, t4, t5⟩ := qck t1
   obtain ⟨t6, t7, t8⟩ := qck t4
   rw [t5, t8] at t2
   simp only [Ex.tys] at t2
   rw [qeQ (by omega), qf8] at hend hN hun ⊢
   have px := qh8 (vs := vs) (h2 x (by simp)) i
   generalize hC : emE vs i x = C at hend hN hun px ⊢
   have py := qh8 (vs := vs) (h2 y (by simp)) (i + C.length)
   generalize hA : emE vs (i + C.length) y = A at hend hN hun py ⊢
   simp only [List.length_append, List.length_singleton] at hend hN hun ⊢
   simp only [Ex.depL, Nat.max_zero] at hdep
   obtain ⟨σ1, d1, a1, a2, a3, a4, a5, a6⟩ := ih x (by simp) (h2 x (by simp)) (x.ty vs).1 (by rw [← t3]) i (A ++ [⟨3, o, 0⟩] ++ rest) σ d T (by omega) (by rw [hC]; omega) hσ h0 (fun j q1 q2 => hun j q1 (by rw [hC] at q2; omega)) (.inl (hun _ (by rw [hC]; omega) (by rw [hC]; omega)))
   rw [hC] at a1 a3 a4
   obtain ⟨σ2, d2, b1, b2, b3, b4, b5, b6⟩ := ih y (by simp) (h2 y (by simp)) (y.ty vs).1 (by rw [← t6]) (i + C.length) ([⟨3, o, 0⟩] ++ rest) σ1 d1 (T ++ [(x.ty vs).1]) (by simp; omega) (by rw [hA]; omega) a2 a3 (fun j q1 q2 => by rw [hA] at q2; rw [a4 _ (by omega)]; exact hun j (by omega) (by omega)) (.inl (by rw [hA, a4 _ (by omega)]; exact hun _ (by omega) (by omega)))
   rw [hA] at b1 b3 b4
   simp only [List.length_append, List.length_singleton] at b5 b6
   have har : arS o = 2 := by rw [arS, if_neg (by omega)]
   obtain ⟨σ', g1, g2, g3, g4⟩ := qvO (vs := vs) (N := N) (x := ⟨3, o, 0⟩) (l := rest) (d := d2) (T' := T ++ [t]) b3 (by
    have hoper : qex o (T ++ [(x.ty vs).1] ++ [(y.ty vs).1]) = some (T ++ [t]) := by
     simp only [qex, har]
     rw [if_pos ⟨by omega, by omega, by simp⟩]
     simp [t2]
    exact qCB hoper) (by simp; omega) (by rw [b4 _ (by omega), a4 _ (by omega)]; rw [show i + C.length + A.length + 1 = i + (C.length + A.length + 1) by omega]; exact hend)
   rw [show i + (C.length + A.length + 1) = i + C.length + A.length + 1 by omega]
   refine ⟨σ', max d2 (T ++ [t]).length, ?_, by rw [g2, b2], g3, fun j hj => ?_, by simp; omega, by simp; omega⟩
   ·rw [List.append_assoc, List.append_assoc]
    rw [List.append_assoc] at a1
    exact a1.trans (b1.trans g1)
   ·rw [g4 j (by omega), b4 j (by omega), a4 j (by omega)]
theorem qup (N : Nat) : (sk0 N).length = N + 1 := by simp [sk0]
theorem qPi {N j : Nat} (h0 : 0 < j) (h : j ≤ N) : (sk0 N)[j]? = some un := by
 obtain ⟨j, rfl⟩ : ∃ k, j = k + 1 := ⟨j - 1, by omega⟩
 simp [sk0, List.getElem?_replicate, show j < N by omega]
theorem qtq {e : Ex} {vs : List Va} (h : (qca e vs).2 = 0) : qb8 vs = 0 ∧ (ofS e vs).2 = 0 ∧ (qca e vs).1 = ⟨(ofS e vs).1, vs, emE vs 0 e⟩ ∧ e.nodes ≤ (emE vs 0 e).length ∧ (emE vs 0 e).length ≤ 2 * e.nodes ∧
  ∃ d : Nat, qp6 (qca e vs).1 = ((d : Int), 0) ∧ 1 ≤ d ∧ d ≤ 8 := by
 unfold qca at h
 cases h1 : (qb8 vs != 0)
 ·cases h2 : ((ofS e vs).2 != 0)
  ·have hv : qb8 vs = 0 := by simpa using h1
   have ho : (ofS e vs).2 = 0 := by simpa using h2
   have hc : (qca e vs).1 = ⟨(ofS e vs).1, vs, emE vs 0 e⟩ := by simp [qca, h1, h2]
   have hval : qbr e = 0 := by
    unfold ofS at ho
    cases h3 : (qbr e != 0)
    ·simpa using h3
    ·rw [h3] at ho; simpa using ho
   have hof : ofS e vs = e.ty vs := by rw [ofS, hval]; rfl
   obtain ⟨q1, q2, q3, q4⟩ := qj7 hval
   obtain ⟨l1, l2⟩ := qJc vs e q3 0
   refine ⟨hv, ho, hc, l1, l2, ?_⟩
   have hp := qh8 (vs := vs) q3 0
   obtain ⟨σ', d', a1, a2, a3, a4, a5, a6⟩ := bal vs (emE vs 0 e).length e q3 (ofS e vs).1 (by rw [← ho, ← hof]) 0 [] (sk0 (emE vs 0 e).length) 0 [] (by simp; omega) (by omega) (qup _) rfl (fun j q1 q2 => qPi q1 (by omega)) (.inl (by rw [Nat.zero_add]; exact qPi hp (Nat.le_refl _)))
   rw [List.append_nil, Nat.zero_add] at a1
   rw [Nat.zero_add] at a3
   refine ⟨d', ?_, by simpa using a5, by simp at a6; omega⟩
   rw [hc, qp6]
   simp only
   rw [if_neg (by omega), hv]
   have hw : qb1 ⟨(ofS e vs).1, vs, emE vs 0 e⟩ = (0, σ', d') := a1
   have he : endB ⟨(ofS e vs).1, vs, emE vs 0 e⟩ σ' = true := by simp [endB, a3]
   simp [hw, he]
  ·rw [h1, h2] at h; simp only [cond_false, cond_true] at h; rw [h] at h2; simp at h2
 ·rw [h1] at h; simp only [cond_true] at h; rw [h] at h1; simp at h1
def okD (σ : List Sk) (i : Nat) : Bool := match σ[i]? with
 | some s => s.kn && !s.bad
 | none => false
theorem qLO {vs : List Va} {N i : Nat} {x : In} {σ : List Sk} (h : (qkb vs N i x σ).1 = 0) : ∃ s T jt go, σ[i]? = some s ∧ s.kn = true ∧ s.bad = false ∧ qbA vs N i x s.ts = some (T, jt, go) ∧ qkb vs N i x σ = (0, goS (toS σ T jt) T i go, T.length) := by
 unfold qkb at h
 cases hs : σ[i]? with
 | none => rw [hs] at h; simp at h
 | some s =>
  rw [hs] at h
  simp only at h
  cases hb : (!s.kn || s.bad) with
  | true => rw [hb] at h; simp at h
  | false =>
   rw [hb] at h
   simp only [cond_false] at h
   simp only [Bool.or_eq_false_iff, Bool.not_eq_false'] at hb
   cases hq : qbA vs N i x s.ts with
   | none => rw [hq] at h; simp at h
   | some r =>
    obtain ⟨T, jt, go⟩ := r
    rw [hq] at h
    simp only at h
    split at h
    ·simp at h
    ·rename_i hT
     refine ⟨s, T, jt, go, rfl, hb.1, hb.2, hq, ?_⟩
     simp only [qkb, hs, hb.1, hb.2, hq, if_neg hT]
     rfl
theorem qqK {vs : List Va} {N i : Nat} {x : In} {T T' : List Int} {jt : Option Nat} {go : Bool} (h : qbA vs N i x T = some (T', jt, go)) : (∀ j, jt = some j → i < j ∧ j ≤ N) ∧ (go = true ∨ ∃ j, jt = some j) := by
 unfold qbA at h
 split at h
 ·cases hp : pushB x <;> rw [hp] at h
  ·cases h
  ·cases h; exact ⟨fun j hj => (by cases hj), .inl rfl⟩
 ·split at h
  ·cases h
  ·split at h
   ·split at h
    ·split at h
     ·cases h; exact ⟨fun j hj => (by cases hj), .inl rfl⟩
     ·cases h
    ·cases h
   ·split at h
    ·cases ho : qex x.a T with
     | none => rw [ho] at h; cases h
     | some r => rw [ho] at h; cases h; exact ⟨fun j hj => (by cases hj), .inl rfl⟩
    ·split at h
     ·split at h
      ·cases h; exact ⟨fun j hj => (by cases hj; omega), .inr ⟨_, rfl⟩⟩
      ·cases h
     ·split at h
      ·split at h
       ·rename_i hq
        cases h; exact ⟨fun j hj => (by cases hj; omega), .inl rfl⟩
       ·cases h
      ·cases h
end Go.Tk

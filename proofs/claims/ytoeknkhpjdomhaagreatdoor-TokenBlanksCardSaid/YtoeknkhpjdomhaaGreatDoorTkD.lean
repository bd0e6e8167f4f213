/- Rates: their form, their numbers, their texts. -/
import Derived.Test.YtoeknkhpjdomhaaGreatDoorTkC
import Derived.Lib.TrimByte
set_option linter.unusedVariables false
set_option linter.unusedSimpArgs false
set_option linter.unnecessarySimpa false
namespace Go.Tk
open Go Go.Eng
set_option linter.unusedSimpArgs false
set_option linter.unusedVariables false
def plS (s : Bs) : Nat := bif decide ((s.takeWhile (at8 qaI)).length > 1) && s.head? == some 48 then 0 else (s.takeWhile (at8 qaI)).length
def qrg (r : Bs) : Bool := r == [] || (decide (2 ≤ r.length) && (decide (r.length ≤ 5) && (r.head? == some 46 && (r.getLast? != some 48 && (r.drop 1).all (at8 qaI)))))
def qfx (s : Bs) : Bool := plS s != 0 && (s.getLast? == some 37 && qrg ((s.drop (plS s)).dropLast))
theorem qm9 {c : UInt8} (h : at8 qaI c = true) : c ≠ 46 := by rintro rfl; cases h
theorem qjl {p : UInt8 → Bool} {l : Bs} (hl : l.all p = true) {d : UInt8} (hd : p d = false) (q : Bs) : (l ++ d :: q).takeWhile p = l := by
 rw [qmf hd]; exact qh6.2 hl
theorem qgF (t : Bs) : (t = (qbu t).1 ++ (bif (qbu t).2.2 then 46 :: (qbu t).2.1 else [])) ∧ ((qbu t).2.2 = false → (qbu t).2.1 = []) := by
 unfold qbu
 cases h : t.dropWhile (· != 46) with
 | nil =>
  refine ⟨by simp, fun _ => rfl⟩
 | cons x r =>
  simp only [cond_true]
  have hx : x = 46 := by
   have := List.head?_dropWhile_not (p := (· != 46)) (l := t)
   rw [h] at this
   simpa using this
  refine ⟨?_, fun h => by cases h⟩
  subst hx
  rw [← h, List.takeWhile_append_dropWhile]
theorem qwP {p : UInt8 → Bool} : ∀ {l : Bs}, (∀ x ∈ l, p x = true) → l.dropWhile p = []
 | [], _ => rfl
 | x :: l, h => by rw [List.dropWhile_cons, h x (by simp)]; exact qwP fun y hy => h y (by simp [hy])
theorem qgE {d : Bs} (hd : d.all (at8 qaI) = true) : qbu d = (d, [], false) := by
 unfold qbu
 have : d.dropWhile (· != 46) = [] := by
  refine qwP fun x hx => ?_
  have := qm9 (List.all_eq_true.1 hd x hx)
  simpa using this
 rw [this]
theorem qil {d : Bs} (hd : d.all (at8 qaI) = true) (r : Bs) : qbu (d ++ 46 :: r) = (d, r, true) := by
 unfold qbu
 have hall : d.all (· != 46) = true := by
  rw [List.all_eq_true]
  intro x hx
  have := qm9 (List.all_eq_true.1 hd x hx)
  simpa using this
 have h1 : (d ++ 46 :: r).takeWhile (· != 46) = d := qjl hall (by rfl) r
 have h2 : (d ++ 46 :: r).dropWhile (· != 46) = 46 :: r := by
  have := List.takeWhile_append_dropWhile (p := (· != 46)) (l := d ++ 46 :: r)
  rw [h1] at this
  exact List.append_cancel_left this
 rw [h1, h2]
theorem qaV {a : Bs} : qew a = true ↔ a.all (at8 qaI) = true ∧ a ≠ [] ∧ (a.length = 1 ∨ a.head? ≠ some 48) := by
 unfold qew
 simp only [Bool.and_eq_true, bne_iff_ne, ne_eq, Bool.or_eq_true, beq_iff_eq]
 constructor
 ·rintro ⟨h1, h2, h3⟩
  refine ⟨h1, h2, h3.imp (fun h => by omega) id⟩
 ·rintro ⟨h1, h2, h3⟩
  refine ⟨h1, h2, h3.imp (fun h => by omega) id⟩
theorem qjK {a : Bs} (h : qew a = true) {d : UInt8} (hd : at8 qaI d = false) (q : Bs) : plS (a ++ d :: q) = a.length := by
 obtain ⟨h1, h2, h3⟩ := qaV.1 h
 unfold plS
 rw [qjl h1 hd]
 have hh : (a ++ d :: q).head? = a.head? := by
  cases a with
  | nil => exact absurd rfl h2
  | cons => rfl
 rw [hh]
 rcases h3 with h3 | h3
 ·simp [h3]
 ·have : (a.head? == some 48) = false := by simpa using h3
  simp [this]
theorem qrh {b : Bs} : qrg (46 :: b) = qb8 b := by
 unfold qrg qb8
 cases b with
 | nil => rfl
 | cons c r =>
  have h1 : ((46 :: c :: r : Bs) == []) = false := rfl
  have h2 : ((c :: r : Bs) != []) = true := rfl
  have h3 : (46 :: c :: r : Bs).getLast? = (c :: r).getLast? := by simp [List.getLast?_cons_cons]
  rw [h1, h2, h3]
  simp only [Bool.false_or, Bool.true_and, List.length_cons, List.head?_cons, List.drop_succ_cons, List.drop_zero, beq_self_eq_true]
  rw [show decide (2 ≤ r.length + 1 + 1) = true from decide_eq_true (by omega)]
  have h4 : decide (r.length + 1 + 1 ≤ 5) = decide (r.length + 1 ≤ 4) := by
   by_cases h : r.length + 1 ≤ 4
   ·rw [decide_eq_true h, decide_eq_true (by omega)]
   ·rw [decide_eq_false h, decide_eq_false (by omega)]
  rw [h4]
  simp only [Bool.true_and]
  cases decide (r.length + 1 ≤ 4) <;> cases ((c :: r).getLast? != some 48) <;> cases (c :: r).all (at8 qaI) <;> rfl
def rtB (t : Bs) : Bool := qew (qbu t).1 && (!(qbu t).2.2 || qb8 (qbu t).2.1)
theorem qmG (s : Bs) : qfx s = (s.getLast? == some 37 && rtB s.dropLast) := by
 by_cases hl : s.getLast? = some 37
 ·have hs : s = s.dropLast ++ [37] := by
   have hne : s ≠ [] := by rintro rfl; simp at hl
   have := List.dropLast_concat_getLast hne
   rw [List.getLast?_eq_some_getLast hne, Option.some.injEq] at hl
   rw [hl] at this; exact this.symm
  generalize ht : s.dropLast = t at hs
  subst hs
  have hb : ((t ++ [37]).getLast? == some 37) = true := by simp
  unfold qfx
  rw [hb, Bool.true_and, Bool.true_and]
  obtain ⟨hc, hc0⟩ := qgF t
  unfold rtB
  cases hi : qew (qbu t).1
  ·simp only [Bool.false_and]
   cases hp : (plS (t ++ [37]) != 0)
   ·rfl
   ·simp only [Bool.true_and]
    have hp0 : plS (t ++ [37]) ≠ 0 := by simpa using hp
    have htw : (t ++ [37]).takeWhile (at8 qaI) = t.takeWhile (at8 qaI) := qmf rfl t []
    have hpl : plS (t ++ [37]) = (t.takeWhile (at8 qaI)).length ∧ ((t.takeWhile (at8 qaI)).length > 1 → (t ++ [37]).head? ≠ some 48) := by
     unfold plS at hp0 ⊢
     rw [htw] at hp0 ⊢
     cases hq : (decide ((t.takeWhile (at8 qaI)).length > 1) && (t ++ [37]).head? == some 48)
     ·rw [cond_false]
      refine ⟨rfl, fun h1 h2 => ?_⟩
      rw [decide_eq_true h1, h2] at hq; simp at hq
     ·rw [hq] at hp0; simp at hp0
    obtain ⟨hpl, hz⟩ := hpl
    rw [hpl] at hp0
    have hle := qdt (p := at8 qaI) t
    have hdl : ((t ++ [37]).drop (t.takeWhile (at8 qaI)).length).dropLast = t.drop (t.takeWhile (at8 qaI)).length := by
     rw [List.drop_append_of_le_length hle]; simp
    rw [hpl, hdl, drop_tw]
    have hsplit := List.takeWhile_append_dropWhile (p := at8 qaI) (l := t)
    have hd := qtf (p := at8 qaI) (l := t)
    have hdi : qew (t.takeWhile (at8 qaI)) = true := by
     refine qaV.2 ⟨hd, fun h => hp0 (by rw [h]; rfl), ?_⟩
     by_cases h1 : (t.takeWhile (at8 qaI)).length > 1
     ·right
      have := hz h1
      cases t with
      | nil => simp at h1
      | cons c r =>
       cases hcd : at8 qaI c
       ·simp [hcd] at h1
       ·simpa [List.takeWhile_cons, hcd] using this
     ·left; omega
    cases hr : t.dropWhile (at8 qaI) with
    | nil =>
     rw [hr, List.append_nil] at hsplit
     rw [← hsplit, qgE hd] at hi
     rw [hdi] at hi; cases hi
    | cons x r =>
     rw [hr] at hsplit
     by_cases hx : x = 46
     ·subst hx
      rw [← hsplit, qil hd] at hi
      rw [hdi] at hi; cases hi
     ·unfold qrg
      have h1 : ((x :: r : Bs) == []) = false := rfl
      have h2 : ((x :: r : Bs).head? == some 46) = false := by simpa using hx
      rw [h1, h2]; simp
  ·simp only [Bool.true_and]
   cases hf : (qbu t).2.2
   ·rw [hf, cond_false, List.append_nil] at hc
    have hpl : plS (t ++ [37]) = t.length := by
     rw [← hc] at hi
     exact qjK hi rfl []
    have ht0 : t ≠ [] := by
     rw [← hc] at hi
     exact (qaV.1 hi).2.1
    have : t.length ≠ 0 := fun h => ht0 (List.length_eq_zero_iff.1 h)
    rw [hpl, List.drop_left]
    have h1 : (t.length != 0) = true := by simpa using this
    rw [h1]; rfl
   ·rw [hf, cond_true] at hc
    have hne := (qaV.1 hi).2.1
    have hpl : plS (t ++ [37]) = (qbu t).1.length := by
     have := qjK hi (d := 46) rfl ((qbu t).2.1 ++ [37])
     rw [show (qbu t).1 ++ 46 :: ((qbu t).2.1 ++ [37]) = t ++ [37] by conv => rhs; rw [hc]; simp] at this
     exact this
    have hd : ((t ++ [37]).drop (qbu t).1.length).dropLast = 46 :: (qbu t).2.1 := by
     have : t ++ [37] = (qbu t).1 ++ (46 :: (qbu t).2.1 ++ [37]) := by
      rw [show (qbu t).1 ++ (46 :: (qbu t).2.1 ++ [37]) = ((qbu t).1 ++ 46 :: (qbu t).2.1) ++ [37] by simp, ← hc]
     rw [this, List.drop_left, List.dropLast_concat]
    have h1 : ((qbu t).1.length != 0) = true := by
     have : (qbu t).1.length ≠ 0 := fun h => hne (List.length_eq_zero_iff.1 h)
     simpa using this
    rw [hpl, hd, h1, qrh]
    simp
 ·have : (s.getLast? == some 37) = false := by simpa using hl
  unfold qfx
  rw [this]; simp
theorem qjN (s : Bs) : ((qbd s).2 != 2) = qfx s := by
 rw [qmG]
 unfold qbd rtB
 cases hl : (s.getLast? == some 37)
 ·rfl
 ·simp only [cond_true, Bool.true_and]
  cases qew (qbu s.dropLast).1 <;> cases (qbu s.dropLast).2.2 <;> cases qb8 (qbu s.dropLast).2.1 <;> cases decide ((qbu s.dropLast).1.length > 3) <;> cases decide ((qaC 0 ((qbu s.dropLast).1 ++ qdo (qbu s.dropLast).2.1) : Int) > 1000000) <;> rfl
theorem qcr (a : Nat) (x y : Bs) : qaC a (x ++ y) = qaC (qaC a x) y := by simp [qaC, List.foldl_append]
theorem qk2 : ∀ (k a : Nat), qaC a (List.replicate k 48) = a * 10 ^ k
 | 0, a => by simp [qaC]
 | k + 1, a => by
  have := qk2 k (a * 10 + ((48 : UInt8).toNat - 48))
  simp only [List.replicate_succ, qaC, List.foldl_cons] at this ⊢
  rw [this]
  simp [Nat.pow_succ, Nat.mul_assoc, Nat.mul_comm]
theorem qb7 : ∀ (l : Bs) (a : Nat), qaC a l = a * 10 ^ l.length + qaC 0 l
 | [], a => by simp [qaC]
 | c :: r, a => by
  have h1 := qb7 r (a * 10 + (c.toNat - 48))
  have h2 := qb7 r (0 * 10 + (c.toNat - 48))
  simp only [qaC, List.foldl_cons, List.length_cons] at h1 h2 ⊢
  rw [h1, h2, Nat.pow_succ]
  simp only [Nat.zero_mul, Nat.zero_add, Nat.add_mul]
  rw [Nat.mul_assoc, Nat.mul_comm 10]
  omega
theorem qbY {c : UInt8} (h : at8 qaI c = true) : 48 ≤ c.toNat ∧ c.toNat ≤ 57 := by
 simp only [at8, qaI, Bool.and_eq_true, decide_eq_true_eq] at h; omega
theorem qmO {p : Bs} (h : p.length ≤ 4) : (qdo p).length = 4 := by simp [qdo]; omega
theorem qsM {p : Bs} (h : p.all (at8 qaI) = true) : (qdo p).all (at8 qaI) = true := by
 unfold qdo
 rw [List.all_append, h]
 simp [at8, qaI]
theorem qcQ {c : UInt8} (h : at8 qaI c = true) : UInt8.ofNat (48 + (c.toNat - 48)) = c := by
 have := qbY h
 rw [show 48 + (c.toNat - 48) = c.toNat by omega]
 exact UInt8.ofNat_toNat
theorem qoh : ∀ (n : Nat) (a : Bs), a.length ≤ n → qew a = true → Lib.decDigits (qaC 0 a) = a := by
 intro n
 induction n with
 | zero =>
  intro a h hi
  exact absurd (List.length_eq_zero_iff.1 (by omega)) (qaV.1 hi).2.1
 | succ n ih =>
  intro a h hi
  obtain ⟨h1, h2, h3⟩ := qaV.1 hi
  obtain ⟨b, c, rfl⟩ : ∃ b c, a = b ++ [c] := ⟨a.dropLast, a.getLast h2, (List.dropLast_concat_getLast h2).symm⟩
  rw [List.all_append, Bool.and_eq_true] at h1
  have hc : at8 qaI c = true := by simpa using h1.2
  have hr := qbY hc
  have hv : qaC 0 (b ++ [c]) = qaC 0 b * 10 + (c.toNat - 48) := by rw [qcr]; rfl
  by_cases hb : b = []
  ·subst hb
   rw [hv]
   show Lib.decDigits (0 * 10 + (c.toNat - 48)) = [c]
   rw [Lib.decDigits, dif_pos (by omega), Nat.zero_mul, Nat.zero_add, qcQ hc]
  ·have hhd : (b ++ [c]).head? = b.head? := by
    cases b with
    | nil => exact absurd rfl hb
    | cons => rfl
   have hlen : (b ++ [c]).length ≠ 1 := by
    have : b.length ≠ 0 := fun h => hb (List.length_eq_zero_iff.1 h)
    simp; omega
   have h48 : b.head? ≠ some 48 := by rw [← hhd]; exact h3.resolve_left hlen
   have hib : qew b = true := qaV.2 ⟨h1.1, hb, .inr h48⟩
   have hpos : 1 ≤ qaC 0 b := by
    cases b with
    | nil => exact absurd rfl hb
    | cons x r =>
     have hx := h1.1
     simp only [List.all_cons, Bool.and_eq_true] at hx
     have hxr := qbY hx.1
     have hx48 : x.toNat ≠ 48 := fun he => h48 (by
      have : x = 48 := UInt8.toNat_inj.1 (by simpa using he)
      rw [this]; rfl)
     have := qgG r (0 * 10 + (x.toNat - 48))
     show 1 ≤ qaC (0 * 10 + (x.toNat - 48)) r
     omega
   rw [hv, Lib.decDigits, dif_neg (by omega), show (qaC 0 b * 10 + (c.toNat - 48)) / 10 = qaC 0 b by omega, show (qaC 0 b * 10 + (c.toNat - 48)) % 10 = c.toNat - 48 by omega, ih b (by simp at h; omega) hib, qcQ hc]
theorem qbl {k : Nat} (h : k < 10) : at8 qaI (UInt8.ofNat (48 + k)) = true ∧ (UInt8.ofNat (48 + k)).toNat = 48 + k := by
 have h2 : (UInt8.ofNat (48 + k)).toNat = 48 + k := by rw [UInt8.toNat_ofNat']; omega
 refine ⟨?_, h2⟩
 unfold at8 qaI
 rw [h2, Bool.and_eq_true]
 exact ⟨decide_eq_true (by omega), decide_eq_true (by omega)⟩
theorem qin : ∀ (n u : Nat), u ≤ n → qew (Lib.decDigits u) = true ∧ qaC 0 (Lib.decDigits u) = u ∧ (u ≠ 0 → (Lib.decDigits u).head? ≠ some 48) := by
 intro n
 induction n using Nat.strongRecOn with
 | _ n ih =>
  intro u hu
  by_cases h : u < 10
  ·obtain ⟨h1, h2⟩ := qbl h
   rw [Lib.decDigits, dif_pos h]
   refine ⟨qaV.2 ⟨by simpa using h1, by simp, .inl rfl⟩, ?_, fun h0 he => ?_⟩
   ·show 0 * 10 + ((UInt8.ofNat (48 + u)).toNat - 48) = u
    rw [h2]; omega
   ·simp only [List.head?_cons, Option.some.injEq] at he
    have := congrArg UInt8.toNat he
    rw [h2] at this
    have : 48 + u = 48 := this
    omega
  ·have hlt : u % 10 < 10 := Nat.mod_lt _ (by decide)
   obtain ⟨h1, h2⟩ := qbl hlt
   obtain ⟨i1, i2, i3⟩ := ih (u / 10) (by omega) (u / 10) (Nat.le_refl _)
   obtain ⟨j1, j2, j3⟩ := qaV.1 i1
   rw [Lib.decDigits, dif_neg h]
   have hhd : (Lib.decDigits (u / 10) ++ [UInt8.ofNat (48 + u % 10)]).head? = (Lib.decDigits (u / 10)).head? := by
    cases hq : Lib.decDigits (u / 10) with
    | nil => exact absurd hq j2
    | cons => rfl
   have h48 := i3 (by omega)
   refine ⟨qaV.2 ⟨?_, by simp, .inr (by rw [hhd]; exact h48)⟩, ?_, fun _ => by rw [hhd]; exact h48⟩
   ·rw [List.all_append, j1]; simpa using h1
   ·rw [qcr, i2]
    show u / 10 * 10 + ((UInt8.ofNat (48 + u % 10)).toNat - 48) = u
    rw [h2]; omega
def four (m : Nat) : Bs := [UInt8.ofNat (48 + m / 1000 % 10), UInt8.ofNat (48 + m / 100 % 10), UInt8.ofNat (48 + m / 10 % 10), UInt8.ofNat (48 + m % 10)]
theorem qtt {m : Nat} (h : m < 10000) : Lib.decDigits (10000 + m) = 49 :: four m := by
 rw [Lib.decDigits, dif_neg (by omega), Lib.decDigits, dif_neg (by omega), Lib.decDigits, dif_neg (by omega), Lib.decDigits, dif_neg (by omega), Lib.decDigits, dif_pos (by omega)]
 unfold four
 have e1 : (10000 + m) / 10 / 10 / 10 / 10 = 1 := by omega
 have e2 : (10000 + m) / 10 / 10 / 10 % 10 = m / 1000 % 10 := by omega
 have e3 : (10000 + m) / 10 / 10 % 10 = m / 100 % 10 := by omega
 have e4 : (10000 + m) / 10 % 10 = m / 10 % 10 := by omega
 have e5 : (10000 + m) % 10 = m % 10 := by omega
 rw [e1, e2, e3, e4, e5]
 rfl
theorem qtR (m : Nat) : (four m).all (at8 qaI) = true := by
 simp only [four, List.all_cons, List.all_nil, Bool.and_true, Bool.and_eq_true]
 exact ⟨(qbl (by omega)).1, (qbl (by omega)).1, (qbl (by omega)).1, (qbl (by omega)).1⟩
theorem qtS {m : Nat} (h : m < 10000) : qaC 0 (four m) = m := by
 simp only [four, qaC, List.foldl_cons, List.foldl_nil]
 rw [(qbl (k := m / 1000 % 10) (by omega)).2, (qbl (k := m / 100 % 10) (by omega)).2, (qbl (k := m / 10 % 10) (by omega)).2, (qbl (k := m % 10) (by omega)).2]
 omega
theorem qtu {l : Bs} (hl : l.length = 4) (ha : l.all (at8 qaI) = true) : four (qaC 0 l) = l := by
 match l, hl with
 | [x, y, z, u], _ =>
  simp only [List.all_cons, List.all_nil, Bool.and_true, Bool.and_eq_true] at ha
  obtain ⟨h1, h2, h3, h4⟩ := ha
  have r1 := qbY h1
  have r2 := qbY h2
  have r3 := qbY h3
  have r4 := qbY h4
  have hv : qaC 0 [x, y, z, u] = (((x.toNat - 48) * 10 + (y.toNat - 48)) * 10 + (z.toNat - 48)) * 10 + (u.toNat - 48) := by
   simp [qaC]
  rw [hv]
  unfold four
  rw [show ((((x.toNat - 48) * 10 + (y.toNat - 48)) * 10 + (z.toNat - 48)) * 10 + (u.toNat - 48)) / 1000 % 10 = x.toNat - 48 by omega,
   show ((((x.toNat - 48) * 10 + (y.toNat - 48)) * 10 + (z.toNat - 48)) * 10 + (u.toNat - 48)) / 100 % 10 = y.toNat - 48 by omega,
   show ((((x.toNat - 48) * 10 + (y.toNat - 48)) * 10 + (z.toNat - 48)) * 10 + (u.toNat - 48)) / 10 % 10 = z.toNat - 48 by omega,
   show ((((x.toNat - 48) * 10 + (y.toNat - 48)) * 10 + (z.toNat - 48)) * 10 + (u.toNat - 48)) % 10 = u.toNat - 48 by omega, qcQ h1, qcQ h2, qcQ h3, qcQ h4]
theorem qfg (l : Bs) (c : UInt8) : Lib.trimRightB (l ++ [c]) 48 = if c = 48 then Lib.trimRightB l 48 else l ++ [c] := by
 unfold Lib.trimRightB
 rw [List.reverse_append]
 simp only [List.reverse_cons, List.reverse_nil, List.nil_append, List.cons_append, List.dropWhile_cons, beq_iff_eq]
 split
 ·rfl
 ·simp
theorem qtd {l : Bs} (h : l = [] ∨ l.getLast? ≠ some 48) (k : Nat) : Lib.trimRightB (l ++ List.replicate k 48) 48 = l := by
 induction k with
 | zero =>
  rw [List.replicate_zero, List.append_nil]
  rcases h with rfl | h
  ·rfl
  ·by_cases hl : l = []
   ·subst hl; rfl
   ·obtain ⟨b, c, rfl⟩ : ∃ b c, l = b ++ [c] := ⟨l.dropLast, l.getLast hl, (List.dropLast_concat_getLast hl).symm⟩
    rw [qfg, if_neg (by simpa using h)]
 | succ k ih => rw [List.replicate_succ', ← List.append_assoc, qfg, if_pos rfl, ih]
theorem qh5 : ∀ (n : Nat) (l : Bs), l.length = n → ∃ k, l = Lib.trimRightB l 48 ++ List.replicate k 48 ∧ (Lib.trimRightB l 48 = [] ∨ (Lib.trimRightB l 48).getLast? ≠ some 48) := by
 intro n
 induction n with
 | zero =>
  intro l h
  have : l = [] := List.length_eq_zero_iff.1 h
  subst this
  exact ⟨0, rfl, .inl rfl⟩
 | succ n ih =>
  intro l h
  have hl : l ≠ [] := by rintro rfl; simp at h
  obtain ⟨b, c, rfl⟩ : ∃ b c, l = b ++ [c] := ⟨l.dropLast, l.getLast hl, (List.dropLast_concat_getLast hl).symm⟩
  rw [qfg]
  split
  ·rename_i hc
   subst hc
   obtain ⟨k, h1, h2⟩ := ih b (by simpa using h)
   refine ⟨k + 1, ?_, h2⟩
   rw [List.replicate_succ', ← List.append_assoc, ← h1]
  ·rename_i hc
   exact ⟨0, by simp, .inr (by simpa using hc)⟩
def qbz (p : Bs) : Bs := bif p != [] then 46 :: p else []
def qsN (n : Nat) : Bs := Lib.decDigits (n / 10000) ++ (qbz (Lib.trimRightB (four (n % 10000)) 48) ++ [37])
theorem qff {m : Nat} (h : m < 10000) : (Lib.trimRightB (four m) 48).all (at8 qaI) = true ∧ (Lib.trimRightB (four m) 48).length ≤ 4 ∧ qdo (Lib.trimRightB (four m) 48) = four m ∧ (Lib.trimRightB (four m) 48 ≠ [] → qb8 (Lib.trimRightB (four m) 48) = true) := by
 obtain ⟨k, h1, h2⟩ := qh5 4 (four m) rfl
 have ha := qtR m
 rw [h1, List.all_append, Bool.and_eq_true] at ha
 have hlen := congrArg List.length h1
 rw [List.length_append, List.length_replicate] at hlen
 have h4 : (four m).length = 4 := rfl
 refine ⟨ha.1, by omega, ?_, fun hne => ?_⟩
 ·unfold qdo
  rw [show 4 - (Lib.trimRightB (four m) 48).length = k by omega, ← h1]
 ·unfold qb8
  have e1 : (Lib.trimRightB (four m) 48 != []) = true := by simpa using hne
  have e2 : ((Lib.trimRightB (four m) 48).getLast? != some 48) = true := by simpa using h2.resolve_left hne
  rw [e1, e2, ha.1, decide_eq_true (by omega)]; rfl
theorem qqd {a p : Bs} (ha : qew a = true) : qbu (a ++ qbz p) = (a, p, p != []) := by
 unfold qbz
 have h1 := (qaV.1 ha).1
 cases hp : (p != [])
 ·have : p = [] := by simpa using hp
  subst this
  rw [cond_false, List.append_nil, qgE h1]
 ·rw [cond_true, qil h1]
theorem qmQ {a p : Bs} (ha : qew a = true) (hp : p ≠ [] → qb8 p = true) : qbd (a ++ (qbz p ++ [37])) = bif decide (a.length > 3) then ((0 : Int), (1 : Int)) else bif decide ((qaC 0 (a ++ qdo p) : Int) > 1000000) then (0, 1) else (((qaC 0 (a ++ qdo p) : Nat) : Int), 0) := by
 have h1 : ((a ++ (qbz p ++ [37])).getLast? == some 37) = true := by rw [← List.append_assoc]; simp
 have h2 : (a ++ (qbz p ++ [37])).dropLast = a ++ qbz p := by rw [← List.append_assoc, List.dropLast_concat]
 unfold qbd
 rw [h1, h2, qqd ha]
 simp only [cond_true, ha, Bool.not_true, Bool.false_or]
 have h3 : ((p != []) && !qb8 p) = false := by
  cases hq : (p != [])
  ·rfl
  ·rw [hp (by simpa using hq)]; rfl
 rw [h3, cond_false]
theorem quq {n : Nat} (h : n ≤ 1000000) : qbd (qsN n) = ((n : Int), 0) := by
 obtain ⟨i1, i2, _⟩ := qin (n / 10000) (n / 10000) (Nat.le_refl _)
 obtain ⟨t1, t2, t3, t4⟩ := qff (m := n % 10000) (Nat.mod_lt _ (by decide))
 unfold qsN
 rw [qmQ i1 t4, t3]
 have hlen : (Lib.decDigits (n / 10000)).length ≤ 3 := by
  rw [Lib.decDigits_length]
  have h1 : n / 10000 ≤ 100 := by omega
  rcases Nat.lt_or_ge (n / 10000) 10 with h2 | h2
  ·rw [Lib.nDigits_small h2]; omega
  ·rw [Lib.nDigits_big (by omega)]
   rcases Nat.lt_or_ge (n / 10000 / 10) 10 with h3 | h3
   ·rw [Lib.nDigits_small h3]; omega
   ·rw [Lib.nDigits_big (by omega), Lib.nDigits_small (by omega)]; omega
 have hv : qaC 0 (Lib.decDigits (n / 10000) ++ four (n % 10000)) = n := by
  rw [qcr, i2, qb7, qtS (Nat.mod_lt _ (by decide))]
  show n / 10000 * 10 ^ 4 + n % 10000 = n
  omega
 rw [hv, decide_eq_false (by omega), decide_eq_false (by omega)]
 rfl
theorem qul {s : Bs} (h : (qbd s).2 = 0) : 0 ≤ (qbd s).1 ∧ (qbd s).1 ≤ 1000000 ∧ qsN (qbd s).1.toNat = s := by
 have hf : qfx s = true := by rw [← qjN, h]; rfl
 rw [qmG, Bool.and_eq_true, beq_iff_eq] at hf
 obtain ⟨hl, hr⟩ := hf
 have hs : s = s.dropLast ++ [37] := by
  have hne : s ≠ [] := by rintro rfl; simp at hl
  have := List.dropLast_concat_getLast hne
  rw [List.getLast?_eq_some_getLast hne, Option.some.injEq] at hl
  rw [hl] at this; exact this.symm
 generalize s.dropLast = t at hs hr
 subst hs
 unfold rtB at hr
 rw [Bool.and_eq_true] at hr
 obtain ⟨hi, hp⟩ := hr
 obtain ⟨hc, hc0⟩ := qgF t
 obtain ⟨p, hpp, hcp⟩ : ∃ p, (p ≠ [] → qb8 p = true) ∧ t = (qbu t).1 ++ qbz p := by
  cases hq : (qbu t).2.2
  ·refine ⟨[], fun h => absurd rfl h, ?_⟩
   rw [hq] at hc; simpa [qbz] using hc
  ·rw [hq] at hp hc
   have hpb : qb8 (qbu t).2.1 = true := by simpa using hp
   refine ⟨(qbu t).2.1, fun _ => hpb, ?_⟩
   have hne : ((qbu t).2.1 != []) = true := by
    unfold qb8 at hpb; rw [Bool.and_eq_true] at hpb; exact hpb.1
   unfold qbz
   rw [hne]; exact hc
 generalize (qbu t).1 = a at hi hcp
 subst hcp
 rw [List.append_assoc] at h ⊢
 rw [qmQ hi hpp] at h ⊢
 have hpl : p.length ≤ 4 ∧ p.all (at8 qaI) = true ∧ (p = [] ∨ p.getLast? ≠ some 48) := by
  by_cases hp0 : p = []
  ·subst hp0; exact ⟨by simp, rfl, .inl rfl⟩
  ·have := hpp hp0
   unfold qb8 at this
   simp only [Bool.and_eq_true, decide_eq_true_eq, bne_iff_ne, ne_eq] at this
   exact ⟨this.2.1, this.2.2.1, .inr this.2.2.2⟩
 cases h3 : decide (a.length > 3)
 ·rw [h3] at h
  cases h4 : decide ((qaC 0 (a ++ qdo p) : Int) > 1000000)
  ·simp only [cond_false]
   have h4' : ¬ ((qaC 0 (a ++ qdo p) : Int) > 1000000) := of_decide_eq_false h4
   refine ⟨by omega, by omega, ?_⟩
   rw [Int.toNat_natCast]
   have hlt : qaC 0 (qdo p) < 10000 := by
    have := qjt (qdo p) 0 0 (qsM hpl.2.1) (by decide)
    rw [qmO hpl.1] at this; exact this
   have hv : qaC 0 (a ++ qdo p) = qaC 0 a * 10000 + qaC 0 (qdo p) := by
    rw [qcr, qb7, qmO hpl.1]
   unfold qsN
   rw [hv, show (qaC 0 a * 10000 + qaC 0 (qdo p)) / 10000 = qaC 0 a by omega, show (qaC 0 a * 10000 + qaC 0 (qdo p)) % 10000 = qaC 0 (qdo p) by omega, qoh _ a (Nat.le_refl _) hi, qtu (qmO hpl.1) (qsM hpl.2.1)]
   unfold qdo
   rw [qtd hpl.2.2]
  ·rw [h4] at h; simp at h
 ·rw [h3] at h; simp at h
end Go.Tk

/- The document's tokens: its ways of reading are those of the program. -/
import Derived.Test.YtoeknkhpjdomhaaGreatDoorTkE
set_option linter.unusedVariables false
set_option linter.unusedSimpArgs false
set_option linter.unnecessarySimpa false
namespace Go.Tk
open Go Go.Eng
set_option linter.unusedSimpArgs false
set_option linter.unusedVariables false
theorem qDY {x : Int} (h0 : 0 ≤ x) (h1 : x < 256) : IntKind.u8.wrap x = x := by
 simp [IntKind.wrap, IntKind.bits, IntKind.signed]; omega
theorem qmY {τ : Type} {st : τ → Option (Rd τ)} {p : UInt8 → Bool} {s : Bs} (hd : Nat → τ) (j : Nat) (hs : ∀ n (h : n < s.length), st (hd n) = some (bif p s[n] then .next (hd (n + 1)) else .done j)) (he : st (hd s.length) = some (.done j)) :
  ∀ (k n : Nat), n + k = s.length → qav st (hd n) = some (j, hd (n + ((s.drop n).takeWhile p).length)) := by
 intro k
 induction k with
 | zero =>
  intro n hn
  have : n = s.length := by omega
  subst this
  rw [qak he]; simp
 | succ k ih =>
  intro n hn
  have h : n < s.length := by omega
  rw [drop_at h, List.takeWhile_cons]
  have := hs n h
  cases hp : p s[n]
  ·rw [hp] at this
   rw [qak this]; simp [hp]
  ·rw [hp] at this
   rw [qat this, ih (n + 1) (by omega)]
   simp only [hp, if_true, List.length_cons]
   congr 3; omega
theorem qw4 : ∀ x y : Bs, qa0 y x = !(qa0 x y || x == y)
 | [], [] => rfl
 | [], _ :: _ => rfl
 | _ :: _, [] => rfl
 | a :: x, b :: y => by
  have ih := qw4 x y
  have e1 : qa0 (b :: y) (a :: x) = (decide (b < a) || (b == a && qa0 y x)) := rfl
  have e2 : qa0 (a :: x) (b :: y) = (decide (a < b) || (a == b && qa0 x y)) := rfl
  have e3 : ((a :: x : Bs) == b :: y) = (a == b && x == y) := rfl
  rw [e1, e2, e3, ih]
  rcases Nat.lt_trichotomy a.toNat b.toNat with h | h | h
  ·have h1 : decide (a < b) = true := decide_eq_true h
   have h2 : decide (b < a) = false := decide_eq_false (Nat.not_lt.2 (Nat.le_of_lt h))
   have h3 : (b == a) = false := by rw [beq_eq_false_iff_ne]; rintro rfl; omega
   rw [h1, h2, h3]; rfl
  ·have h' : a = b := UInt8.toNat_inj.1 h
   subst h'
   have h1 : decide (a < a) = false := decide_eq_false (Nat.lt_irrefl a.toNat)
   rw [h1, beq_self_eq_true]
   cases qa0 x y <;> cases (x == y) <;> rfl
  ·have h1 : decide (b < a) = true := decide_eq_true h
   have h2 : decide (a < b) = false := decide_eq_false (Nat.not_lt.2 (Nat.le_of_lt h))
   have h3 : (a == b) = false := by rw [beq_eq_false_iff_ne]; rintro rfl; omega
   rw [h1, h2, h3]; rfl
theorem qtU (s : Bs) : (bif decide ((s.length : Int) > 19) then true else bif (s.length : Int) == 19 then !(qa0 s qjD || s == qjD) else false) = qek s := by
 rw [← qw4]
 unfold qek
 have e1 : decide ((s.length : Int) > 19) = decide (s.length > 19) := by
  by_cases h : s.length > 19
  ·rw [decide_eq_true h, decide_eq_true (by omega)]
  ·rw [decide_eq_false h, decide_eq_false (by omega)]
 have e2 : ((s.length : Int) == 19) = (s.length == 19) := by
  rw [Bool.eq_iff_iff, beq_iff_eq, beq_iff_eq]; omega
 rw [e1, e2]
 cases decide (s.length > 19) <;> cases (s.length == 19) <;> cases qa0 qjD s <;> rfl
theorem qi6 (s : Bs) : qbd s = (0, 2) ∨ qbd s = (0, 1) ∨ (qbd s).2 = 0 := by
 have key : ∀ (b1 b2 b3 b4 : Bool) (n : Int), (bif b1 then (bif b2 then ((0 : Int), (2 : Int)) else bif b3 then (0, 1) else bif b4 then (0, 1) else (n, 0)) else (0, 2)) = (0, 2) ∨ (bif b1 then (bif b2 then ((0 : Int), (2 : Int)) else bif b3 then (0, 1) else bif b4 then (0, 1) else (n, 0)) else (0, 2)) = (0, 1) ∨
   (bif b1 then (bif b2 then ((0 : Int), (2 : Int)) else bif b3 then (0, 1) else bif b4 then (0, 1) else (n, 0)) else (0, 2)).2 = 0 := by
  intro b1 b2 b3 b4 n
  cases b1 <;> cases b2 <;> cases b3 <;> cases b4 <;> simp
 exact key _ _ _ _ _
theorem qum {s : Bs} (h : qfx s = false) : qbd s = (0, 2) := by
 have h2 := qjN s
 rw [h] at h2
 rcases qi6 s with h3 | h3 | h3
 ·exact h3
 ·rw [h3] at h2; cases h2
 ·rw [h3] at h2; cases h2
theorem qoG {s : Bs} (h : qfx s = true) : ∃ a p, qew a = true ∧ (p ≠ [] → qb8 p = true) ∧ s = a ++ (qbz p ++ [37]) := by
 rw [qmG, Bool.and_eq_true, beq_iff_eq] at h
 obtain ⟨hl, hr⟩ := h
 have hs : s = s.dropLast ++ [37] := by
  have hne : s ≠ [] := by rintro rfl; simp at hl
  have := List.dropLast_concat_getLast hne
  rw [List.getLast?_eq_some_getLast hne, Option.some.injEq] at hl
  rw [hl] at this; exact this.symm
 unfold rtB at hr
 rw [Bool.and_eq_true] at hr
 obtain ⟨hi, hp⟩ := hr
 obtain ⟨hc, hc0⟩ := qgF s.dropLast
 cases hq : (qbu s.dropLast).2.2
 ·rw [hq, cond_false, List.append_nil] at hc
  refine ⟨(qbu s.dropLast).1, [], hi, fun h => absurd rfl h, ?_⟩
  rw [← hc]; exact hs
 ·rw [hq] at hp hc
  have hpb : qb8 (qbu s.dropLast).2.1 = true := by simpa using hp
  refine ⟨(qbu s.dropLast).1, (qbu s.dropLast).2.1, hi, fun _ => hpb, ?_⟩
  have hne : ((qbu s.dropLast).2.1 != []) = true := by
   unfold qb8 at hpb; rw [Bool.and_eq_true] at hpb; exact hpb.1
  unfold qbz
  rw [hne, cond_true, ← List.append_assoc]
  rw [cond_true] at hc
  rw [← hc]; exact hs
theorem qi3 {p : Bs} (h : p ≠ [] → qb8 p = true) : p.length ≤ 4 ∧ p.all (at8 qaI) = true := by
 by_cases hp0 : p = []
 ·subst hp0; exact ⟨by simp, rfl⟩
 ·have := h hp0
  unfold qb8 at this
  simp only [Bool.and_eq_true, decide_eq_true_eq] at this
  exact ⟨this.2.1, this.2.2.1⟩
theorem qwX {a : Bs} (h : qew a = true) (hl : a.length > 1) : 10 ^ (a.length - 1) ≤ qaC 0 a := by
 obtain ⟨h1, h2, h3⟩ := qaV.1 h
 cases a with
 | nil => exact absurd rfl h2
 | cons c r =>
  have hc : c.toNat - 48 ≥ 1 := by
   have := qbY (by simp only [List.all_cons, Bool.and_eq_true] at h1; exact h1.1)
   have h48 : c.toNat ≠ 48 := fun he => by
    rcases h3 with h3 | h3
    ·omega
    ·exact h3 (by rw [show c = 48 from UInt8.toNat_inj.1 (by simpa using he)]; rfl)
   omega
  have e1 : qaC 0 (c :: r) = (c.toNat - 48) * 10 ^ r.length + qaC 0 r := by
   show qaC (0 * 10 + (c.toNat - 48)) r = _
   rw [qb7]; simp
  have := Nat.mul_le_mul_right (10 ^ r.length) hc
  rw [e1]
  simp only [List.length_cons, Nat.add_sub_cancel]
  omega
theorem qup {a p : Bs} (ha : qew a = true) (hp : p ≠ [] → qb8 p = true) : qbd (a ++ (qbz p ++ [37])) = bif decide (qaC 0 (a ++ p) * 10 ^ (4 - p.length) > 1000000) then (0, 1) else (((qaC 0 (a ++ p) * 10 ^ (4 - p.length) : Nat) : Int), 0) := by
 have hv : qaC 0 (a ++ qdo p) = qaC 0 (a ++ p) * 10 ^ (4 - p.length) := by
  unfold qdo
  rw [← List.append_assoc, qcr, qk2]
 rw [qmQ ha hp, hv]
 have e1 : decide (((qaC 0 (a ++ p) * 10 ^ (4 - p.length) : Nat) : Int) > 1000000) = decide (qaC 0 (a ++ p) * 10 ^ (4 - p.length) > 1000000) := by
  by_cases h : qaC 0 (a ++ p) * 10 ^ (4 - p.length) > 1000000
  ·rw [decide_eq_true h, decide_eq_true (by omega)]
  ·rw [decide_eq_false h, decide_eq_false (by omega)]
 rw [e1]
 by_cases h3 : a.length > 3
 ·have h1 := qwX ha (by omega)
  have h2 : 10 ^ 3 ≤ 10 ^ (a.length - 1) := Nat.pow_le_pow_right (by decide) (by omega)
  have h4 : qaC 0 (a ++ p) = qaC 0 a * 10 ^ p.length + qaC 0 p := by rw [qcr, qb7]
  have hpl := (qi3 hp).1
  have h5 : qaC 0 a * 10 ^ p.length * 10 ^ (4 - p.length) = qaC 0 a * 10 ^ 4 := by
   rw [Nat.mul_assoc, ← Nat.pow_add, show p.length + (4 - p.length) = 4 by omega]
  have h6 : qaC 0 a * 10 ^ 4 ≤ qaC 0 (a ++ p) * 10 ^ (4 - p.length) := by
   rw [← h5, h4]
   exact Nat.mul_le_mul_right _ (by omega)
  rw [decide_eq_true h3, decide_eq_true (by omega)]; rfl
 ·rw [decide_eq_false h3]; rfl
def rlp (w : Nat) : Nat → Nat → Nat → Bs → Option (Nat × Nat)
 | _, n, q, [] => some (n, q)
 | i, n, q, c :: r => bif at8 qaI c then (bif decide (10 * n + (c.toNat - 48) > 1000000) then none else rlp w (i + 1) (10 * n + (c.toNat - 48)) (bif decide (i > w) then q + 1 else q) r) else rlp w (i + 1) n q r
theorem qfL {w : Nat} {g : Bool} : ∀ (l r : Bs) (i n q : Nat), l.all (at8 qaI) = true → (∀ j, i ≤ j → j < i + l.length → decide (j > w) = g) → n ≤ 1000000 → rlp w i n q (l ++ r) = bif decide (qaC n l > 1000000) then none else rlp w (i + l.length) (qaC n l) (q + bif g then l.length else 0) r
 | [], r, i, n, q, _, _, hn => by
  have : decide (qaC n [] > 1000000) = false := decide_eq_false (by show ¬ n > 1000000; omega)
  rw [this]; cases g <;> rfl
 | c :: l, r, i, n, q, h, hg, hn => by
  simp only [List.all_cons, Bool.and_eq_true] at h
  have hd : qaC n (c :: l) = qaC (10 * n + (c.toNat - 48)) l := by
   show qaC (n * 10 + (c.toNat - 48)) l = _
   rw [Nat.mul_comm]
  have hge := qgG l (10 * n + (c.toNat - 48))
  simp only [List.cons_append, rlp, h.1, cond_true, hd]
  by_cases hb : 10 * n + (c.toNat - 48) > 1000000
  ·rw [decide_eq_true hb, decide_eq_true (show qaC (10 * n + (c.toNat - 48)) l > 1000000 by omega)]; rfl
  ·rw [decide_eq_false hb, cond_false, qfL l r (i + 1) _ _ h.2 (fun j h1 h2 => hg j (by omega) (by simp only [List.length_cons]; omega)) (by omega), hg i (Nat.le_refl i) (by simp)]
   have e1 : i + 1 + l.length = i + (c :: l).length := by simp only [List.length_cons]; omega
   rw [e1]
   cases g
   ·rfl
   ·simp only [cond_true, List.length_cons]
    rw [show q + 1 + l.length = q + (l.length + 1) by omega]
theorem quu {a p : Bs} (ha : a.all (at8 qaI) = true) (hp : p.all (at8 qaI) = true) : rlp a.length 0 0 0 (a ++ qbz p) = bif decide (qaC 0 (a ++ p) > 1000000) then none else some (qaC 0 (a ++ p), p.length) := by
 have hge : qaC 0 a ≤ qaC 0 (a ++ p) := by rw [qcr]; exact qgG _ _
 rw [qfL (g := false) a (qbz p) 0 0 0 ha (fun j _ h => decide_eq_false (by omega)) (by omega)]
 by_cases hb : qaC 0 a > 1000000
 ·rw [decide_eq_true hb, decide_eq_true (by omega)]; rfl
 ·rw [decide_eq_false hb, cond_false, cond_false]
  unfold qbz
  cases hq : (p != [])
  ·have : p = [] := by simpa using hq
   subst this
   rw [List.append_nil, decide_eq_false hb]; rfl
  ·have h46 : at8 qaI 46 = false := rfl
   simp only [cond_true, rlp, h46, cond_false]
   have := qfL (w := a.length) (g := true) p [] (0 + a.length + 1) (qaC 0 a) (0 + 0) hp (fun j h1 _ => decide_eq_true (by omega)) (by omega)
   rw [List.append_nil] at this
   rw [this, ← qcr]
   cases decide (qaC 0 (a ++ p) > 1000000)
   ·simp [rlp]
   ·rfl
def qea (x : Bs) : Nat := match marksS.find? (preB · x) with
 | some m => m.length
 | none => 0
def one13 : Bs := [123, 125, 40, 41, 44, 59, 58, 36, 43, 45, 42, 47, 60]
theorem quc {c d : UInt8} {r : Bs} (h : (d == 61 && (c == 61 || (c == 33 || c == 60))) = true) : marksS.find? (preB · (c :: d :: r)) = some [c, 61] := by
 simp only [Bool.and_eq_true, Bool.or_eq_true, beq_iff_eq] at h
 obtain ⟨rfl, rfl | rfl | rfl⟩ := h <;> rfl
theorem qnz {c : UInt8} {r : Bs} (h : (match r with | d :: _ => d == 61 && (c == 61 || (c == 33 || c == 60)) | [] => false) = false) : marksS.find? (preB · (c :: r)) = bif one13.any (· == c) then some [c] else none := by
 have key : ∀ a, preB [a, 61] (c :: r) = true → (a = 61 ∨ a = 33 ∨ a = 60) → False := by
  intro a ha hq
  cases r with
  | nil => simp [preB] at ha
  | cons d r =>
   simp only [preB, Bool.and_eq_true, decide_eq_true_eq, beq_iff_eq, List.length_cons, List.length_nil, List.take_succ_cons, List.take_zero, List.cons.injEq, and_true] at ha
   obtain ⟨_, rfl, rfl⟩ := ha
   rcases hq with rfl | rfl | rfl <;> simp at h
 have h1 : preB [61, 61] (c :: r) = false := by cases hq : preB [61, 61] (c :: r); rfl; exact (key _ hq (by simp)).elim
 have h2 : preB [33, 61] (c :: r) = false := by cases hq : preB [33, 61] (c :: r); rfl; exact (key _ hq (by simp)).elim
 have h3 : preB [60, 61] (c :: r) = false := by cases hq : preB [60, 61] (c :: r); rfl; exact (key _ hq (by simp)).elim
 have hs : ∀ a, preB [a] (c :: r) = (a == c) := by
  intro a
  simp only [preB, List.length_cons, List.length_nil, List.take_succ_cons, List.take_zero]
  rw [decide_eq_true (by omega), Bool.true_and, Bool.eq_iff_iff, beq_iff_eq, beq_iff_eq]
  constructor
  ·intro h; cases h; rfl
  ·rintro rfl; rfl
 unfold marksS one13
 simp only [List.find?_cons, h1, h2, h3, hs, List.find?_nil, List.any_cons, List.any_nil]
 cases q1 : (123 == c) <;> simp only [q1, Bool.true_or, Bool.false_or, cond_true]
 ·cases q2 : (125 == c) <;> simp only [q2, Bool.true_or, Bool.false_or, cond_true]
  ·cases q3 : (40 == c) <;> simp only [q3, Bool.true_or, Bool.false_or, cond_true]
   ·cases q4 : (41 == c) <;> simp only [q4, Bool.true_or, Bool.false_or, cond_true]
    ·cases q5 : (44 == c) <;> simp only [q5, Bool.true_or, Bool.false_or, cond_true]
     ·cases q6 : (59 == c) <;> simp only [q6, Bool.true_or, Bool.false_or, cond_true]
      ·cases q7 : (58 == c) <;> simp only [q7, Bool.true_or, Bool.false_or, cond_true]
       ·cases q8 : (36 == c) <;> simp only [q8, Bool.true_or, Bool.false_or, cond_true]
        ·cases q9 : (43 == c) <;> simp only [q9, Bool.true_or, Bool.false_or, cond_true]
         ·cases q10 : (45 == c) <;> simp only [q10, Bool.true_or, Bool.false_or, cond_true]
          ·cases q11 : (42 == c) <;> simp only [q11, Bool.true_or, Bool.false_or, cond_true]
           ·cases q12 : (47 == c) <;> simp only [q12, Bool.true_or, Bool.false_or, cond_true]
            ·cases q13 : (60 == c) <;> simp only [q13, Bool.true_or, Bool.false_or, cond_true, cond_false]
             rw [← beq_iff_eq.1 q13]
            ·rw [← beq_iff_eq.1 q12]
           ·rw [← beq_iff_eq.1 q11]
          ·rw [← beq_iff_eq.1 q10]
         ·rw [← beq_iff_eq.1 q9]
        ·rw [← beq_iff_eq.1 q8]
       ·rw [← beq_iff_eq.1 q7]
      ·rw [← beq_iff_eq.1 q6]
     ·rw [← beq_iff_eq.1 q5]
    ·rw [← beq_iff_eq.1 q4]
   ·rw [← beq_iff_eq.1 q3]
  ·rw [← beq_iff_eq.1 q2]
 ·rw [← beq_iff_eq.1 q1]
theorem qlJ {x m : Bs} (h : marksS.find? (preB · x) = some m) : x.take m.length = m := by
 have h1 := List.find?_some h
 simp only [preB, Bool.and_eq_true, decide_eq_true_eq, beq_iff_eq] at h1
 exact h1.2
def qem (x : Bs) : Int × Bs × Int := match x with
 | [] => (0, [], 2)
 | c :: _ =>
  bif at8 qiZ c then (bif qdV (x.takeWhile (at8 qbK)) then (5, x.takeWhile (at8 qbK), 0) else bif decide ((x.takeWhile (at8 qbK)).length > 16) then (1, x.takeWhile (at8 qbK), 4) else (1, x.takeWhile (at8 qbK), 0))
  else bif at8 qaI c then
   (bif qew (x.takeWhile (at8 qbA)) then (bif qek (x.takeWhile (at8 qbA)) then (2, x.takeWhile (at8 qbA), 6) else (2, x.takeWhile (at8 qbA), 0))
   else bif !qfx (x.takeWhile (at8 qbA)) then (3, x.takeWhile (at8 qbA), 2) else bif (qbd (x.takeWhile (at8 qbA))).2 != 0 then (3, x.takeWhile (at8 qbA), 6) else (3, x.takeWhile (at8 qbA), 0))
  else bif qea x == 0 then (0, [], 2) else (4, x.take (qea x), 0)
theorem qun (s : Bs) : (qbd s).2 = 0 ∨ (qbd s).2 = 1 ∨ (qbd s).2 = 2 := by
 rcases qi6 s with h | h | h
 ·rw [h]; exact .inr (.inr rfl)
 ·rw [h]; exact .inr (.inl rfl)
 ·exact .inl h
theorem qpp (x : Bs) : (qem x).2.2 = (qai x).2.2 ∧ ((qai x).2.2 = 0 → qem x = qai x) := by
 cases x with
 | nil => exact ⟨rfl, fun h => by cases h⟩
 | cons c r =>
  unfold qem qai
  simp only
  cases hl : at8 qiZ c
  ·simp only [cond_false]
   cases hd : at8 qaI c
   ·simp only [cond_false]
    unfold qea
    cases hf : marksS.find? (preB · (c :: r)) with
    | none => exact ⟨rfl, fun h => by cases h⟩
    | some m =>
     have h1 := qlJ hf
     have h2 := qlK m (List.mem_of_find?_eq_some hf)
     have h0 : (m.length == 0) = false := by
      cases m with
      | nil => cases h2
      | cons => rfl
     simp only [h0, cond_false, h1]
     exact ⟨trivial, fun _ => trivial⟩
   ·simp only [cond_true]
    generalize (c :: r).takeWhile (at8 qbA) = t
    unfold qnF
    cases hi : qew t
    ·have hs := qjN t
     simp only [cond_false]
     rcases qun t with h | h | h
     ·rw [h] at hs
      rw [← hs, h]; exact ⟨rfl, fun _ => rfl⟩
     ·rw [h] at hs
      rw [← hs, h]; exact ⟨rfl, fun h => by cases h⟩
     ·rw [h] at hs
      rw [← hs, h]; exact ⟨rfl, fun h => by cases h⟩
    ·rw [qtV hi]
     simp only [cond_true]
     cases qek t
     ·exact ⟨rfl, fun _ => rfl⟩
     ·exact ⟨rfl, fun h => by cases h⟩
  ·simp only [cond_true]
   cases qdV ((c :: r).takeWhile (at8 qbK))
   ·cases decide (((c :: r).takeWhile (at8 qbK)).length > 16)
    ·exact ⟨rfl, fun _ => rfl⟩
    ·exact ⟨rfl, fun h => by cases h⟩
   ·exact ⟨rfl, fun _ => rfl⟩
theorem qkQ (s : Bs) (line : Int) (h : ((rdT s line).2.2 != 0) = true) : (rdT s line).1 = [] := by
 rw [qb2] at h ⊢
 have : ∀ x ln, ((stepT x ln).2.2 != 0) = true → (stepT x ln).1 = [] → (stepT x ln).1 = [] := fun _ _ _ h => h
 have key : ∀ (k : Nat) (s : Bs) (line : Int), s.length ≤ k → ((rdT s line).2.2 != 0) = true → (rdT s line).1 = [] := by
  intro k
  induction k with
  | zero =>
   intro s line hk h
   have : s = [] := List.length_eq_zero_iff.1 (by omega)
   subst this; rfl
  | succ k ih =>
   intro s line hk h
   rw [qb2] at h ⊢
   cases hx : s.drop (blk false s) with
   | nil => rfl
   | cons c r =>
    rw [hx] at h
    simp only [stepT] at h ⊢
    have hlen := congrArg List.length hx
    rw [List.length_drop] at hlen
    cases he : ((qai (c :: r)).2.2 != 0)
    ·have he0 : (qai (c :: r)).2.2 = 0 := by simpa using he
     have hp := List.length_pos_iff.2 (qbn he0).1
     rw [he] at h
     simp only [cond_false, qgh] at h ⊢
     cases hz : ((rdT ((c :: r).drop (qai (c :: r)).2.1.length) (line + ((s.take (blk false s)).count 10 : Nat))).2.2 != 0)
     ·rw [hz] at h
      simp only [cond_false] at h
      rw [h] at hz; cases hz
     ·rw [cond_true]
      exact ih _ _ (by simp only [List.length_drop, List.length_cons] at hlen ⊢; omega) hz
    ·rfl
 rw [← qb2] at h ⊢
 exact key s.length s line (Nat.le_refl _) h
def qzo (n : Int) : Bs × Int := bif decide (n < 0) || decide (n > 1000000) then ([], 1) else (qsN n.toNat, 0)
end Go.Tk

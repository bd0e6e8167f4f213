/- Tokens: what follows a token, blanks ahead and behind, lines; texts of joined tokens are read back. -/
import Derived.Test.YtoeknkhpjdomhaaGreatDoorJnA
set_option linter.unusedVariables false
set_option linter.unusedSimpArgs false
set_option linter.unnecessarySimpa false
namespace Go.Tk
open Go Go.Eng
set_option linter.unusedSimpArgs false
set_option linter.unusedVariables false
theorem find_congr {α : Type} {p q : α → Bool} : ∀ {l : List α}, (∀ x ∈ l, p x = q x) → l.find? p = l.find? q
 | [], _ => rfl
 | x :: l, h => by
  simp only [List.find?_cons, h x (by simp)]
  rw [find_congr fun y hy => h y (by simp [hy])]
theorem qmf {p : UInt8 → Bool} {d : UInt8} (hd : p d = false) : ∀ (l q : Bs), (l ++ d :: q).takeWhile p = l.takeWhile p
 | [], q => by simp [List.takeWhile, hd]
 | c :: l, q => by
  simp only [List.cons_append, List.takeWhile_cons]
  cases p c
  ·rfl
  ·rw [qmf hd l q]
theorem qte {p : UInt8 → Bool} (l : Bs) : (l.takeWhile p).takeWhile p = l.takeWhile p := qh6.2 qtf
def mk2 : Bs → Bool
 | [_] => true
 | [_, b] => b == 61
 | _ => false
theorem qlK : ∀ m ∈ marksS, mk2 m = true := by decide
theorem qzr {m x : Bs} {d : UInt8} {q : Bs} (hx : x ≠ []) (hm : mk2 m = true) (hd : d ≠ 61) : preB m (x ++ d :: q) = preB m x := by
 cases x with
 | nil => exact absurd rfl hx
 | cons c r =>
  match m, hm with
  | [a], _ => simp [preB]
  | [a, b], hb =>
   have hb : b = 61 := by simpa [mk2] using hb
   subst hb
   cases r with
   | nil => simp [preB, hd]
   | cons c' r => simp [preB]
theorem qnD {x : Bs} (hx : x ≠ []) {d : UInt8} (hd : d = 10 ∨ d = 32) (q : Bs) : qai (x ++ d :: q) = qai x := by
 have h1 : at8 qbK d = false := by rcases hd with rfl | rfl <;> rfl
 have h2 : at8 qbA d = false := by rcases hd with rfl | rfl <;> rfl
 have h3 : d ≠ 61 := by rcases hd with rfl | rfl <;> decide
 have hm : marksS.find? (preB · (x ++ d :: q)) = marksS.find? (preB · x) := find_congr fun m hm => qzr hx (qlK m hm) h3
 have ht1 := qmf h1 x q
 have ht2 := qmf h2 x q
 cases x with
 | nil => exact absurd rfl hx
 | cons c r =>
  simp only [List.cons_append] at hm ht1 ht2 ⊢
  simp only [qai, hm, ht1, ht2]
theorem qpc : ∀ m ∈ marksS, qai m = (4, m, 0) := by decide
theorem qsv {x : Bs} (h : (qai x).2.2 = 0) : qai (qai x).2.1 = qai x := by
 cases x with
 | nil => rfl
 | cons c r =>
  cases hl : at8 qiZ c
  ·cases hd : at8 qaI c
   ·have e : qai (c :: r) = match marksS.find? (preB · (c :: r)) with | some m => (4, m, 0) | none => (0, [], 2) := by simp only [qai, hl, hd, cond_false]; rfl
    rw [e] at h ⊢
    cases hf : marksS.find? (preB · (c :: r)) with
    | none => rw [hf] at h; simp at h
    | some m => exact qpc m (List.mem_of_find?_eq_some hf)
   ·have e : qai (c :: r) = qnF ((c :: r).takeWhile (at8 qbA)) := by simp only [qai, hl, hd, cond_false, cond_true]
    have hn : at8 qbA c = true := by simp only [at8, qbA, qbK] at hd ⊢; simp [hd]
    have ht : (c :: r).takeWhile (at8 qbA) = c :: r.takeWhile (at8 qbA) := by simp [hn]
    have hk : (qnF ((c :: r).takeWhile (at8 qbA))).2.2 = 0 → (qnF ((c :: r).takeWhile (at8 qbA))).2.1 = (c :: r).takeWhile (at8 qbA) := by
     unfold qnF
     cases qew ((c :: r).takeWhile (at8 qbA)) <;> cases nOk (Lib.parseIntB 64 ((c :: r).takeWhile (at8 qbA))) <;> cases ((qbd ((c :: r).takeWhile (at8 qbA))).2 == 0) <;> cases ((qbd ((c :: r).takeWhile (at8 qbA))).2 == 1) <;> simp
    rw [e] at h ⊢
    rw [hk h]
    have e2 : qai ((c :: r).takeWhile (at8 qbA)) = qnF (((c :: r).takeWhile (at8 qbA)).takeWhile (at8 qbA)) := by
     rw [ht]; simp only [qai, hl, hd, cond_false, cond_true]
    rw [e2, qte]
  ·have hn : at8 qbK c = true := by simp only [at8, qbK] at hl ⊢; simp [hl]
   have ht : (c :: r).takeWhile (at8 qbK) = c :: r.takeWhile (at8 qbK) := by simp [hn]
   have e : ∀ y : Bs, qai (c :: y) = bif qdV ((c :: y).takeWhile (at8 qbK)) then (5, (c :: y).takeWhile (at8 qbK), 0) else bif decide (((c :: y).takeWhile (at8 qbK)).length > 16) then (0, [], 4) else (1, (c :: y).takeWhile (at8 qbK), 0) := by
    intro y; simp only [qai, hl, cond_true]
   have hk : (qai (c :: r)).2.1 = (c :: r).takeWhile (at8 qbK) := by
    rw [e] at h ⊢
    cases hw : qdV ((c :: r).takeWhile (at8 qbK))
    ·rw [hw] at h
     cases hg : decide (((c :: r).takeWhile (at8 qbK)).length > 16)
     ·rfl
     ·rw [hg] at h; simp at h
    ·rfl
   rw [hk]
   conv => lhs; rw [ht, e]
   rw [← ht, qte, ← e]
def qpy : Bs → Bool
 | [] => false
 | c :: _ => !spI c.toNat && !((c.toNat : Int) == 35)
theorem qud : ∀ m ∈ marksS, qpy m = true := by decide
theorem qsu {x : Bs} (h : (qai x).2.2 = 0) : qpy x = true := by
 cases x with
 | nil => simp [qai] at h
 | cons c r =>
  cases hl : at8 qiZ c
  ·cases hd : at8 qaI c
   ·have e : qai (c :: r) = match marksS.find? (preB · (c :: r)) with | some m => (4, m, 0) | none => (0, [], 2) := by simp only [qai, hl, hd, cond_false]; rfl
    rw [e] at h
    cases hf : marksS.find? (preB · (c :: r)) with
    | none => rw [hf] at h; simp at h
    | some m =>
     have h1 := qud m (List.mem_of_find?_eq_some hf)
     have h2 := List.find?_some hf
     simp only [preB, Bool.and_eq_true, decide_eq_true_eq, beq_iff_eq] at h2
     cases m with
     | nil => cases h1
     | cons a m =>
      have h3 := h2.2
      simp only [List.length_cons, List.take_succ_cons, List.cons.injEq] at h3
      rw [h3.1]; exact h1
   ·simp only [at8, qaI, Bool.and_eq_true, decide_eq_true_eq] at hd
    simp only [qpy, spI, Bool.and_eq_true, Bool.not_eq_true', Bool.or_eq_false_iff, beq_eq_false_iff_ne]
    omega
  ·simp only [at8, qiZ, Bool.and_eq_true, decide_eq_true_eq] at hl
   simp only [qpy, spI, Bool.and_eq_true, Bool.not_eq_true', Bool.or_eq_false_iff, beq_eq_false_iff_ne]
   omega
theorem qAc {x : Bs} (h : qpy x = true) : blk false x = 0 := by
 cases x with
 | nil => rfl
 | cons c r =>
  simp only [qpy, Bool.and_eq_true, Bool.not_eq_true'] at h
  simp only [blk, h.1, h.2, cond_false]
theorem qtX {x y : Bs} (hx : x ≠ []) : qpy (x ++ y) = qpy x := by
 cases x with
 | nil => exact absurd rfl hx
 | cons c r => rfl
theorem qgz {q : Bs} : ∀ (b : Bool) (s : Bs), blk b s < s.length → blk b (s ++ q) = blk b s
 | b, [], h => by simp at h
 | false, c :: r, h => by
  have h1 := qgz (q := q) false r
  have h2 := qgz (q := q) true r
  simp only [blk, List.length_cons, List.cons_append] at h ⊢
  cases hs : spI c.toNat
  ·cases hc : ((c.toNat : Int) == 35)
   ·rfl
   ·simp only [hs, hc, cond_false, cond_true] at h ⊢; rw [h2 (by omega)]
  ·simp only [hs, cond_true] at h ⊢; rw [h1 (by omega)]
 | true, c :: r, h => by
  have h1 := qgz (q := q) false r
  have h2 := qgz (q := q) true r
  simp only [blk, List.length_cons, List.cons_append] at h ⊢
  cases hs : qcD c.toNat
  ·simp only [hs, cond_false] at h ⊢; rw [h1 (by omega)]
  ·simp only [hs, cond_true] at h ⊢; rw [h2 (by omega)]
theorem qfk {q : Bs} : ∀ (b : Bool) (s : Bs), blk b s = s.length → blk b (s ++ 10 :: q) = s.length + (blk false q + 1)
 | false, [], _ => by simp [blk, spI]
 | true, [], _ => by simp [blk, qcD]
 | false, c :: r, h => by
  have h1 := qfk (q := q) false r
  have h2 := qfk (q := q) true r
  simp only [blk, List.length_cons, List.cons_append] at h ⊢
  cases hs : spI c.toNat
  ·cases hc : ((c.toNat : Int) == 35)
   ·simp only [hs, hc, cond_false] at h; omega
   ·simp only [hs, hc, cond_false, cond_true] at h ⊢; rw [h2 (by omega)]; omega
  ·simp only [hs, cond_true] at h ⊢; rw [h1 (by omega)]; omega
 | true, c :: r, h => by
  have h1 := qfk (q := q) false r
  have h2 := qfk (q := q) true r
  simp only [blk, List.length_cons, List.cons_append] at h ⊢
  cases hs : qcD c.toNat
  ·simp only [hs, cond_false] at h ⊢; rw [h1 (by omega)]; omega
  ·simp only [hs, cond_true] at h ⊢; rw [h2 (by omega)]; omega
theorem qm8 {s : Bs} : ∀ (p : Bs), (p.all fun c => spI c.toNat) = true → blk false (p ++ s) = p.length + blk false s
 | [], _ => by simp
 | c :: p, h => by
  simp only [List.all_cons, Bool.and_eq_true] at h
  simp only [List.cons_append, blk, h.1, cond_true, List.length_cons, qm8 p h.2]
  omega
theorem qjg : ∀ (k k' : Nat) (s : Bs) (line : Int) (acc : List Tok), s.length < k → s.length < k' → qdB k s line acc = qdB k' s line acc
 | 0, _, s, _, _, h, _ => by omega
 | _, 0, s, _, _, _, h => by omega
 | k + 1, k' + 1, s, line, acc, h, h' => by
  simp only [qdB]
  cases hq : s.drop (blk false s) with
  | nil => rfl
  | cons c r =>
   simp only
   cases he : ((qai (c :: r)).2.2 != 0)
   ·have he0 : (qai (c :: r)).2.2 = 0 := by simpa using he
    have hp := List.length_pos_iff.2 (qbn he0).1
    have hlen : (c :: r).length ≤ s.length := by rw [← hq]; simp
    simp only [List.length_cons] at hlen
    exact qjg k k' _ _ _ (by simp; omega) (by simp; omega)
   ·rfl
theorem qmc : ∀ (k : Nat) (s : Bs) (line : Int) (acc : List Tok), s.length < k → qdB k s line acc = bif (qdB k s line []).2.2 != 0 then qdB k s line [] else (acc ++ (qdB k s line []).1, (qdB k s line []).2)
 | 0, s, _, _, h => by omega
 | k + 1, s, line, acc, h => by
  simp only [qdB]
  cases hq : s.drop (blk false s) with
  | nil => simp
  | cons c r =>
   simp only
   cases he : ((qai (c :: r)).2.2 != 0)
   ·have he0 : (qai (c :: r)).2.2 = 0 := by simpa using he
    have hp := List.length_pos_iff.2 (qbn he0).1
    have hlen : (c :: r).length ≤ s.length := by rw [← hq]; simp
    simp only [List.length_cons] at hlen
    simp only [cond_false]
    have ih := fun a => qmc k ((c :: r).drop (qai (c :: r)).2.1.length) (line + (s.take (blk false s)).count 10) a (by simp; omega)
    rw [ih (acc ++ _), ih ([] ++ _)]
    cases hz : ((qdB k ((c :: r).drop (qai (c :: r)).2.1.length) (line + (s.take (blk false s)).count 10) []).2.2 != 0)
    ·simp only [cond_false, hz, List.append_assoc, List.nil_append]
    ·simp only [cond_true, hz]
   ·simp only [cond_true, he]
def rdT (s : Bs) (line : Int) : List Tok × Int × Int := qdB (s.length + 1) s line []
def qgh (t : Tok) (q : List Tok × Int × Int) : List Tok × Int × Int := bif q.2.2 != 0 then q else (t :: q.1, q.2)
def stepT (x : Bs) (ln : Int) : List Tok × Int × Int := match x with
 | [] => ([], 0, 0)
 | c :: r => bif (qai (c :: r)).2.2 != 0 then ([], ln, (qai (c :: r)).2.2) else qgh ⟨(qai (c :: r)).1, ln, (qai (c :: r)).2.1⟩ (rdT ((c :: r).drop (qai (c :: r)).2.1.length) ln)
theorem qb2 (s : Bs) (line : Int) : rdT s line = stepT (s.drop (blk false s)) (line + (s.take (blk false s)).count 10) := by
 unfold rdT stepT
 simp only [qdB]
 cases hq : s.drop (blk false s) with
 | nil => rfl
 | cons c r =>
  simp only
  cases he : ((qai (c :: r)).2.2 != 0)
  ·have he0 : (qai (c :: r)).2.2 = 0 := by simpa using he
   have hp := List.length_pos_iff.2 (qbn he0).1
   have hlen : (c :: r).length ≤ s.length := by rw [← hq]; simp
   simp only [List.length_cons] at hlen
   simp only [cond_false]
   rw [qmc s.length _ _ _ (by simp; omega)]
   unfold rdT qgh
   rw [qjg s.length (((c :: r).drop (qai (c :: r)).2.1.length).length + 1) _ _ [] (by simp; omega) (by omega)]
   rfl
  ·rfl
theorem qco {s : Bs} (h : s.length ≤ 2048) : qa2 s = rdT s 1 := by
 unfold qa2 rdT
 rw [decide_eq_false (by omega)]; rfl
theorem qyR (line : Int) : rdT [] line = ([], 0, 0) := rfl
theorem qC7 {s : Bs} (h : qpy s = true) (line : Int) : rdT s line = stepT s line := by
 rw [qb2, qAc h]; simp
theorem qpY {p s : Bs} (h : blk false (p ++ s) = p.length + blk false s) (line : Int) : rdT (p ++ s) line = rdT s (line + p.count 10) := by
 rw [qb2, qb2 s, h]
 have h1 : (p ++ s).drop (p.length + blk false s) = s.drop (blk false s) := by rw [← List.drop_drop]; simp
 have h2 : (p ++ s).take (p.length + blk false s) = p ++ s.take (blk false s) := by rw [List.take_append]; simp [List.take_of_length_le]
 rw [h1, h2, List.count_append]
 congr 1
 push_cast
 omega
def shT (d : Int) (q : List Tok × Int × Int) : List Tok × Int × Int := (q.1.map fun t => ⟨t.kind, t.line + d, t.text⟩, (bif q.2.2 != 0 then q.2.1 + d else q.2.1), q.2.2)
theorem qyT (d : Int) : ∀ (n : Nat) (s : Bs) (line : Int), s.length ≤ n → rdT s (line + d) = shT d (rdT s line) := by
 intro n
 induction n with
 | zero =>
  intro s line h
  have : s = [] := List.length_eq_zero_iff.1 (by omega)
  subst this; rfl
 | succ n ih =>
  intro s line h
  rw [qb2, qb2 s line]
  cases hq : s.drop (blk false s) with
  | nil => rfl
  | cons c r =>
   have hl : line + d + ((s.take (blk false s)).count 10 : Nat) = line + ((s.take (blk false s)).count 10 : Nat) + d := by omega
   rw [hl]
   simp only [stepT]
   cases he : ((qai (c :: r)).2.2 != 0)
   ·have he0 : (qai (c :: r)).2.2 = 0 := by simpa using he
    have hp := List.length_pos_iff.2 (qbn he0).1
    have hlen : (c :: r).length ≤ s.length := by rw [← hq]; simp
    simp only [List.length_cons] at hlen
    simp only [cond_false]
    rw [ih _ _ (by simp; omega)]
    unfold qgh shT
    simp only
    cases hz : ((rdT ((c :: r).drop (qai (c :: r)).2.1.length) (line + ((s.take (blk false s)).count 10 : Nat))).2.2 != 0)
    ·simp [hz]
    ·simp [hz]
   ·simp only [cond_true, shT, he, List.map_nil]
theorem qz9 {q : Bs} (hq : blk false q = q.length) : ∀ (n : Nat) (s : Bs) (line : Int), s.length ≤ n → rdT (s ++ 10 :: q) line = rdT s line := by
 intro n
 induction n with
 | zero =>
  intro s line h
  have : s = [] := List.length_eq_zero_iff.1 (by omega)
  subst this
  rw [qb2, qb2 []]
  have := qfk (q := q) false [] rfl
  simp only [List.nil_append, List.length_nil, Nat.zero_add] at this ⊢
  rw [this, hq, List.drop_of_length_le (by simp)]
  rfl
 | succ n ih =>
  intro s line h
  rw [qb2, qb2 s line]
  by_cases hb : blk false s = s.length
  ·rw [qfk false s hb, hb, List.drop_of_length_le (l := s ++ 10 :: q) (by simp [hq]), List.drop_of_length_le (l := s) (by simp)]
   rfl
  ·have hlt : blk false s < s.length := by have := qf1 false s; omega
   rw [qgz false s hlt, List.drop_append_of_le_length (by omega), List.take_append_of_le_length (by omega)]
   cases hx : s.drop (blk false s) with
   | nil =>
    have := congrArg List.length hx
    simp at this; omega
   | cons c r =>
    have hn := qnD (x := c :: r) (by simp) (.inl rfl) q
    simp only [List.cons_append] at hn ⊢
    simp only [stepT, hn]
    cases he : ((qai (c :: r)).2.2 != 0)
    ·have he0 : (qai (c :: r)).2.2 = 0 := by simpa using he
     obtain ⟨hp, y, hy⟩ := qbn he0
     have hp := List.length_pos_iff.2 hp
     have hlen : (c :: r).length ≤ s.length := by rw [← hx]; simp
     have hle : (qai (c :: r)).2.1.length ≤ (c :: r).length := by
      have := congrArg List.length hy
      rw [List.length_append] at this; omega
     simp only [List.length_cons] at hlen hle
     simp only [cond_false]
     have hd : (c :: (r ++ 10 :: q)).drop (qai (c :: r)).2.1.length = (c :: r).drop (qai (c :: r)).2.1.length ++ 10 :: q := by
      rw [← List.cons_append, List.drop_append_of_le_length (by simpa using hle)]
     rw [hd, ih _ _ (by simp; omega)]
    ·rfl
def qbt (t : Tok) : Bool := (qa2 t.text).2.2 == 0 && ((qa2 t.text).1.length == 1 && match (qa2 t.text).1 with
 | u :: _ => u.kind == t.kind && u.text == t.text
 | [] => false)
theorem quB {t : Tok} (h : qai t.text = (t.kind, t.text, 0)) (hl : t.text.length ≤ 2048) : qbt t = true := by
 have h0 : (qai t.text).2.2 = 0 := by rw [h]
 have hh := qsu h0
 unfold qbt
 rw [qco hl, qC7 hh]
 cases hx : t.text with
 | nil => rw [hx] at hh; cases hh
 | cons c r =>
  rw [hx] at h h0
  simp only [stepT, h]
  simp [qyR, qgh]
theorem qfZ {t : Tok} (h : qbt t = true) : t.text.length ≤ 2048 ∧ qpy t.text = true ∧ qai t.text = (t.kind, t.text, 0) := by
 by_cases hl : t.text.length ≤ 2048
 ·refine ⟨hl, ?_⟩
  unfold qbt at h
  rw [qco hl, qb2] at h
  cases hx : t.text.drop (blk false t.text) with
  | nil => rw [hx] at h; simp [stepT] at h
  | cons c r =>
   rw [hx] at h
   simp only [stepT] at h
   cases he : ((qai (c :: r)).2.2 != 0)
   ·have he0 : (qai (c :: r)).2.2 = 0 := by simpa using he
    rw [he] at h
    simp only [cond_false, qgh] at h
    cases hz : ((rdT ((c :: r).drop (qai (c :: r)).2.1.length) (1 + ((t.text.take (blk false t.text)).count 10 : Nat))).2.2 != 0)
    ·rw [hz] at h
     simp only [cond_false, Bool.and_eq_true, beq_iff_eq] at h
     obtain ⟨_, _, h1, h2⟩ := h
     obtain ⟨_, y, hy⟩ := qbn he0
     have hlen : (qai (c :: r)).2.1.length + y.length + blk false t.text = t.text.length := by
      have := congrArg List.length hx
      rw [List.length_drop] at this
      have h3 := congrArg List.length hy
      rw [List.length_append] at h3
      have := qf1 false t.text
      omega
     rw [h2] at hlen
     have hb : blk false t.text = 0 := by omega
     rw [hb, List.drop_zero] at hx
     refine ⟨?_, ?_⟩
     ·rw [hx]; exact qsu he0
     ·rw [hx] at h2 ⊢
      exact Prod.ext h1 (Prod.ext h2 he0)
    ·rw [hz] at h
     simp only [cond_true, Bool.and_eq_true, beq_iff_eq] at h
     rw [h.1] at hz; simp at hz
   ·rw [he] at h
    simp only [cond_true, Bool.and_eq_true, beq_iff_eq] at h
    rw [h.1] at he; simp at he
 ·unfold qbt qa2 at h
  rw [decide_eq_true (by omega)] at h
  simp at h
def qdU (i : Nat) (n : Int) (t : Tok) : Bs := List.replicate (t.line - n).toNat 10 ++ (if i > 0 ∧ t.line = n then [32] else [])
def qia : Nat → Int → List Tok → Bs
 | _, _, [] => []
 | i, n, t :: l => qdU i n t ++ (t.text ++ qia (i + 1) t.line l)
def okJ : Nat → Int → Nat → List Tok → Bool
 | _, _, _, [] => true
 | i, n, k, t :: l => decide (t.line - n ≤ 2048) && (decide (k + (qdU i n t).length + t.text.length ≤ 2048) && okJ (i + 1) t.line (k + (qdU i n t).length + t.text.length) l)
theorem qt4 : ∀ (l : List Tok) (i : Nat) (n : Int) (acc : Bs), jnF i n acc l = bif okJ i n acc.length l then (acc ++ qia i n l, 0) else ([], 5)
 | [], i, n, acc => by simp [jnF, okJ, qia]
 | t :: l, i, n, acc => by
  have ih := qt4 l (i + 1) t.line (acc ++ List.replicate (t.line - n).toNat 10 ++ (if i > 0 ∧ t.line = n then [32] else []) ++ t.text)
  have hacc : acc ++ List.replicate (t.line - n).toNat 10 ++ (if i > 0 ∧ t.line = n then [32] else []) ++ t.text = acc ++ (qdU i n t ++ t.text) := by simp [qdU, List.append_assoc]
  rw [hacc] at ih
  simp only [jnF, okJ, hacc, ih]
  by_cases h1 : t.line - n > 2048
  ·rw [if_pos h1, decide_eq_false (by omega)]; rfl
  ·rw [if_neg h1, decide_eq_true (by omega)]
   by_cases h2 : 2048 < (acc ++ (qdU i n t ++ t.text)).length
   ·rw [if_pos h2, decide_eq_false (by simp at h2; omega)]; rfl
   ·rw [if_neg h2, decide_eq_true (by simp at h2; omega)]
    simp only [Bool.true_and, List.length_append, Nat.add_assoc, qia, List.append_assoc]
theorem qBS (i : Nat) (n : Int) (t : Tok) : ((qdU i n t).all fun c => spI c.toNat) = true := by
 unfold qdU
 rw [List.all_append, Bool.and_eq_true]
 refine ⟨by simp [spI], ?_⟩
 split <;> rfl
theorem qs2 {i : Nat} {n : Int} {t : Tok} (h : n ≤ t.line) : n + ((qdU i n t).count 10 : Nat) = t.line := by
 unfold qdU
 rw [List.count_append, List.count_replicate_self]
 have : (if i > 0 ∧ t.line = n then [(32 : UInt8)] else []).count 10 = 0 := by split <;> rfl
 rw [this]; omega
theorem qCn {V : Tok → Bool} {i : Nat} {n : Int} : ∀ {l : List Tok}, qf3 V n l = true → qia (i + 1) n l = [] ∨ ∃ d q, (d = 10 ∨ d = 32) ∧ qia (i + 1) n l = d :: q
 | [], _ => .inl rfl
 | t :: l, h => by
  simp only [qf3, Bool.and_eq_true, decide_eq_true_eq] at h
  right
  simp only [qia, qdU]
  by_cases he : t.line = n
  ·rw [if_pos ⟨Nat.succ_pos i, he⟩, he]
   exact ⟨32, _, .inr rfl, by simp; rfl⟩
  ·obtain ⟨k, hk⟩ : ∃ k, (t.line - n).toNat = k + 1 := ⟨(t.line - n).toNat - 1, by omega⟩
   rw [hk, List.replicate_succ]
   exact ⟨10, _, .inl rfl, by simp only [List.cons_append]; rfl⟩
theorem qyU : ∀ (l : List Tok) (i : Nat) (n : Int), qf3 qbt n l = true → rdT (qia i n l) n = (l, 0, 0)
 | [], i, n, _ => rfl
 | t :: l, i, n, h => by
  have h' := h
  simp only [qf3, Bool.and_eq_true, decide_eq_true_eq] at h'
  obtain ⟨hv, hn, hc⟩ := h'
  obtain ⟨hl, hh, hx⟩ := qfZ hv
  have hne : t.text ≠ [] := by intro he; rw [he] at hh; cases hh
  have hnx : qai (t.text ++ qia (i + 1) t.line l) = (t.kind, t.text, 0) := by
   rcases qCn (i := i) hc with h1 | ⟨d, q, hd, h1⟩
   ·rw [h1, List.append_nil, hx]
   ·rw [h1, qnD hne hd, hx]
  simp only [qia]
  rw [qpY (qm8 _ (qBS i n t)), qs2 hn, qC7 (by rw [qtX hne]; exact hh)]
  have ih := qyU l (i + 1) t.line hc
  have hdrop : (t.text ++ qia (i + 1) t.line l).drop t.text.length = qia (i + 1) t.line l := by simp
  cases hq : t.text ++ qia (i + 1) t.line l with
  | nil => exact absurd (List.append_eq_nil_iff.1 hq).1 hne
  | cons c r =>
   rw [hq] at hnx hdrop
   simp only [stepT, hnx, hdrop, ih]
   rfl
theorem qyV : ∀ (k : Nat) (s : Bs) (n : Int) (l : List Tok), s.length ≤ k → s.length ≤ 2048 → rdT s n = (l, 0, 0) → qf3 qbt n l = true ∧ ∀ i m, m + 2 * s.length ≤ 2048 → okJ i n m l = true := by
 intro k
 induction k with
 | zero =>
  intro s n l h _ hT
  have : s = [] := List.length_eq_zero_iff.1 (by omega)
  subst this
  rw [qyR] at hT; cases hT
  exact ⟨rfl, fun _ _ _ => rfl⟩
 | succ k ih =>
  intro s n l h h2 hT
  rw [qb2] at hT
  cases hx : s.drop (blk false s) with
  | nil => rw [hx] at hT; cases hT; exact ⟨rfl, fun _ _ _ => rfl⟩
  | cons c r =>
   rw [hx] at hT
   simp only [stepT] at hT
   have hlen := congrArg List.length hx
   rw [List.length_drop] at hlen
   have hble := qf1 false s
   have hcnt : (s.take (blk false s)).count 10 ≤ blk false s := Nat.le_trans List.count_le_length (by simp; omega)
   cases he : ((qai (c :: r)).2.2 != 0)
   ·have he0 : (qai (c :: r)).2.2 = 0 := by simpa using he
    obtain ⟨hp, y, hy⟩ := qbn he0
    have hp := List.length_pos_iff.2 hp
    have hy' := congrArg List.length hy
    rw [List.length_append] at hy'
    rw [he] at hT
    simp only [cond_false, qgh] at hT
    cases hz : ((rdT ((c :: r).drop (qai (c :: r)).2.1.length) (n + ((s.take (blk false s)).count 10 : Nat))).2.2 != 0)
    ·have hz0 : (rdT ((c :: r).drop (qai (c :: r)).2.1.length) (n + ((s.take (blk false s)).count 10 : Nat))).2.2 = 0 := by simpa using hz
     rw [hz] at hT
     simp only [cond_false, Prod.mk.injEq] at hT
     obtain ⟨rfl, ht2⟩ := hT
     have hdl : ((c :: r).drop (qai (c :: r)).2.1.length).length = (c :: r).length - (qai (c :: r)).2.1.length := by rw [List.length_drop]
     obtain ⟨i1, i2⟩ := ih ((c :: r).drop (qai (c :: r)).2.1.length) (n + ((s.take (blk false s)).count 10 : Nat)) _ (by omega) (by omega) (Prod.ext rfl ht2)
     refine ⟨?_, fun i m hm => ?_⟩
     ·simp only [qf3, Bool.and_eq_true, decide_eq_true_eq]
      refine ⟨quB ?_ ?_, by omega, i1⟩
      ·show qai (qai (c :: r)).2.1 = _
       rw [qsv he0, ← he0]
      ·show (qai (c :: r)).2.1.length ≤ 2048
       omega
     ·have hsep : (qdU i n ⟨(qai (c :: r)).1, n + ((s.take (blk false s)).count 10 : Nat), (qai (c :: r)).2.1⟩).length ≤ blk false s + 1 := by
       unfold qdU
       simp only [List.length_append, List.length_replicate]
       split
       ·simp only [List.length_cons, List.length_nil]; omega
       ·simp only [List.length_nil]; omega
      simp only [okJ, Bool.and_eq_true, decide_eq_true_eq]
      refine ⟨by omega, by omega, i2 _ _ (by omega)⟩
    ·rw [hz] at hT
     simp only [cond_true] at hT
     rw [hT] at hz; simp at hz
   ·rw [he] at hT
    simp only [cond_true, Prod.mk.injEq] at hT
    rw [hT.2.2] at he; simp at he
end Go.Tk

/- States of stand-in, as data; keys, searches. -/
import Derived.Test.YtpoebijgpbaccaaD53_8
import Derived.Test.YtpoebijgpbaccaaE3
set_option linter.unusedVariables false
set_option linter.unusedSimpArgs false
set_option linter.unnecessarySimpa false
namespace Go.Proofs.H53
open Go Go.Eng
set_option maxRecDepth 20000

structure Avl where
  (acc amt used : Int)
deriving DecidableEq
structure Wai where
  (acc amt : Int)
  (key : List UInt8)
deriving DecidableEq
def Avl.av (x : Avl) : AV := .agg [.int .i64 x.acc, .int .i64 x.amt, .int .i64 x.used]
def Wai.av (x : Wai) : AV := .agg [.int .i64 x.acc, .int .i64 x.amt, .str x.key]
abbrev ksA : List CS := [CS.int IntKind.i64, CS.int IntKind.i64, CS.int IntKind.i64]
abbrev ksW : List CS := [CS.int IntKind.i64, CS.int IntKind.i64, CS.str]
theorem hkA (h : Avl) : okCs ksA (cellsA h.av) = true := rfl
theorem hkW (h : Wai) : okCs ksW (cellsA h.av) = true := rfl
abbrev EA (l : List Avl) : List AV := l.map Avl.av
abbrev EW (l : List Wai) : List AV := l.map Wai.av
theorem okA {l : List Avl} {n : Nat} (h : n < l.length) : okAt ksA (EA l) (n : Int) = true := okAt_at hkA h
theorem okW {l : List Wai} {n : Nat} (h : n < l.length) : okAt ksW (EW l) (n : Int) = true := okAt_at hkW h
theorem qa0 {l : List Avl} {n : Nat} (h : n < l.length) : intOf (cellAt (EA l) (n : Int) 0) = l[n].acc := by rw [cellAt_map h]; rfl
theorem qa1 {l : List Avl} {n : Nat} (h : n < l.length) : intOf (cellAt (EA l) (n : Int) 1) = l[n].amt := by rw [cellAt_map h]; rfl
theorem qa2 {l : List Avl} {n : Nat} (h : n < l.length) : intOf (cellAt (EA l) (n : Int) 2) = l[n].used := by rw [cellAt_map h]; rfl
theorem qw0 {l : List Wai} {n : Nat} (h : n < l.length) : intOf (cellAt (EW l) (n : Int) 0) = l[n].acc := by rw [cellAt_map h]; rfl
theorem qw1 {l : List Wai} {n : Nat} (h : n < l.length) : intOf (cellAt (EW l) (n : Int) 1) = l[n].amt := by rw [cellAt_map h]; rfl
theorem qw2 {l : List Wai} {n : Nat} (h : n < l.length) : strOf (cellAt (EW l) (n : Int) 2) = l[n].key := by rw [cellAt_map h]; rfl

def okL (q : List Wai) : Prop := q.length ≤ big ∧ ∀ w ∈ q, w.key.length ≤ big
theorem okL_take {q : List Wai} (h : okL q) (n : Nat) : okL (q.take n) := ⟨Nat.le_trans (by simp; omega) h.1, fun w hw => h.2 w (List.mem_of_mem_take hw)⟩

theorem gt_le (a b : Int) : decide (a > b) = !decide (a ≤ b) := by by_cases h : a ≤ b <;> simp [h] <;> omega
theorem lt_ge (a b : Int) : decide (a < b) = !decide (a ≥ b) := by by_cases h : a ≥ b <;> simp [h] <;> omega

def longW (w : Wai) : Bool := decide ((w.key.length : Int) > 100)
theorem l7_val {q : List Wai} (hq : q.length ≤ big) (lm : Int) (L : List AV) : l7_0 (0, lm, L, EW q) = some (seek longW (fun _ => 0) 1 q, ((q.findIdx longW : Nat) : Int), lm, L, EW q) := by
  rw [l7_0_eq]
  refine loop_search (hd := fun n => ((n : Int), lm, L, EW q)) (jx := fun _ => 0) longW 1 (fun n h => ?_) ?_
  · simp only [st7_0, st7_0_0, List.length_map, lt_at h, okW h, qw2 h, ev_br, ev_at, cond_true, wrap_succ h hq]
    rw [show decide ((q[n].key.length : Int) > 100) = longW q[n] from rfl]
    cases longW q[n] <;> rfl
  · simp [st7_0, st7_0_0]
/-- Is a state small? -/
def fewB (a : List Avl) (q : List Wai) : Bool := !(decide ((a.length : Int) > 80) || decide ((q.length : Int) > 80)) && !q.any longW
theorem f7_val {a : List Avl} {q : List Wai} (hq : q.length ≤ big) (lm : Int) : f7 lm (EA a) (EW q) = some (fewB a q) := by
  rw [f7_eq, tr7, l7_val hq, seek_const, fewB]
  simp only [List.length_map, br_eq, cond_some, ev_bi_some, ev_br]
  cases decide ((a.length : Int) > 80) <;> cases decide ((q.length : Int) > 80) <;> cases q.any longW <;> rfl

def amtB (x : Int) : Bool := decide (x ≥ -1000000000000) && decide (x ≤ 1000000000000)
theorem f29_val (x : Int) : f29 x = some (amtB x) := by
  rw [f29_eq, tr29]
  by_cases h : x ≥ -1000000000000 <;> simp [amtB, h]
theorem f42_val (x : Int) : f42 x = some (amtB x) := by
  rw [f42_eq, tr42]
  by_cases h : x ≥ -1000000000000 <;> simp [amtB, h]
def badC (s : List UInt8) (n : Nat) : Bool := decide (((s[n]?.getD 0).toNat : Int) < 33) || decide (((s[n]?.getD 0).toNat : Int) > 126)
theorem byte_q {s : List UInt8} {n : Nat} (h : n < s.length) : byteAt s (n : Int) = ((s[n]?.getD 0).toNat : Int) := by
  rw [byteAt_at h, List.getElem?_eq_getElem h]; rfl
theorem l30_val {s : List UInt8} (hl : s.length ≤ big) : l30_0 (s, (s.length : Int), 0) = some (seek (badC s) (fun _ => 0) 1 (List.range s.length), s, (s.length : Int), (((List.range s.length).findIdx (badC s) : Nat) : Int)) := by
  rw [l30_0_eq]
  refine loop_searchI (hd := fun n => (s, (s.length : Int), (n : Int))) (N := s.length) (jx := fun _ => 0) (badC s) 1 (fun n h => ?_) ?_
  · simp only [st30_0, st30_0_0, lt_at h, inB_at h, byte_q h, ev_br, ev_at, cond_true, wrap_succ h hl, br_eq, cond_some, ev_bi_some, badC]
    cases decide (((s[n]?.getD 0).toNat : Int) < 33) <;> cases decide (((s[n]?.getD 0).toNat : Int) > 126) <;> rfl
  · simp [st30_0, st30_0_0]
theorem l43_val {s : List UInt8} (hl : s.length ≤ big) : l43_0 (s, 0) = some (seek (badC s) (fun _ => 0) 1 (List.range s.length), s, (((List.range s.length).findIdx (badC s) : Nat) : Int)) := by
  rw [l43_0_eq]
  refine loop_searchI (hd := fun n => (s, (n : Int))) (N := s.length) (jx := fun _ => 0) (badC s) 1 (fun n h => ?_) ?_
  · simp only [st43_0, st43_0_0, lt_at h, inB_at h, byte_q h, ev_br, ev_at, cond_true, wrap_succ h hl, br_eq, cond_some, ev_bi_some, badC]
    cases decide (((s[n]?.getD 0).toNat : Int) < 33) <;> cases decide (((s[n]?.getD 0).toNat : Int) > 126) <;> rfl
  · simp [st43_0, st43_0_0]
def keyB (s : List UInt8) : Bool := !(List.range s.length).any (badC s) && (decide ((s.length : Int) ≥ 1) && decide ((s.length : Int) ≤ 48))
theorem f30_val {s : List UInt8} (hl : s.length ≤ big) : f30 s = some (keyB s) := by
  rw [f30_eq, tr30, l30_val hl, seek_const, keyB]
  cases (List.range s.length).any (badC s) <;> simp <;> cases decide (1 ≤ s.length) <;> simp
theorem f43_val {s : List UInt8} (hl : s.length ≤ big) : f43 s = some (keyB s) := by
  rw [f43_eq, tr43, l43_val hl, seek_const, keyB, gt_le _ 48]
  have e : (s == []) = !decide ((s.length : Int) ≥ 1) := by
    cases s with
    | nil => rfl
    | cons x s =>
      have : decide (((x :: s).length : Int) ≥ 1) = true := by simp; omega
      rw [this]; rfl
  rw [e]
  cases (List.range s.length).any (badC s) <;> cases decide ((s.length : Int) ≥ 1) <;> cases decide ((s.length : Int) ≤ 48) <;> rfl
/-- Is a transaction's amount and key accepted? -/
def shapedB (amt : Int) (s : List UInt8) : Bool := amt != 0 && (amtB amt && keyB s)
theorem f24_val {s : List UInt8} (hl : s.length ≤ big) (amt : Int) : f24 amt s = some (shapedB amt s) := by
  rw [f24_eq, tr24, f42_val, f43_val hl, shapedB]
  cases (amt != 0) <;> cases amtB amt <;> cases keyB s <;> rfl

def accB (id : Int) (x : Avl) : Bool := x.acc == id
def idx (l : List Avl) (id : Int) : Int := if l.findIdx (accB id) < l.length then ((l.findIdx (accB id) : Nat) : Int) else -1
theorem any_idx {α : Type} {l : List α} {p : α → Bool} : l.any p = decide (l.findIdx p < l.length) := by
  rw [Bool.eq_iff_iff, decide_eq_true_eq, List.findIdx_lt_length, List.any_eq_true]
theorem f45_val (x : Avl) (id : Int) : f45 x.acc x.amt x.used id = some (accB id x) := by rw [f45_eq]; rfl
theorem l44_val {l : List Avl} (hl : l.length ≤ big) (id : Int) : l44_0 (EA l, id, (l.length : Int), 0) = some (seek (accB id) (fun _ => 0) 1 l, EA l, id, (l.length : Int), ((l.findIdx (accB id) : Nat) : Int)) := by
  rw [l44_0_eq]
  refine loop_search (hd := fun n => (EA l, id, (l.length : Int), (n : Int))) (jx := fun _ => 0) (accB id) 1 (fun n h => ?_) ?_
  · simp only [st44_0, st44_0_0, lt_at h, okA h, qa0 h, qa1 h, qa2 h, ev_br, ev_at, cond_true, f45_val, ev_bi_some, wrap_succ h hl]
    cases accB id l[n] <;> rfl
  · simp [st44_0, st44_0_0]
theorem f28_val {l : List Avl} (hl : l.length ≤ big) (id : Int) : f28 (EA l) id = some (idx l id) := by
  rw [f28_eq, tr28, f44_eq, tr44, List.length_map, l44_val hl, seek_const, any_idx, idx]
  by_cases h : l.findIdx (accB id) < l.length <;> simp [h]
theorem l25_val {l : List Avl} (hl : l.length ≤ big) (id lm : Int) (Q : List AV) : l25_0 (id, 0, lm, EA l, Q) = some (seek (accB id) (fun _ => 0) 1 l, id, ((l.findIdx (accB id) : Nat) : Int), lm, EA l, Q) := by
  rw [l25_0_eq]
  refine loop_search (hd := fun n => (id, (n : Int), lm, EA l, Q)) (jx := fun _ => 0) (accB id) 1 (fun n h => ?_) ?_
  · simp only [st25_0, st25_0_0, List.length_map, lt_at h, okA h, qa0 h, ev_br, ev_at, cond_true, wrap_succ h hl]
    rw [show (l[n].acc == id) = accB id l[n] from rfl]
    cases accB id l[n] <;> rfl
  · simp [st25_0, st25_0_0]
theorem f25_val {l : List Avl} (hl : l.length ≤ big) (lm : Int) (Q : List AV) (id : Int) : f25 lm (EA l) Q id = some (idx l id) := by
  rw [f25_eq, tr25, l25_val hl, seek_const, any_idx, idx]
  by_cases h : l.findIdx (accB id) < l.length <;> simp [h]
def keyIs (k : List UInt8) (w : Wai) : Bool := w.key == k
theorem f41_val (w : Wai) (a b : Int) (k : List UInt8) : f41 w.acc w.amt w.key a b k = some (keyIs k w) := by rw [f41_eq]; rfl
theorem l46_val {q : List Wai} (hq : q.length ≤ big) (a b : Int) (k : List UInt8) : l46_0 (EW q, a, b, k, (q.length : Int), 0) = some (seek (keyIs k) (fun _ => 0) 1 q, EW q, a, b, k, (q.length : Int), ((q.findIdx (keyIs k) : Nat) : Int)) := by
  rw [l46_0_eq]
  refine loop_search (hd := fun n => (EW q, a, b, k, (q.length : Int), (n : Int))) (jx := fun _ => 0) (keyIs k) 1 (fun n h => ?_) ?_
  · simp only [st46_0, st46_0_0, lt_at h, okW h, qw0 h, qw1 h, qw2 h, ev_br, ev_at, cond_true, f41_val, ev_bi_some, wrap_succ h hq]
    cases keyIs k q[n] <;> rfl
  · simp [st46_0, st46_0_0]
theorem f31_val {q : List Wai} (hq : q.length ≤ big) (a b : Int) (k : List UInt8) : f31 (EW q) a b k = some (q.any (keyIs k)) := by
  rw [f31_eq, tr31, f46_eq, tr46, List.length_map, l46_val hq, seek_const]
  cases q.any (keyIs k)
  · rfl
  · simp
theorem l26_val {q : List Wai} (hq : q.length ≤ big) (k : List UInt8) : l26_0 (EW q, k, 0) = some (seek (keyIs k) (fun _ => 0) 1 q, EW q, k, ((q.findIdx (keyIs k) : Nat) : Int)) := by
  rw [l26_0_eq]
  refine loop_search (hd := fun n => (EW q, k, (n : Int))) (jx := fun _ => 0) (keyIs k) 1 (fun n h => ?_) ?_
  · simp only [st26_0, st26_0_0, List.length_map, lt_at h, okW h, qw2 h, ev_br, ev_at, cond_true, wrap_succ h hq]
    rw [show (q[n].key == k) = keyIs k q[n] from rfl]
    cases keyIs k q[n] <;> rfl
  · simp [st26_0, st26_0_0]
theorem f26_val {q : List Wai} (hq : q.length ≤ big) (k : List UInt8) : f26 (EW q) k = some (q.any (keyIs k)) := by
  rw [f26_eq, tr26, l26_val hq, seek_const]
  cases q.any (keyIs k) <;> rfl
theorem idx_lt (l : List Avl) (id : Int) : decide (idx l id < 0) = !l.any (accB id) := by
  rw [any_idx, idx]
  by_cases h : l.findIdx (accB id) < l.length
  · rw [if_pos h, decide_eq_true h]; simp
  · rw [if_neg h, decide_eq_false h]; rfl

end Go.Proofs.H53

/- Entries: products of accounts, entries of transactions; the law of entries. Printed by a program of mine, but for the proofs. -/
import Derived.Test.YtpoebijgpbaccaaX5
set_option linter.unusedVariables false
set_option linter.unusedSimpArgs false
set_option linter.unnecessarySimpa false
namespace Go.Proofs.H53
open Go Go.Eng
set_option maxRecDepth 20000

structure Prd where
  s0 : List UInt8
  s1 : List UInt8
  s2 : List UInt8
  i3 : Int
  i4 : Int
  i5 : Int
  i6 : Int
  v7 : List AV
  b8 : Bool
  i9 : Int
  i10 : Int
  b11 : Bool
  v12 : List AV
  b13 : Bool
  i14 : Int
  i15 : Int
  b16 : Bool
  v17 : List AV
  v18 : List AV
def Prd.av (x : Prd) : AV := .agg [.str x.s0, .str x.s1, .str x.s2, .int .i64 x.i3, .int .i64 x.i4, .int .i64 x.i5, .int .i64 x.i6, .view 2 x.v7, .bool x.b8, .int .i64 x.i9, .int .i64 x.i10, .bool x.b11, .view 2 x.v12, .bool x.b13, .int .i64 x.i14, .int .i64 x.i15, .bool x.b16, .view 10 x.v17, .view 6 x.v18]
abbrev ksP : List CS := [CS.str, CS.str, CS.str, CS.int IntKind.i64, CS.int IntKind.i64, CS.int IntKind.i64, CS.int IntKind.i64, CS.slice 2, CS.bool, CS.int IntKind.i64, CS.int IntKind.i64, CS.bool, CS.slice 2, CS.bool, CS.int IntKind.i64, CS.int IntKind.i64, CS.bool, CS.slice 10, CS.slice 6]
theorem hkPrd (h : Prd) : okCs ksP (cellsA h.av) = true := rfl
abbrev EP (l : List Prd) : List AV := l.map Prd.av
theorem okP1 {l : List Prd} {n : Nat} (h : n < l.length) : okAt ksP (EP l) (n : Int) = true := okAt_at hkPrd h
theorem qp0 {l : List Prd} {n : Nat} (h : n < l.length) : strOf (cellAt (EP l) (n : Int) 0) = l[n].s0 := by rw [cellAt_map h]; rfl
theorem qp1 {l : List Prd} {n : Nat} (h : n < l.length) : strOf (cellAt (EP l) (n : Int) 1) = l[n].s1 := by rw [cellAt_map h]; rfl
theorem qp2 {l : List Prd} {n : Nat} (h : n < l.length) : strOf (cellAt (EP l) (n : Int) 2) = l[n].s2 := by rw [cellAt_map h]; rfl
theorem qp3 {l : List Prd} {n : Nat} (h : n < l.length) : intOf (cellAt (EP l) (n : Int) 3) = l[n].i3 := by rw [cellAt_map h]; rfl
theorem qp4 {l : List Prd} {n : Nat} (h : n < l.length) : intOf (cellAt (EP l) (n : Int) 4) = l[n].i4 := by rw [cellAt_map h]; rfl
theorem qp5 {l : List Prd} {n : Nat} (h : n < l.length) : intOf (cellAt (EP l) (n : Int) 5) = l[n].i5 := by rw [cellAt_map h]; rfl
theorem qp6 {l : List Prd} {n : Nat} (h : n < l.length) : intOf (cellAt (EP l) (n : Int) 6) = l[n].i6 := by rw [cellAt_map h]; rfl
theorem qp7 {l : List Prd} {n : Nat} (h : n < l.length) : viewOf (cellAt (EP l) (n : Int) 7) = l[n].v7 := by rw [cellAt_map h]; rfl
theorem qp8 {l : List Prd} {n : Nat} (h : n < l.length) : boolOf (cellAt (EP l) (n : Int) 8) = l[n].b8 := by rw [cellAt_map h]; rfl
theorem qp9 {l : List Prd} {n : Nat} (h : n < l.length) : intOf (cellAt (EP l) (n : Int) 9) = l[n].i9 := by rw [cellAt_map h]; rfl
theorem qp10 {l : List Prd} {n : Nat} (h : n < l.length) : intOf (cellAt (EP l) (n : Int) 10) = l[n].i10 := by rw [cellAt_map h]; rfl
theorem qp11 {l : List Prd} {n : Nat} (h : n < l.length) : boolOf (cellAt (EP l) (n : Int) 11) = l[n].b11 := by rw [cellAt_map h]; rfl
theorem qp12 {l : List Prd} {n : Nat} (h : n < l.length) : viewOf (cellAt (EP l) (n : Int) 12) = l[n].v12 := by rw [cellAt_map h]; rfl
theorem qp13 {l : List Prd} {n : Nat} (h : n < l.length) : boolOf (cellAt (EP l) (n : Int) 13) = l[n].b13 := by rw [cellAt_map h]; rfl
theorem qp14 {l : List Prd} {n : Nat} (h : n < l.length) : intOf (cellAt (EP l) (n : Int) 14) = l[n].i14 := by rw [cellAt_map h]; rfl
theorem qp15 {l : List Prd} {n : Nat} (h : n < l.length) : intOf (cellAt (EP l) (n : Int) 15) = l[n].i15 := by rw [cellAt_map h]; rfl
theorem qp16 {l : List Prd} {n : Nat} (h : n < l.length) : boolOf (cellAt (EP l) (n : Int) 16) = l[n].b16 := by rw [cellAt_map h]; rfl
theorem qp17 {l : List Prd} {n : Nat} (h : n < l.length) : viewOf (cellAt (EP l) (n : Int) 17) = l[n].v17 := by rw [cellAt_map h]; rfl
theorem qp18 {l : List Prd} {n : Nat} (h : n < l.length) : viewOf (cellAt (EP l) (n : Int) 18) = l[n].v18 := by rw [cellAt_map h]; rfl
structure Acc where
  id : Int
  opened : Int
  closed : Int
  extra : Int
  number : List UInt8
  prod : List UInt8
  owner : List UInt8
def Acc.av (x : Acc) : AV := .agg [.int .i64 x.id, .int .i64 x.opened, .int .i64 x.closed, .int .i64 x.extra, .str x.number, .str x.prod, .str x.owner]
abbrev ksC : List CS := [CS.int IntKind.i64, CS.int IntKind.i64, CS.int IntKind.i64, CS.int IntKind.i64, CS.str, CS.str, CS.str]
theorem hkAcc (h : Acc) : okCs ksC (cellsA h.av) = true := rfl
abbrev EC (l : List Acc) : List AV := l.map Acc.av
theorem okC1 {l : List Acc} {n : Nat} (h : n < l.length) : okAt ksC (EC l) (n : Int) = true := okAt_at hkAcc h
theorem qc0 {l : List Acc} {n : Nat} (h : n < l.length) : intOf (cellAt (EC l) (n : Int) 0) = l[n].id := by rw [cellAt_map h]; rfl
theorem qc1 {l : List Acc} {n : Nat} (h : n < l.length) : intOf (cellAt (EC l) (n : Int) 1) = l[n].opened := by rw [cellAt_map h]; rfl
theorem qc2 {l : List Acc} {n : Nat} (h : n < l.length) : intOf (cellAt (EC l) (n : Int) 2) = l[n].closed := by rw [cellAt_map h]; rfl
theorem qc3 {l : List Acc} {n : Nat} (h : n < l.length) : intOf (cellAt (EC l) (n : Int) 3) = l[n].extra := by rw [cellAt_map h]; rfl
theorem qc4 {l : List Acc} {n : Nat} (h : n < l.length) : strOf (cellAt (EC l) (n : Int) 4) = l[n].number := by rw [cellAt_map h]; rfl
theorem qc5 {l : List Acc} {n : Nat} (h : n < l.length) : strOf (cellAt (EC l) (n : Int) 5) = l[n].prod := by rw [cellAt_map h]; rfl
theorem qc6 {l : List Acc} {n : Nat} (h : n < l.length) : strOf (cellAt (EC l) (n : Int) 6) = l[n].owner := by rw [cellAt_map h]; rfl

def prT (p : Prd) : B36 := (p.s0, p.s1, p.s2, p.i3, p.i4, p.i5, p.i6, p.v7, p.b8, p.i9, p.i10, p.b11, p.v12, p.b13, p.i14, p.i15, p.b16, p.v17, p.v18, true)
def noP : B36 := ([], [], [], 0, 0, 0, 0, [], false, 0, 0, false, [], false, 0, 0, false, [], [], false)
def acT (c : Acc) : B47 := (c.id, c.opened, c.closed, c.extra, c.number, c.prod, c.owner, true)
def noC' : B47 := (0, 0, 0, 0, [], [], [], false)
/-- The version in force, so far. -/
def atF (l : List Prd) (name : List UInt8) (day : Int) (n : Nat) (a : Option Nat) (x : Prd) : Option Nat :=
  bif x.s0 == name then bif decide (x.i3 ≤ day) then match a with
    | none => some n
    | some m => bif decide (x.i3 > (l[m]?.map Prd.i3).getD 0) then some n else some m
  else a else a
def optI (a : Option Nat) : Int := match a with
  | none => -1
  | some m => m
def inv (n : Nat) (a : Option Nat) : Prop := match a with
  | none => True
  | some m => m < n
def atS (l : List Prd) (name : List UInt8) (day : Int) : Option Nat := foldI (atF l name day) 0 none l
theorem inv_atF (l : List Prd) (name : List UInt8) (day : Int) (n : Nat) (a : Option Nat) (x : Prd) (h : inv n a) : inv (n + 1) (atF l name day n a x) := by
  unfold atF
  cases (x.s0 == name)
  · cases a with
    | none => trivial
    | some m => simp only [inv] at h ⊢; simp only [cond_false]; omega
  · cases decide (x.i3 ≤ day)
    · cases a with
      | none => trivial
      | some m => simp only [inv] at h ⊢; simp only [cond_false, cond_true]; omega
    · cases a with
      | none => simp [inv]
      | some m =>
        simp only [cond_true]
        cases decide (x.i3 > (l[m]?.map Prd.i3).getD 0)
        · simp only [inv] at h ⊢; simp only [cond_false]; omega
        · simp [inv]
theorem inv_foldI (l : List Prd) (name : List UInt8) (day : Int) : ∀ (xs : List Prd) (n : Nat) (a : Option Nat), inv n a → inv (n + xs.length) (foldI (atF l name day) n a xs)
  | [], n, a, h => by simpa [foldI] using h
  | x :: xs, n, a, h => by
    rw [foldI]
    have := inv_foldI l name day xs (n + 1) _ (inv_atF l name day n a x h)
    simpa [Nat.add_assoc, Nat.add_comm 1] using this
theorem inv_atS (l : List Prd) (name : List UInt8) (day : Int) : inv l.length (atS l name day) := by
  have := inv_foldI l name day l 0 none trivial
  unfold atS
  simpa using this
theorem step_at {l : List Prd} {n : Nat} (h : n < l.length) (name : List UInt8) (day : Int) {a : Option Nat} (ha : inv n a) :
    (∃ m, ∃ hm : m < l.length, a = some m ∧ optI (atF l name day n a l[n]) = (bif l[n].s0 == name then bif decide (l[n].i3 ≤ day) then bif decide (l[n].i3 > l[m].i3) then (n : Int) else (m : Int) else (m : Int) else (m : Int))) ∨
    (a = none ∧ optI (atF l name day n a l[n]) = (bif l[n].s0 == name then bif decide (l[n].i3 ≤ day) then (n : Int) else -1 else -1)) := by
  cases a with
  | none =>
    refine .inr ⟨rfl, ?_⟩
    unfold atF
    cases (l[n].s0 == name) <;> cases decide (l[n].i3 ≤ day) <;> rfl
  | some m =>
    simp only [inv] at ha
    have hm : m < l.length := by omega
    refine .inl ⟨m, hm, rfl, ?_⟩
    unfold atF
    simp only [List.getElem?_eq_getElem hm, Option.map_some, Option.getD_some]
    cases (l[n].s0 == name) <;> cases decide (l[n].i3 ≤ day) <;> cases decide (l[n].i3 > l[m].i3) <;> rfl
theorem l48_val {l : List Prd} (hl : l.length ≤ big) (name : List UInt8) (day : Int) : l48_0 (EP l, name, day, -1, EP l, (l.length : Int), 0, [], [], [], 0, 0, 0, 0, false, 0, 0, false, false, 0, 0, false) = some (0, (EP l, name, day, optI (atS l name day), EP l, (l.length : Int), (l.length : Int), [], [], [], 0, 0, 0, 0, false, 0, 0, false, false, 0, 0, false)) := by
  rw [l48_0_eq]
  refine loop_foldI (st := fun v => (st48_0 v).ev) (l := l) (fun n a => (EP l, name, day, optI a, EP l, (l.length : Int), (n : Int), [], [], [], 0, 0, 0, 0, false, 0, 0, false, false, 0, 0, false)) (atF l name day) (fun _ => 0) inv (a := none) trivial (fun n a h ha => inv_atF l name day n a _ ha) (fun n a h ha => ?_) (fun a _ => ?_)
  · rcases step_at h name day ha with ⟨m, hm, rfl, he⟩ | ⟨rfl, he⟩
    · have hneg : decide ((m : Int) < 0) = false := decide_eq_false (by omega)
      rw [he]
      simp only [st48_0, st48_0_0, optI, List.length_map, lt_at h, okP1 h, okP1 hm, qp0 h, qp3 h, qp3 hm, ev_br, ev_at, cond_true, hneg, cond_false, wrap_succ h hl]
      cases (l[n].s0 == name) <;> cases decide (l[n].i3 ≤ day) <;> cases decide (l[n].i3 > l[m].i3) <;> rfl
    · rw [he]
      simp only [st48_0, st48_0_0, optI, List.length_map, lt_at h, okP1 h, qp0 h, qp3 h, ev_br, ev_at, cond_true, wrap_succ h hl]
      cases (l[n].s0 == name) <;> cases decide (l[n].i3 ≤ day) <;> rfl
  · simp [st48_0, st48_0_0]
theorem f48_val {l : List Prd} (hl : l.length ≤ big) (name : List UInt8) (day : Int) : f48 (EP l) name day = some (match atS l name day with | none => noP | some m => match l[m]? with | some p => prT p | none => noP) := by
  rw [f48_eq, tr48]
  rw [List.length_map, l48_val hl]
  simp only [pj_some, if_true, ev_bi_some, ev_br, ev_at]
  have hi := inv_atS l name day
  cases hq : atS l name day with
  | none => rfl
  | some m =>
    rw [hq] at hi
    have h : m < l.length := hi
    have hneg : decide ((m : Int) < 0) = false := decide_eq_false (by omega)
    simp only [optI, hneg, cond_false, okP1 h, cond_true, qp0 h, qp1 h, qp2 h, qp3 h, qp4 h, qp5 h, qp6 h, qp7 h, qp8 h, qp9 h, qp10 h, qp11 h, qp12 h, qp13 h, qp14 h, qp15 h, qp16 h, qp17 h, qp18 h, List.getElem?_eq_getElem h]
    rfl
theorem l50_val {l : List Prd} (hl : l.length ≤ big) (name : List UInt8) (day : Int) : l50_0 (EP l, name, day, -1, 0, [], [], [], 0, 0, 0, 0, false, 0, 0, false, false, 0, 0, false) = some (0, (EP l, name, day, optI (atS l name day), (l.length : Int), [], [], [], 0, 0, 0, 0, false, 0, 0, false, false, 0, 0, false)) := by
  rw [l50_0_eq]
  refine loop_foldI (st := fun v => (st50_0 v).ev) (l := l) (fun n a => (EP l, name, day, optI a, (n : Int), [], [], [], 0, 0, 0, 0, false, 0, 0, false, false, 0, 0, false)) (atF l name day) (fun _ => 0) inv (a := none) trivial (fun n a h ha => inv_atF l name day n a _ ha) (fun n a h ha => ?_) (fun a _ => ?_)
  · rcases step_at h name day ha with ⟨m, hm, rfl, he⟩ | ⟨rfl, he⟩
    · have hneg : decide ((m : Int) < 0) = false := decide_eq_false (by omega)
      rw [he]
      simp only [st50_0, st50_0_0, optI, List.length_map, lt_at h, okP1 h, okP1 hm, qp0 h, qp3 h, qp3 hm, ev_br, ev_at, cond_true, hneg, cond_false, wrap_succ h hl]
      cases (l[n].s0 == name) <;> cases decide (l[n].i3 ≤ day) <;> cases decide (l[n].i3 > l[m].i3) <;> rfl
    · rw [he]
      simp only [st50_0, st50_0_0, optI, List.length_map, lt_at h, okP1 h, qp0 h, qp3 h, ev_br, ev_at, cond_true, wrap_succ h hl]
      cases (l[n].s0 == name) <;> cases decide (l[n].i3 ≤ day) <;> rfl
  · simp [st50_0, st50_0_0]
theorem f50_val {l : List Prd} (hl : l.length ≤ big) (name : List UInt8) (day : Int) : f50 (EP l) name day = some (match atS l name day with | none => noP | some m => match l[m]? with | some p => prT p | none => noP) := by
  rw [f50_eq, tr50]
  rw [l50_val hl]
  simp only [pj_some, if_true, ev_bi_some, ev_br, ev_at]
  have hi := inv_atS l name day
  cases hq : atS l name day with
  | none => rfl
  | some m =>
    rw [hq] at hi
    have h : m < l.length := hi
    have hneg : decide ((m : Int) < 0) = false := decide_eq_false (by omega)
    simp only [optI, hneg, cond_false, okP1 h, cond_true, qp0 h, qp1 h, qp2 h, qp3 h, qp4 h, qp5 h, qp6 h, qp7 h, qp8 h, qp9 h, qp10 h, qp11 h, qp12 h, qp13 h, qp14 h, qp15 h, qp16 h, qp17 h, qp18 h, List.getElem?_eq_getElem h]
    rfl

def idC (id : Int) (c : Acc) : Bool := c.id == id
theorem f60_val (c : Acc) (id : Int) : f60 c.id c.opened c.closed c.extra c.number c.prod c.owner id = some (idC id c) := by rw [f60_eq]; rfl
theorem l59_val {l : List Acc} (hl : l.length ≤ big) (id : Int) : l59_0 (EC l, id, (l.length : Int), 0) = some (seek (idC id) (fun _ => 0) 1 l, EC l, id, (l.length : Int), ((l.findIdx (idC id) : Nat) : Int)) := by
  rw [l59_0_eq]
  refine loop_search (hd := fun n => (EC l, id, (l.length : Int), (n : Int))) (jx := fun _ => 0) (idC id) 1 (fun n h => ?_) ?_
  · simp only [st59_0, st59_0_0, lt_at h, okC1 h, qc0 h, qc1 h, qc2 h, qc3 h, qc4 h, qc5 h, qc6 h, ev_br, ev_at, cond_true, f60_val, ev_bi_some, wrap_succ h hl]
    cases idC id l[n] <;> rfl
  · simp [st59_0, st59_0_0]
def findC (l : List Acc) (id : Int) : B47 := match l.find? (idC id) with
  | some c => acT c
  | none => noC'
theorem findC_at {l : List Acc} {id : Int} (h : l.findIdx (idC id) < l.length) : l.find? (idC id) = some l[l.findIdx (idC id)] := by
  rw [List.find?_eq_getElem?_findIdx, List.getElem?_eq_getElem h]
theorem findC_no {l : List Acc} {id : Int} (h : ¬ l.findIdx (idC id) < l.length) : l.find? (idC id) = none := by
  rw [List.findIdx_lt_length] at h
  exact List.find?_eq_none.2 fun x hx hp => h ⟨x, hx, hp⟩
theorem f47_val (x0 x1 x2 : List AV) (x3 x4 x5 x6 x7 x8 x9 x10 x11 x12 x13 x14 x15 x16 : Int) (ps : List Prd) (cs : List Acc) (x19 x20 x21 : List AV) (hl : cs.length ≤ big) (id : Int) : f47 x0 x1 x2 x3 x4 x5 x6 x7 x8 x9 x10 x11 x12 x13 x14 x15 x16 (EP ps) (EC cs) x19 x20 x21 id = some (findC cs id) := by
  rw [f47_eq, tr47, f55_eq, tr55, f59_eq, tr59, List.length_map, l59_val hl, seek_const, any_idx]
  by_cases h : cs.findIdx (idC id) < cs.length
  · have hneg : decide (((cs.findIdx (idC id) : Nat) : Int) < 0) = false := decide_eq_false (by omega)
    simp only [decide_eq_true h, cond_true, pj_some, if_true, ev_bi_some, ev_at, ev_br, hneg, cond_false, okC1 h, qc0 h, qc1 h, qc2 h, qc3 h, qc4 h, qc5 h, qc6 h, findC, findC_at h]
    rfl
  · rw [decide_eq_false h, findC, findC_no h]; rfl
theorem l49_val (x0 x1 x2 : List AV) (x3 x4 x5 x6 x7 x8 x9 x10 x11 x12 x13 x14 x15 x16 : Int) (ps : List Prd) (cs : List Acc) (x19 x20 x21 : List AV) (hl : cs.length ≤ big) (id : Int) : l49_0 (id, 0, x0, x1, x2, x3, x4, x5, x6, x7, x8, x9, x10, x11, x12, x13, x14, x15, x16, EP ps, EC cs, x19, x20, x21, 0, 0, 0, 0, [], [], []) = some (seek (idC id) (fun _ => 0) 1 cs, id, ((cs.findIdx (idC id) : Nat) : Int), x0, x1, x2, x3, x4, x5, x6, x7, x8, x9, x10, x11, x12, x13, x14, x15, x16, EP ps, EC cs, x19, x20, x21, 0, 0, 0, 0, [], [], []) := by
  rw [l49_0_eq]
  refine loop_search (hd := fun n => (id, (n : Int), x0, x1, x2, x3, x4, x5, x6, x7, x8, x9, x10, x11, x12, x13, x14, x15, x16, EP ps, EC cs, x19, x20, x21, 0, 0, 0, 0, [], [], [])) (jx := fun _ => 0) (idC id) 1 (fun n h => ?_) ?_
  · simp only [st49_0, st49_0_0, List.length_map, lt_at h, okC1 h, qc0 h, ev_br, ev_at, cond_true, wrap_succ h hl]
    rw [show (cs[n].id == id) = idC id cs[n] from rfl]
    cases idC id cs[n] <;> rfl
  · simp [st49_0, st49_0_0]
theorem f49_val (x0 x1 x2 : List AV) (x3 x4 x5 x6 x7 x8 x9 x10 x11 x12 x13 x14 x15 x16 : Int) (ps : List Prd) (cs : List Acc) (x19 x20 x21 : List AV) (hl : cs.length ≤ big) (id : Int) : f49 x0 x1 x2 x3 x4 x5 x6 x7 x8 x9 x10 x11 x12 x13 x14 x15 x16 (EP ps) (EC cs) x19 x20 x21 id = some (findC cs id) := by
  rw [f49_eq, tr49, l49_val x0 x1 x2 x3 x4 x5 x6 x7 x8 x9 x10 x11 x12 x13 x14 x15 x16 ps cs x19 x20 x21 hl, seek_const, any_idx]
  by_cases h : cs.findIdx (idC id) < cs.length
  · simp only [decide_eq_true h, cond_true, pj_some, if_true, ev_bi_some, ev_at, qc0 h, qc1 h, qc2 h, qc3 h, qc4 h, qc5 h, qc6 h, findC, findC_at h]
    rfl
  · rw [decide_eq_false h, findC, findC_no h]; rfl
/-- The product of an account on a day. -/
def prodS (ps : List Prd) (cs : List Acc) (id day : Int) : B36 := match cs.find? (idC id) with
  | none => noP
  | some c => match atS ps c.prod day with
    | none => noP
    | some m => match ps[m]? with
      | some p => prT p
      | none => noP
theorem f36_val (x0 x1 x2 : List AV) (x3 x4 x5 x6 x7 x8 x9 x10 x11 x12 x13 x14 x15 x16 : Int) (ps : List Prd) (cs : List Acc) (x19 x20 x21 : List AV) (hp : ps.length ≤ big) (hl : cs.length ≤ big) (id day : Int) : f36 x0 x1 x2 x3 x4 x5 x6 x7 x8 x9 x10 x11 x12 x13 x14 x15 x16 (EP ps) (EC cs) x19 x20 x21 id day = some (prodS ps cs id day) := by
  rw [f36_eq, tr36, f47_val x0 x1 x2 x3 x4 x5 x6 x7 x8 x9 x10 x11 x12 x13 x14 x15 x16 ps cs x19 x20 x21 hl]
  simp only [ev_bi_some, ev_br, findC, prodS]
  cases cs.find? (idC id) with
  | none => rfl
  | some c =>
    simp only [acT, Bool.not_true, cond_false, f48_val hp, ev_bi_some, ev_at]
theorem f37_val (x0 x1 x2 : List AV) (x3 x4 x5 x6 x7 x8 x9 x10 x11 x12 x13 x14 x15 x16 : Int) (ps : List Prd) (cs : List Acc) (x19 x20 x21 : List AV) (hp : ps.length ≤ big) (hl : cs.length ≤ big) (id day : Int) : f37 x0 x1 x2 x3 x4 x5 x6 x7 x8 x9 x10 x11 x12 x13 x14 x15 x16 (EP ps) (EC cs) x19 x20 x21 id day = some (prodS ps cs id day) := by
  rw [f37_eq, tr37, f49_val x0 x1 x2 x3 x4 x5 x6 x7 x8 x9 x10 x11 x12 x13 x14 x15 x16 ps cs x19 x20 x21 hl]
  simp only [ev_bi_some, ev_br, findC, prodS]
  cases cs.find? (idC id) with
  | none => rfl
  | some c =>
    simp only [acT, Bool.not_true, cond_false, f50_val hp, ev_bi_some, ev_at]

/-- The entry of a transaction. -/
def entA (day cash : Int) (cur : List UInt8) (w : Wai) : AV := AV.agg [AV.int IntKind.i64 0, AV.int IntKind.i64 day, AV.int IntKind.i64 day, AV.int IntKind.i64 (bif decide (w.amt < 0) then 2 else 1), AV.int IntKind.i64 3, AV.int IntKind.i64 0, AV.str w.key, AV.str [], AV.view 3 [AV.agg [AV.int IntKind.i64 cash, AV.int IntKind.i64 w.amt, AV.str cur], AV.agg [AV.int IntKind.i64 w.acc, AV.int IntKind.i64 (IntKind.i64.wrap (0 - w.amt)), AV.str cur]], AV.int IntKind.u64 0]
def okB (v : B36) : Bool := v.2.2.2.2.2.2.2.2.2.2.2.2.2.2.2.2.2.2.2
/-- The entries of the transactions before the first whose account has no product. -/
def entL (ps : List Prd) (cs : List Acc) (day cash : Int) (q : List Wai) : List AV := q.map fun w => entA day cash (prodS ps cs w.acc day).2.1 w
def failW (ps : List Prd) (cs : List Acc) (day : Int) (w : Wai) : Bool := !okB (prodS ps cs w.acc day)
theorem entL_snoc (ps : List Prd) (cs : List Acc) (day cash : Int) {q : List Wai} {n : Nat} (h : n < q.length) : entL ps cs day cash (q.take (n + 1)) = entL ps cs day cash (q.take n) ++ [entA day cash (prodS ps cs q[n].acc day).2.1 q[n]] := by
  unfold entL
  rw [List.take_succ_eq_append_getElem h, List.map_append]; rfl
def exJ (n len : Nat) : Nat := if n < len then (if n = 0 then 0 else 2) else (if n = 0 then 1 else 3)
def hd16 (x0 x1 x2 : List AV) (x3 x4 x5 x6 x7 x8 x9 x10 x11 x12 x13 x14 x15 x16 : Int) (ps : List Prd) (cs : List Acc) (x19 x20 x21 : List AV) (q : List Wai) (day : Int) (n : Nat) : TT16_0 := match n with
  | 0 => .inl (day, EW q, (q.length : Int), 0, x0, x1, x2, x3, x4, x5, x6, x7, x8, x9, x10, x11, x12, x13, x14, x15, x16, EP ps, EC cs, x19, x20, x21)
  | n + 1 => .inr (day, EW q, (q.length : Int), ((n + 1 : Nat) : Int), x0, x1, x2, x3, x4, x5, x6, x7, x8, x9, x10, x11, x12, x13, x14, x15, x16, EP ps, EC cs, x19, x20, x21, entL ps cs day x3 (q.take (n + 1)))
theorem l16_val (x0 x1 x2 : List AV) (x3 x4 x5 x6 x7 x8 x9 x10 x11 x12 x13 x14 x15 x16 : Int) (ps : List Prd) (cs : List Acc) (x19 x20 x21 : List AV) {q : List Wai} (hp : ps.length ≤ big) (hc : cs.length ≤ big) (hq : q.length ≤ 80) (day : Int) :
    l16_0 (.inl (day, EW q, (q.length : Int), 0, x0, x1, x2, x3, x4, x5, x6, x7, x8, x9, x10, x11, x12, x13, x14, x15, x16, EP ps, EC cs, x19, x20, x21)) = some (exJ (q.findIdx (failW ps cs day)) q.length, hd16 x0 x1 x2 x3 x4 x5 x6 x7 x8 x9 x10 x11 x12 x13 x14 x15 x16 ps cs x19 x20 x21 q day (q.findIdx (failW ps cs day))) := by
  rw [l16_0_eq]
  have hle := List.findIdx_le_length (p := failW ps cs day) (xs := q)
  refine loop_steps (st := fun v => (st16_0 v).ev) (fun n => hd16 x0 x1 x2 x3 x4 x5 x6 x7 x8 x9 x10 x11 x12 x13 x14 x15 x16 ps cs x19 x20 x21 q day n) (q.findIdx (failW ps cs day)) _ 0 (Nat.zero_le _) (fun n _ hn => ?_) ?_
  · have h : n < q.length := by omega
    have hf : failW ps cs day q[n] = false := List.not_of_lt_findIdx hn
    have ho : okB (prodS ps cs q[n].acc day) = true := by simpa [failW] using hf
    have hf' : (prodS ps cs q[n].acc day).2.2.2.2.2.2.2.2.2.2.2.2.2.2.2.2.2.2.2 = true := ho
    have hw := wrap_succ h (show q.length ≤ big by simp only [big]; omega)
    cases n with
    | zero =>
      have h0 : decide ((0 : Int) < (q.length : Int)) = true := lt_at h
      have a1 := okW h
      have a2 := qw0 h
      have a3 := qw1 h
      have a4 := qw2 h
      simp only [Int.natCast_zero] at a1 a2 a3 a4 hw
      simp only [hd16, st16_0, Sum.elim_inl, st16_0_0, List.length_map, h0, a1, a2, a3, a4, ev_br, ev_at, cond_true, f36_val x0 x1 x2 x3 x4 x5 x6 x7 x8 x9 x10 x11 x12 x13 x14 x15 x16 ps cs x19 x20 x21 hp hc, ev_bi_some, hf', Bool.not_true, cond_false, hw, entL_snoc ps cs day x3 h]
      cases hb : decide (q[0].amt < 0) <;> simp only [entL, entA, List.take_zero, List.map_nil, List.nil_append, hb, cond_true, cond_false]
    | succ m =>
      have hr : room ((entL ps cs day x3 (q.take (m + 1))).length + 1) 112 = true := room_of (by simp only [entL, List.length_map, List.length_take, lim]; omega)
      simp only [hd16, st16_0, Sum.elim_inr, st16_0_1, List.length_map, lt_at h, okW h, qw0 h, qw1 h, qw2 h, ev_br, ev_at, cond_true, f36_val x0 x1 x2 x3 x4 x5 x6 x7 x8 x9 x10 x11 x12 x13 x14 x15 x16 ps cs x19 x20 x21 hp hc, ev_bi_some, hf', Bool.not_true, cond_false, hw, hr, entL_snoc ps cs day x3 h]
      cases hb : decide (q[m + 1].amt < 0) <;> simp only [entA, hb, cond_true, cond_false]
  · by_cases h : q.findIdx (failW ps cs day) < q.length
    · have hf : failW ps cs day q[q.findIdx (failW ps cs day)] = true := List.findIdx_getElem
      generalize q.findIdx (failW ps cs day) = n at h hf ⊢
      have ho : okB (prodS ps cs q[n].acc day) = false := by simpa [failW] using hf
      have hf' : (prodS ps cs q[n].acc day).2.2.2.2.2.2.2.2.2.2.2.2.2.2.2.2.2.2.2 = false := ho
      cases n with
      | zero =>
        have h0 : decide ((0 : Int) < (q.length : Int)) = true := lt_at h
        have a1 := okW h
        have a2 := qw0 h
        simp only [Int.natCast_zero] at a1 a2
        simp only [hd16, st16_0, Sum.elim_inl, st16_0_0, List.length_map, h0, a1, a2, ev_br, ev_at, cond_true, f36_val x0 x1 x2 x3 x4 x5 x6 x7 x8 x9 x10 x11 x12 x13 x14 x15 x16 ps cs x19 x20 x21 hp hc, ev_bi_some, hf', Bool.not_false, exJ, h, if_true]
      | succ m =>
        simp only [hd16, st16_0, Sum.elim_inr, st16_0_1, List.length_map, lt_at h, okW h, qw0 h, ev_br, ev_at, cond_true, f36_val x0 x1 x2 x3 x4 x5 x6 x7 x8 x9 x10 x11 x12 x13 x14 x15 x16 ps cs x19 x20 x21 hp hc, ev_bi_some, hf', Bool.not_false, exJ, h, if_true, Nat.succ_ne_zero, if_false]
    · have he : q.findIdx (failW ps cs day) = q.length := by omega
      rw [he]
      cases hn : q.length with
      | zero =>
        simp only [hd16, st16_0, Sum.elim_inl, st16_0_0, List.length_map, hn, exJ]
        simp
      | succ m =>
        simp only [hd16, st16_0, Sum.elim_inr, st16_0_1, List.length_map, hn, exJ]
        simp
/-- What Entries gives. -/
def entR (ps : List Prd) (cs : List Acc) (day cash : Int) (q : List Wai) : List AV × Int := if q.findIdx (failW ps cs day) < q.length then ([], 11) else (entL ps cs day cash q, 0)
theorem f16_val (x0 x1 x2 : List AV) (x3 x4 x5 x6 x7 x8 x9 x10 x11 x12 x13 x14 x15 x16 : Int) (ps : List Prd) (cs : List Acc) (x19 x20 x21 : List AV) {q : List Wai} (hp : ps.length ≤ big) (hc : cs.length ≤ big) (hq : q.length ≤ 80) (lm : Int) (A : List AV) (day : Int) :
    f16 x0 x1 x2 x3 x4 x5 x6 x7 x8 x9 x10 x11 x12 x13 x14 x15 x16 (EP ps) (EC cs) x19 x20 x21 lm A (EW q) day = some (entR ps cs day x3 q) := by
  rw [f16_eq, tr16, List.length_map, l16_val x0 x1 x2 x3 x4 x5 x6 x7 x8 x9 x10 x11 x12 x13 x14 x15 x16 ps cs x19 x20 x21 hp hc hq day, entR]
  have hle := List.findIdx_le_length (p := failW ps cs day) (xs := q)
  by_cases h : q.findIdx (failW ps cs day) < q.length
  · rw [if_pos h]
    generalize q.findIdx (failW ps cs day) = n at h ⊢
    cases n with
    | zero => simp only [exJ, h, if_true]; rfl
    | succ m => simp only [exJ, h, if_true, Nat.succ_ne_zero, if_false]; rfl
  · have he : q.findIdx (failW ps cs day) = q.length := by omega
    rw [if_neg h, he]
    cases hn : q.length with
    | zero =>
      have : q = [] := List.eq_nil_of_length_eq_zero hn
      subst this
      rfl
    | succ m =>
      simp only [exJ, Nat.lt_irrefl, if_false, Nat.succ_ne_zero, hd16]
      have : q.take (m + 1) = q := List.take_of_length_le (by omega)
      rw [this]; rfl
def hd17 (x0 x1 x2 : List AV) (x3 x4 x5 x6 x7 x8 x9 x10 x11 x12 x13 x14 x15 x16 : Int) (ps : List Prd) (cs : List Acc) (x19 x20 x21 : List AV) (lm : Int) (A : List AV) (q : List Wai) (day : Int) (n : Nat) : TT17_0 := match n with
  | 0 => .inl (day, 0, x0, x1, x2, x3, x4, x5, x6, x7, x8, x9, x10, x11, x12, x13, x14, x15, x16, EP ps, EC cs, x19, x20, x21, lm, A, EW q)
  | n + 1 => .inr (day, ((n + 1 : Nat) : Int), x0, x1, x2, x3, x4, x5, x6, x7, x8, x9, x10, x11, x12, x13, x14, x15, x16, EP ps, EC cs, x19, x20, x21, lm, A, EW q, entL ps cs day x3 (q.take (n + 1)))
theorem l17_val (x0 x1 x2 : List AV) (x3 x4 x5 x6 x7 x8 x9 x10 x11 x12 x13 x14 x15 x16 : Int) (ps : List Prd) (cs : List Acc) (x19 x20 x21 : List AV) (lm : Int) (A : List AV) {q : List Wai} (hp : ps.length ≤ big) (hc : cs.length ≤ big) (hq : q.length ≤ 80) (day : Int) :
    l17_0 (.inl (day, 0, x0, x1, x2, x3, x4, x5, x6, x7, x8, x9, x10, x11, x12, x13, x14, x15, x16, EP ps, EC cs, x19, x20, x21, lm, A, EW q)) = some (exJ (q.findIdx (failW ps cs day)) q.length, hd17 x0 x1 x2 x3 x4 x5 x6 x7 x8 x9 x10 x11 x12 x13 x14 x15 x16 ps cs x19 x20 x21 lm A q day (q.findIdx (failW ps cs day))) := by
  rw [l17_0_eq]
  have hle := List.findIdx_le_length (p := failW ps cs day) (xs := q)
  refine loop_steps (st := fun v => (st17_0 v).ev) (fun n => hd17 x0 x1 x2 x3 x4 x5 x6 x7 x8 x9 x10 x11 x12 x13 x14 x15 x16 ps cs x19 x20 x21 lm A q day n) (q.findIdx (failW ps cs day)) _ 0 (Nat.zero_le _) (fun n _ hn => ?_) ?_
  · have h : n < q.length := by omega
    have hf : failW ps cs day q[n] = false := List.not_of_lt_findIdx hn
    have ho : okB (prodS ps cs q[n].acc day) = true := by simpa [failW] using hf
    have hf' : (prodS ps cs q[n].acc day).2.2.2.2.2.2.2.2.2.2.2.2.2.2.2.2.2.2.2 = true := ho
    have hw := wrap_succ h (show q.length ≤ big by simp only [big]; omega)
    cases n with
    | zero =>
      have h0 : decide ((0 : Int) < (q.length : Int)) = true := lt_at h
      have a1 := okW h
      have a2 := qw0 h
      have a3 := qw1 h
      have a4 := qw2 h
      simp only [Int.natCast_zero] at a1 a2 a3 a4 hw
      simp only [hd17, st17_0, Sum.elim_inl, st17_0_0, List.length_map, h0, a1, a2, a3, a4, ev_br, ev_at, cond_true, f37_val x0 x1 x2 x3 x4 x5 x6 x7 x8 x9 x10 x11 x12 x13 x14 x15 x16 ps cs x19 x20 x21 hp hc, ev_bi_some, hf', Bool.not_true, cond_false, hw, entL_snoc ps cs day x3 h]
      cases hb : decide (q[0].amt < 0) <;> simp only [entL, entA, List.take_zero, List.map_nil, List.nil_append, hb, cond_true, cond_false]
    | succ m =>
      have hr : room ((entL ps cs day x3 (q.take (m + 1))).length + 1) 112 = true := room_of (by simp only [entL, List.length_map, List.length_take, lim]; omega)
      simp only [hd17, st17_0, Sum.elim_inr, st17_0_1, List.length_map, lt_at h, okW h, qw0 h, qw1 h, qw2 h, ev_br, ev_at, cond_true, f37_val x0 x1 x2 x3 x4 x5 x6 x7 x8 x9 x10 x11 x12 x13 x14 x15 x16 ps cs x19 x20 x21 hp hc, ev_bi_some, hf', Bool.not_true, cond_false, hw, hr, entL_snoc ps cs day x3 h]
      cases hb : decide (q[m + 1].amt < 0) <;> simp only [entA, hb, cond_true, cond_false]
  · by_cases h : q.findIdx (failW ps cs day) < q.length
    · have hf : failW ps cs day q[q.findIdx (failW ps cs day)] = true := List.findIdx_getElem
      generalize q.findIdx (failW ps cs day) = n at h hf ⊢
      have ho : okB (prodS ps cs q[n].acc day) = false := by simpa [failW] using hf
      have hf' : (prodS ps cs q[n].acc day).2.2.2.2.2.2.2.2.2.2.2.2.2.2.2.2.2.2.2 = false := ho
      cases n with
      | zero =>
        have h0 : decide ((0 : Int) < (q.length : Int)) = true := lt_at h
        have a1 := okW h
        have a2 := qw0 h
        simp only [Int.natCast_zero] at a1 a2
        simp only [hd17, st17_0, Sum.elim_inl, st17_0_0, List.length_map, h0, a1, a2, ev_br, ev_at, cond_true, f37_val x0 x1 x2 x3 x4 x5 x6 x7 x8 x9 x10 x11 x12 x13 x14 x15 x16 ps cs x19 x20 x21 hp hc, ev_bi_some, hf', Bool.not_false, exJ, h, if_true]
      | succ m =>
        simp only [hd17, st17_0, Sum.elim_inr, st17_0_1, List.length_map, lt_at h, okW h, qw0 h, ev_br, ev_at, cond_true, f37_val x0 x1 x2 x3 x4 x5 x6 x7 x8 x9 x10 x11 x12 x13 x14 x15 x16 ps cs x19 x20 x21 hp hc, ev_bi_some, hf', Bool.not_false, exJ, h, if_true, Nat.succ_ne_zero, if_false]
    · have he : q.findIdx (failW ps cs day) = q.length := by omega
      rw [he]
      cases hn : q.length with
      | zero =>
        simp only [hd17, st17_0, Sum.elim_inl, st17_0_0, List.length_map, hn, exJ]
        simp
      | succ m =>
        simp only [hd17, st17_0, Sum.elim_inr, st17_0_1, List.length_map, hn, exJ]
        simp
theorem f17_val (x0 x1 x2 : List AV) (x3 x4 x5 x6 x7 x8 x9 x10 x11 x12 x13 x14 x15 x16 : Int) (ps : List Prd) (cs : List Acc) (x19 x20 x21 : List AV) {q : List Wai} (hp : ps.length ≤ big) (hc : cs.length ≤ big) (hq : q.length ≤ 80) (lm : Int) (A : List AV) (day : Int) :
    f17 x0 x1 x2 x3 x4 x5 x6 x7 x8 x9 x10 x11 x12 x13 x14 x15 x16 (EP ps) (EC cs) x19 x20 x21 lm A (EW q) day = some (entR ps cs day x3 q) := by
  rw [f17_eq, tr17, l17_val x0 x1 x2 x3 x4 x5 x6 x7 x8 x9 x10 x11 x12 x13 x14 x15 x16 ps cs x19 x20 x21 lm A hp hc hq day, entR]
  have hle := List.findIdx_le_length (p := failW ps cs day) (xs := q)
  by_cases h : q.findIdx (failW ps cs day) < q.length
  · rw [if_pos h]
    generalize q.findIdx (failW ps cs day) = n at h ⊢
    cases n with
    | zero => simp only [exJ, h, if_true]; rfl
    | succ m => simp only [exJ, h, if_true, Nat.succ_ne_zero, if_false]; rfl
  · have he : q.findIdx (failW ps cs day) = q.length := by omega
    rw [if_neg h, he]
    cases hn : q.length with
    | zero =>
      have : q = [] := List.eq_nil_of_length_eq_zero hn
      subst this
      rfl
    | succ m =>
      simp only [exJ, Nat.lt_irrefl, if_false, Nat.succ_ne_zero, hd17]
      have : q.take (m + 1) = q := List.take_of_length_le (by omega)
      rw [this]; rfl

abbrev ksE : List CS := [CS.int IntKind.i64, CS.int IntKind.i64, CS.int IntKind.i64, CS.int IntKind.i64, CS.int IntKind.i64, CS.int IntKind.i64, CS.str, CS.str, CS.slice 3, CS.int IntKind.u64]
/-- A list of entries, as data: their transactions and currencies. -/
structure Ent' where
  w : Wai
  cur : List UInt8
def Ent'.av (day cash : Int) (x : Ent') : AV := entA day cash x.cur x.w
theorem hkE (day cash : Int) (x : Ent') : okCs ksE (cellsA (x.av day cash)) = true := rfl
def entQ (ps : List Prd) (cs : List Acc) (day : Int) (q : List Wai) : List Ent' := q.map fun w => ⟨w, (prodS ps cs w.acc day).2.1⟩
theorem entL_eq (ps : List Prd) (cs : List Acc) (day cash : Int) (q : List Wai) : entL ps cs day cash q = (entQ ps cs day q).map (Ent'.av day cash) := by
  unfold entL entQ; rw [List.map_map]; rfl
def legs (cash : Int) (x : Ent') : List AV := [AV.agg [AV.int IntKind.i64 cash, AV.int IntKind.i64 x.w.amt, AV.str x.cur], AV.agg [AV.int IntKind.i64 x.w.acc, AV.int IntKind.i64 (IntKind.i64.wrap (0 - x.w.amt)), AV.str x.cur]]
theorem legs_eq (cash : Int) (x : Ent') : legs cash x = EW [⟨cash, x.w.amt, x.cur⟩, ⟨x.w.acc, IntKind.i64.wrap (0 - x.w.amt), x.cur⟩] := rfl
theorem f38_val {q : List Wai} (hq : q.length ≤ big) : f38 (EW q) (EW q) = some true := by
  have hl : l38_0 (EW q, EW q, 0) = some (1, EW q, EW q, (q.length : Int)) := by
    rw [l38_0_eq]
    refine loop_steps (st := fun v => (st38_0 v).ev) (fun n => (EW q, EW q, (n : Int))) q.length 1 0 (Nat.zero_le _) (fun n _ h => ?_) ?_
    · simp only [st38_0, st38_0_0, List.length_map, lt_at h, okW h, qw0 h, qw1 h, qw2 h, ev_br, ev_at, cond_true, beq_self_eq_true, Bool.and_self, Bool.not_true, if_true, cond_false, wrap_succ h hq]
    · simp [st38_0, st38_0_0]
  rw [f38_eq, tr38, hl]
  simp
theorem f18_val (day cash : Int) {l : List Ent'} (hl : l.length ≤ big) : f18 (l.map (Ent'.av day cash)) (l.map (Ent'.av day cash)) = some true := by
  have h1 : l18_0 (l.map (Ent'.av day cash), l.map (Ent'.av day cash), 0) = some (1, l.map (Ent'.av day cash), l.map (Ent'.av day cash), (l.length : Int)) := by
    rw [l18_0_eq]
    refine loop_steps (st := fun v => (st18_0 v).ev) (fun n => (l.map (Ent'.av day cash), l.map (Ent'.av day cash), (n : Int))) l.length 1 0 (Nat.zero_le _) (fun n _ h => ?_) ?_
    · have hok : okAt ksE (l.map (Ent'.av day cash)) (n : Int) = true := okAt_at (hkE day cash) h
      have h8 : viewOf (cellAt (l.map (Ent'.av day cash)) (n : Int) 8) = EW [⟨cash, l[n].w.amt, l[n].cur⟩, ⟨l[n].w.acc, IntKind.i64.wrap (0 - l[n].w.amt), l[n].cur⟩] := by rw [cellAt_map h]; rfl
      simp only [st18_0, st18_0_0, List.length_map, lt_at h, hok, h8, ev_br, ev_at, cond_true, f20_eq, tr20, beq_self_eq_true, br_eq, cond_some, ev_bi_some, f38_val (q := [⟨cash, l[n].w.amt, l[n].cur⟩, ⟨l[n].w.acc, IntKind.i64.wrap (0 - l[n].w.amt), l[n].cur⟩]) (by simp [big]), sm_some, gv_some, Bool.not_true, cond_false, wrap_succ h hl]
    · simp [st18_0, st18_0_0]
  rw [f18_eq, tr18, h1]
  simp
theorem wrap_neg (a : Int) : IntKind.i64.wrap (a + IntKind.i64.wrap (0 - a)) = 0 := by
  simp [IntKind.wrap, IntKind.signed, IntKind.bits]
  split <;> split <;> omega
theorem l5_val (day cash : Int) {l : List Ent'} (hl : l.length ≤ big) : l5_0 (l.map (Ent'.av day cash), 0) = some (1, l.map (Ent'.av day cash), (l.length : Int)) := by
  rw [l5_0_eq]
  refine loop_steps (st := fun v => (st5_0 v).ev) (fun n => (l.map (Ent'.av day cash), (n : Int))) l.length 1 0 (Nat.zero_le _) (fun n _ h => ?_) ?_
  · have hok : okAt ksE (l.map (Ent'.av day cash)) (n : Int) = true := okAt_at (hkE day cash) h
    have h8 : viewOf (cellAt (l.map (Ent'.av day cash)) (n : Int) 8) = legs cash l[n] := by rw [cellAt_map h]; rfl
    have o1 : okAt ksW (legs cash l[n]) 0 = true := rfl
    have o2 : okAt ksW (legs cash l[n]) 1 = true := rfl
    have o3 : intOf (cellAt (legs cash l[n]) 0 1) = l[n].w.amt := rfl
    have o4 : intOf (cellAt (legs cash l[n]) 1 1) = IntKind.i64.wrap (0 - l[n].w.amt) := rfl
    simp only [st5_0, st5_0_0, List.length_map, lt_at h, hok, h8, o1, o2, o3, o4, ev_br, ev_at, cond_true, wrap_neg, bne_self_eq_false, cond_false, wrap_succ h hl]
  · simp [st5_0, st5_0_0]
theorem f5_val (x0 x1 x2 : List AV) (x3 x4 x5 x6 x7 x8 x9 x10 x11 x12 x13 x14 x15 x16 : Int) (ps : List Prd) (cs : List Acc) (x19 x20 x21 : List AV) {a : List Avl} {q : List Wai} (hp : ps.length ≤ big) (hc : cs.length ≤ big) (hq : okL q) (lm day : Int) :
    f5 x0 x1 x2 x3 x4 x5 x6 x7 x8 x9 x10 x11 x12 x13 x14 x15 x16 (EP ps) (EC cs) x19 x20 x21 lm (EA a) (EW q) day = some true := by
  rw [f5_eq, tr5, f7_val hq.1, f8_val]
  simp only [ev_bi_some, br_eq, cond_some, sm_some, gv_some, cond_true, ev_br, ev_at]
  by_cases hf : fewB a q = true
  · have hl : a.length ≤ 80 ∧ q.length ≤ 80 := by
      simp only [fewB, Bool.and_eq_true, Bool.not_eq_true', Bool.or_eq_false_iff, decide_eq_false_iff_not] at hf
      omega
    have hE : ∃ l : List Ent', (entR ps cs day x3 q).1 = l.map (Ent'.av day x3) ∧ l.length ≤ big := by
      unfold entR
      split
      · exact ⟨[], rfl, by simp [big]⟩
      · exact ⟨entQ ps cs day q, entL_eq ps cs day x3 q, by simp only [entQ, List.length_map, big]; omega⟩
    obtain ⟨l, hl1, hl2⟩ := hE
    simp only [f16_val x0 x1 x2 x3 x4 x5 x6 x7 x8 x9 x10 x11 x12 x13 x14 x15 x16 ps cs x19 x20 x21 hp hc hl.2, f17_val x0 x1 x2 x3 x4 x5 x6 x7 x8 x9 x10 x11 x12 x13 x14 x15 x16 ps cs x19 x20 x21 hp hc hl.2, ev_bi_some, hl1, f18_val day x3 hl2, l5_val day x3 hl2, hf, Bool.not_true, bne_self_eq_false, cond_false, ev_br, pj_some, if_true, ev_at]
    cases (bif bif decide (((EC cs).length : Int) > 12) then true else decide (((EP ps).length : Int) > 30) then true else false) <;> rfl
  · have : fewB a q = false := by simpa using hf
    rw [this]
    cases (bif decide (((EC cs).length : Int) > 12) then true else decide (((EP ps).length : Int) > 30)) <;> rfl

end Go.Proofs.H53

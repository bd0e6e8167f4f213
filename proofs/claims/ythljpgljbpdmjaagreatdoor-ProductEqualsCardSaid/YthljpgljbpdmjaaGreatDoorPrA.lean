/- Products over plain data. -/
import Derived.Test.YthljpgljbpdmjaaGreatDoorTyA
set_option linter.unusedVariables false
set_option linter.unusedSimpArgs false
set_option linter.unnecessarySimpa false
namespace Go.Tk
open Go Go.Eng
set_option maxRecDepth 20000
structure Tr where
  (from_ ppm : Int)
def Tr.av (x : Tr) : AV := .agg [.int .i64 x.from_, .int .i64 x.ppm]
abbrev ETr (l : List Tr) : List AV := l.map Tr.av
abbrev ksTr : List CS := [CS.int IntKind.i64, CS.int IntKind.i64]
theorem hkTr (h : Tr) : okCs ksTr (cellsA h.av) = true := rfl
theorem okTr {l : List Tr} {n : Nat} (h : n < l.length) : okAt ksTr (ETr l) (n : Int) = true := okAt_at hkTr h
theorem qtr0 {l : List Tr} {n : Nat} (h : n < l.length) : intOf (cellAt (ETr l) (n : Int) 0) = l[n].from_ := by rw [cellAt_map h]; rfl
theorem qtr1 {l : List Tr} {n : Nat} (h : n < l.length) : intOf (cellAt (ETr l) (n : Int) 1) = l[n].ppm := by rw [cellAt_map h]; rfl
structure Cu where
  (code : Bs) (digits : Int)
def Cu.av (x : Cu) : AV := .agg [.str x.code, .int .i64 x.digits]
abbrev EC (l : List Cu) : List AV := l.map Cu.av
theorem hkC (h : Cu) : okCs ksV (cellsA h.av) = true := rfl
theorem okC {l : List Cu} {n : Nat} (h : n < l.length) : okAt ksV (EC l) (n : Int) = true := okAt_at hkC h
theorem qc0 {l : List Cu} {n : Nat} (h : n < l.length) : strOf (cellAt (EC l) (n : Int) 0) = l[n].code := by rw [cellAt_map h]; rfl
structure Cal where
  (name : Bs) (wk hol : List AV)
def Cal.av (x : Cal) : AV := .agg [.str x.name, .view 1 x.wk, .view 1 x.hol]
abbrev EK (l : List Cal) : List AV := l.map Cal.av
abbrev ksK : List CS := [CS.str, CS.slice 1, CS.slice 1]
theorem hkK (h : Cal) : okCs ksK (cellsA h.av) = true := rfl
theorem okK {l : List Cal} {n : Nat} (h : n < l.length) : okAt ksK (EK l) (n : Int) = true := okAt_at hkK h
theorem qk0 {l : List Cal} {n : Nat} (h : n < l.length) : strOf (cellAt (EK l) (n : Int) 0) = l[n].name := by rw [cellAt_map h]; rfl
theorem qk1 {l : List Cal} {n : Nat} (h : n < l.length) : viewOf (cellAt (EK l) (n : Int) 1) = l[n].wk := by rw [cellAt_map h]; rfl
theorem qk2 {l : List Cal} {n : Nat} (h : n < l.length) : viewOf (cellAt (EK l) (n : Int) 2) = l[n].hol := by rw [cellAt_map h]; rfl
structure Fe where
  (name : Bs) (event : Int) (when_ amount : Ex)
def Fe.av (x : Fe) : AV := .agg [.str x.name, .int .i64 x.event, .int .i64 x.when_.op, .int .i64 x.when_.num, .str x.when_.txt, .view 4 (EX x.when_.args), .int .i64 x.amount.op, .int .i64 x.amount.num, .str x.amount.txt, .view 4 (EX x.amount.args)]
abbrev EF (l : List Fe) : List AV := l.map Fe.av
abbrev ksF : List CS := [CS.str, CS.int .i64, CS.int .i64, CS.int .i64, CS.str, CS.slice 4, CS.int .i64, CS.int .i64, CS.str, CS.slice 4]
theorem hkF (h : Fe) : okCs ksF (cellsA h.av) = true := rfl
theorem okF {l : List Fe} {n : Nat} (h : n < l.length) : okAt ksF (EF l) (n : Int) = true := okAt_at hkF h
theorem qf0 {l : List Fe} {n : Nat} (h : n < l.length) : strOf (cellAt (EF l) (n : Int) 0) = l[n].name := by rw [cellAt_map h]; rfl
theorem qf1 {l : List Fe} {n : Nat} (h : n < l.length) : intOf (cellAt (EF l) (n : Int) 1) = l[n].event := by rw [cellAt_map h]; rfl
theorem qf2 {l : List Fe} {n : Nat} (h : n < l.length) : intOf (cellAt (EF l) (n : Int) 2) = l[n].when_.op := by rw [cellAt_map h]; rfl
theorem qf3 {l : List Fe} {n : Nat} (h : n < l.length) : intOf (cellAt (EF l) (n : Int) 3) = l[n].when_.num := by rw [cellAt_map h]; rfl
theorem qf4 {l : List Fe} {n : Nat} (h : n < l.length) : strOf (cellAt (EF l) (n : Int) 4) = l[n].when_.txt := by rw [cellAt_map h]; rfl
theorem qf5 {l : List Fe} {n : Nat} (h : n < l.length) : viewOf (cellAt (EF l) (n : Int) 5) = EX l[n].when_.args := by rw [cellAt_map h]; rfl
theorem qf6 {l : List Fe} {n : Nat} (h : n < l.length) : intOf (cellAt (EF l) (n : Int) 6) = l[n].amount.op := by rw [cellAt_map h]; rfl
theorem qf7 {l : List Fe} {n : Nat} (h : n < l.length) : intOf (cellAt (EF l) (n : Int) 7) = l[n].amount.num := by rw [cellAt_map h]; rfl
theorem qf8 {l : List Fe} {n : Nat} (h : n < l.length) : strOf (cellAt (EF l) (n : Int) 8) = l[n].amount.txt := by rw [cellAt_map h]; rfl
theorem qf9 {l : List Fe} {n : Nat} (h : n < l.length) : viewOf (cellAt (EF l) (n : Int) 9) = EX l[n].amount.args := by rw [cellAt_map h]; rfl
structure Ru where
  (name : Bs) (window : Int) (amount : Ex)
def Ru.av (x : Ru) : AV := .agg [.str x.name, .int .i64 x.window, .int .i64 x.amount.op, .int .i64 x.amount.num, .str x.amount.txt, .view 4 (EX x.amount.args)]
abbrev ER (l : List Ru) : List AV := l.map Ru.av
abbrev ksR : List CS := [CS.str, CS.int .i64, CS.int .i64, CS.int .i64, CS.str, CS.slice 4]
theorem hkR (h : Ru) : okCs ksR (cellsA h.av) = true := rfl
theorem okR {l : List Ru} {n : Nat} (h : n < l.length) : okAt ksR (ER l) (n : Int) = true := okAt_at hkR h
theorem qr0 {l : List Ru} {n : Nat} (h : n < l.length) : strOf (cellAt (ER l) (n : Int) 0) = l[n].name := by rw [cellAt_map h]; rfl
theorem qr1 {l : List Ru} {n : Nat} (h : n < l.length) : intOf (cellAt (ER l) (n : Int) 1) = l[n].window := by rw [cellAt_map h]; rfl
theorem qr2 {l : List Ru} {n : Nat} (h : n < l.length) : intOf (cellAt (ER l) (n : Int) 2) = l[n].amount.op := by rw [cellAt_map h]; rfl
theorem qr3 {l : List Ru} {n : Nat} (h : n < l.length) : intOf (cellAt (ER l) (n : Int) 3) = l[n].amount.num := by rw [cellAt_map h]; rfl
theorem qr4 {l : List Ru} {n : Nat} (h : n < l.length) : strOf (cellAt (ER l) (n : Int) 4) = l[n].amount.txt := by rw [cellAt_map h]; rfl
theorem qr5 {l : List Ru} {n : Nat} (h : n < l.length) : viewOf (cellAt (ER l) (n : Int) 5) = EX l[n].amount.args := by rw [cellAt_map h]; rfl
structure In where
  (tiers : List Tr) (marg : Bool) (basis mode : Int) (keep : Bool)
structure Pr where
  (name cur cal : Bs) (from_ every over tax : Int) (cr de : In) (fees : List Fe) (rules : List Ru)
def ltB (c : Int) : Bool := decide (c ≥ 97) && decide (c ≤ 122)
def nmI (c : Int) : Bool := ltB c || (c == 95 || (decide (c ≥ 48) && decide (c ≤ 57)))
def nmB (s : Bs) : Bool := match s with
  | [] => false
  | c :: r => decide (r.length < 16) && (at8 ltB c && r.all (at8 nmI))
def badT (t : Tr) : Bool := decide (t.from_ < 0) || (decide (t.from_ > 1000000000000) || (decide (t.ppm < 0) || decide (t.ppm > 1000000)))
def dscT (l : List Tr) (i : Nat) : Bool := match l[i]?, l[i + 1]? with
  | some a, some b => decide (b.from_ ≤ a.from_)
  | _, _ => false
def tierS (l : List Tr) : Int :=
  if l.length > 6 then 5 else bif l.any badT then 1 else bif (List.range (l.length - 1)).any (dscT l) then 10 else match l with
    | [] => 0
    | t :: _ => bif t.from_ != 0 then 1 else 0
theorem br_or (a b : Bool) : br a (some true) (some b) = some (a || b) := by cases a <;> rfl
theorem br_and (a b : Bool) : br a (some b) (some false) = some (a && b) := by cases a <;> rfl
def intS (x : In) : Int := bif tierS x.tiers != 0 then tierS x.tiers else bif decide (x.basis < 1) || (decide (x.basis > 4) || (decide (x.mode < 1) || decide (x.mode > 6))) then 1 else 0
def varsP : List Va := [⟨[98, 97, 108, 97, 110, 99, 101], 2⟩, ⟨[108, 111, 119, 101, 115, 116], 2⟩, ⟨[118, 111, 108, 117, 109, 101], 2⟩, ⟨[97, 109, 111, 117, 110, 116], 2⟩, ⟨[99, 111, 117, 110, 116], 1⟩, ⟨[97, 103, 101], 1⟩, ⟨[100, 97, 121], 4⟩]
def feeS (x : Fe) : Int := bif !nmB x.name then 4 else bif decide (x.event < 1) || decide (x.event > 4) then 1 else bif checkS x.when_ varsP 5 != 0 then checkS x.when_ varsP 5 else checkS x.amount varsP 2
def ruleS (x : Ru) : Int := bif !nmB x.name then 4 else bif decide (x.window < 1) || decide (x.window > 3) then 1 else checkS x.amount varsP 2
def firstE {α : Type} (f : α → Int) : List α → Int
  | [] => 0
  | x :: l => bif f x != 0 then f x else firstE f l
theorem firstE_eq {α : Type} (f : α → Int) : ∀ l : List α, firstE f l = match l.find? (fun x => f x != 0) with | some x => f x | none => 0
  | [] => rfl
  | x :: l => by
    simp only [firstE, List.find?_cons]
    cases h : (f x != 0)
    · simp only [cond_false]; exact firstE_eq f l
    · rfl
def headS (p : Pr) (l : List Cu) (c : List Cal) : Int := bif !nmB p.name then 4 else bif !l.any (fun x => x.code == p.cur) then 14 else bif !c.any (fun x => x.name == p.cal) then 11 else
  bif !(decide (p.from_ ≥ 0) && decide (p.from_ ≤ 73048)) || (!(p.every == 1 || (p.every == 3 || (p.every == 6 || p.every == 12))) || (decide (p.over < 0) || (decide (p.over > 1000000000000) || (decide (p.tax < 0) || decide (p.tax > 1000000))))) then 1 else 0
def prS (p : Pr) (l : List Cu) (c : List Cal) : Int := bif headS p l c != 0 then headS p l c else bif intS p.cr != 0 then intS p.cr else bif intS p.de != 0 then intS p.de else
  bif decide (p.fees.length > 4) || decide (p.rules.length > 4) then 5 else bif firstE feeS p.fees != 0 then firstE feeS p.fees else firstE ruleS p.rules
def difB {α : Type} (eq : α → α → Bool) (a b : List α) (i : Nat) : Bool := match a[i]?, b[i]? with
  | some x, some y => !eq x y
  | _, _ => false
def eqT (x y : Tr) : Bool := x.from_ == y.from_ && (x.ppm == y.ppm && true)
def sameIn (a b : In) : Bool := bif a.tiers.length == b.tiers.length then !(List.range a.tiers.length).any (difB eqT a.tiers b.tiers) && ((a.marg == b.marg) && ((a.basis == b.basis) && ((a.mode == b.mode) && (a.keep == b.keep)))) else false
mutual
def sameX : Ex → Ex → Bool
  | .mk o n s l, .mk o' n' s' l' => (o == o') && ((n == n') && ((s == s') && sameXs l l'))
def sameXs : List Ex → List Ex → Bool
  | [], [] => true
  | x :: l, y :: m => sameX x y && sameXs l m
  | _, _ => false
end
def sameL {α : Type} (eq : α → α → Bool) (a b : List α) : Bool := bif a.length == b.length then !(List.range a.length).any (difB eq a b) else false
theorem any_succ (p : Nat → Bool) (n : Nat) : (List.range (n + 1)).any p = (p 0 || (List.range n).any fun i => p (i + 1)) := by
  rw [List.range_succ_eq_map, List.any_cons, List.any_map]; rfl
theorem sameXs_eq : ∀ a b : List Ex, sameXs a b = sameL sameX a b
  | [], [] => rfl
  | [], y :: m => by simp [sameXs, sameL]
  | x :: l, [] => by simp [sameXs, sameL]
  | x :: l, y :: m => by
    rw [sameXs, sameXs_eq l m]
    have h0 : difB sameX (x :: l) (y :: m) 0 = !sameX x y := by simp [difB]
    have hs : (fun i => difB sameX (x :: l) (y :: m) (i + 1)) = difB sameX l m := by funext i; simp [difB]
    simp only [sameL, List.length_cons, any_succ, h0, hs]
    by_cases h : l.length = m.length
    · simp [h]
    · have e1 : (l.length == m.length) = false := by simpa using h
      have e2 : (l.length + 1 == m.length + 1) = false := by simpa using h
      rw [e1, e2]; simp
def sameFe (x y : Fe) : Bool := (x.name == y.name) && ((x.event == y.event) && (sameX x.when_ y.when_ && sameX x.amount y.amount))
def sameRu (x y : Ru) : Bool := (x.name == y.name) && ((x.window == y.window) && sameX x.amount y.amount)
def samePr (p q : Pr) : Bool := bif (!(p.name == q.name)) || ((!(p.cur == q.cur)) || ((!(p.cal == q.cal)) || ((p.from_ != q.from_) || ((p.every != q.every) || ((p.over != q.over) || (p.tax != q.tax)))))) then false else
  bif !sameIn p.cr q.cr || !sameIn p.de q.de then false else sameL sameFe p.fees q.fees && sameL sameRu p.rules q.rules
def tallX : Nat → Ex → Bool
  | 0, _ => true
  | n + 1, e => decide (e.args.length > 8) || (decide (e.txt.length > 40) || e.args.any (tallX n))
def fewS (p : Pr) : Bool := bif ((decide (p.fees.length > 12) || decide (p.rules.length > 12)) || decide (p.cr.tiers.length > 12)) || decide (p.de.tiers.length > 12) then false else
  !p.fees.any (fun x => tallX 12 x.when_ || tallX 12 x.amount) && !p.rules.any (fun x => tallX 12 x.amount)
theorem sameL_refl {α : Type} {eq : α → α → Bool} {l : List α} (h : ∀ x ∈ l, eq x x = true) : sameL eq l l = true := by
  have : (List.range l.length).any (difB eq l l) = false := by
    rw [List.any_eq_false]
    intro i hi
    have hi' : i < l.length := by simpa using hi
    simp [difB, List.getElem?_eq_getElem hi', h _ (List.getElem_mem hi')]
  simp [sameL, this]
theorem sameX_refl : ∀ e : Ex, sameX e e = true := by
  intro e
  induction e using Ex.ind with
  | h o n s l ih => rw [sameX, sameXs_eq, sameL_refl ih]; simp
theorem sameFe_refl (x : Fe) : sameFe x x = true := by simp [sameFe, sameX_refl]
theorem sameRu_refl (x : Ru) : sameRu x x = true := by simp [sameRu, sameX_refl]
theorem sameIn_refl (x : In) : sameIn x x = true := by
  have : (List.range x.tiers.length).any (difB eqT x.tiers x.tiers) = false := by
    rw [List.any_eq_false]
    intro i hi
    have hi' : i < x.tiers.length := by simpa using hi
    simp [difB, List.getElem?_eq_getElem hi', eqT]
  simp [sameIn, this]
theorem sameL_symm {α : Type} {eq : α → α → Bool} : ∀ {a b : List α}, (∀ x ∈ a, ∀ y, eq x y = eq y x) → sameL eq a b = sameL eq b a := by
  intro a b h
  unfold sameL
  by_cases hl : a.length = b.length
  · have e1 : (a.length == b.length) = true := by simp [hl]
    have e2 : (b.length == a.length) = true := by simp [hl]
    rw [e1, e2, hl]
    have : ∀ i, difB eq a b i = difB eq b a i := by
      intro i
      unfold difB
      cases h1 : a[i]? with
      | none => cases h2 : b[i]? <;> rfl
      | some x =>
        cases h2 : b[i]? with
        | none => rfl
        | some y => simp only [h x (List.mem_of_getElem? h1) y]
    rw [show difB eq a b = difB eq b a from funext this]
  · have e1 : (a.length == b.length) = false := by simpa using hl
    have e2 : (b.length == a.length) = false := by simpa using Ne.symm hl
    rw [e1, e2]; rfl
theorem sameX_symm : ∀ e f : Ex, sameX e f = sameX f e := by
  intro e
  induction e using Ex.ind with
  | h o n s l ih =>
    intro f
    obtain ⟨o', n', s', m⟩ := f
    rw [sameX, sameX, sameXs_eq, sameXs_eq, sameL_symm ih, Bool.beq_comm (a := o), Bool.beq_comm (a := n), Bool.beq_comm (a := s)]
theorem sameFe_symm (x y : Fe) : sameFe x y = sameFe y x := by
  rw [sameFe, sameFe, sameX_symm x.when_, sameX_symm x.amount, Bool.beq_comm (a := x.name), Bool.beq_comm (a := x.event)]
theorem sameRu_symm (x y : Ru) : sameRu x y = sameRu y x := by
  rw [sameRu, sameRu, sameX_symm x.amount, Bool.beq_comm (a := x.name), Bool.beq_comm (a := x.window)]
theorem eqT_symm (x y : Tr) : eqT x y = eqT y x := by
  rw [eqT, eqT, Bool.beq_comm (a := x.from_), Bool.beq_comm (a := x.ppm)]
theorem sameIn_eq (a b : In) : sameIn a b = (sameL eqT a.tiers b.tiers && ((a.marg == b.marg) && ((a.basis == b.basis) && ((a.mode == b.mode) && (a.keep == b.keep))))) := by
  unfold sameIn sameL
  cases (a.tiers.length == b.tiers.length) <;> simp
theorem sameIn_symm (a b : In) : sameIn a b = sameIn b a := by
  rw [sameIn_eq, sameIn_eq, sameL_symm fun x _ y => eqT_symm x y, Bool.beq_comm (a := a.marg), Bool.beq_comm (a := a.basis), Bool.beq_comm (a := a.mode), Bool.beq_comm (a := a.keep)]
theorem samePr_symm (p q : Pr) : samePr p q = samePr q p := by
  have c : ∀ a b : Int, (a != b) = (b != a) := fun a b => by simp only [bne, Bool.beq_comm (a := a)]
  rw [samePr, samePr, sameIn_symm p.cr, sameIn_symm p.de, sameL_symm (a := p.fees) fun x _ y => sameFe_symm x y, sameL_symm (a := p.rules) fun x _ y => sameRu_symm x y, Bool.beq_comm (a := p.name), Bool.beq_comm (a := p.cur), Bool.beq_comm (a := p.cal), c p.from_, c p.every, c p.over, c p.tax]
theorem samePr_refl (p : Pr) : samePr p p = true := by
  simp [samePr, sameIn_refl, sameL_refl (eq := sameFe) fun x _ => sameFe_refl x, sameL_refl (eq := sameRu) fun x _ => sameRu_refl x]
end Go.Tk

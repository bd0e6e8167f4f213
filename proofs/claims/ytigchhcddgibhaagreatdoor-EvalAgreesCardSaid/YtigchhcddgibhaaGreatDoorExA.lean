/- Expressions over plain data. -/
import Derived.Test.YtigchhcddgibhaaGreatDoorTkA
set_option linter.unusedVariables false
set_option linter.unusedSimpArgs false
set_option linter.unnecessarySimpa false
namespace Go.Tk
open Go Go.Eng
set_option maxRecDepth 20000
inductive Ex where
 | mk (op num : Int) (txt : Bs) (args : List Ex)
namespace Ex
def op : Ex → Int | mk o _ _ _ => o
def num : Ex → Int | mk _ n _ _ => n
def txt : Ex → Bs | mk _ _ s _ => s
def args : Ex → List Ex | mk _ _ _ l => l
theorem ind {P : Ex → Prop} (h : ∀ o n s l, (∀ x ∈ l, P x) → P (mk o n s l)) : ∀ e, P e := fun e =>
 Ex.rec (motive_1 := P) (motive_2 := fun l => ∀ x ∈ l, P x) (fun o n s l ih => h o n s l ih) (by intro x hx; cases hx)
  (fun e l he hl x hx => by
   rcases List.mem_cons.1 hx with rfl | hx
   ·exact he
   ·exact hl x hx) e
mutual
def av : Ex → AV
 | mk o n s l => .agg [.int .i64 o, .int .i64 n, .str s, .view 4 (avs l)]
def avs : List Ex → List AV
 | [] => []
 | e :: l => av e :: avs l
end
theorem avs_eq : ∀ l : List Ex, avs l = l.map av
 | [] => rfl
 | e :: l => by simp [avs, avs_eq l]
mutual
def nodes : Ex → Nat
 | mk _ _ _ l => nodesL l + 1
def nodesL : List Ex → Nat
 | [] => 0
 | e :: l => nodes e + nodesL l
end
mutual
def dep : Ex → Nat
 | mk _ _ _ l => depL l + 1
def depL : List Ex → Nat
 | [] => 0
 | e :: l => max (dep e) (depL l)
end
mutual
def allX (p : Ex → Bool) : Ex → Bool
 | mk o n s l => p (mk o n s l) && allL p l
def allL (p : Ex → Bool) : List Ex → Bool
 | [] => true
 | e :: l => allX p e && allL p l
end
theorem qIP (p : Ex → Bool) : ∀ l : List Ex, allL p l = l.all (allX p)
 | [] => rfl
 | e :: l => by simp [allL, qIP p l]
theorem allX_eq (p : Ex → Bool) (e : Ex) : allX p e = (p e && e.args.all (allX p)) := by
 cases e; simp [allX, qIP, args]
theorem nodesL_mem {x : Ex} : ∀ {l : List Ex}, x ∈ l → nodes x ≤ nodesL l
 | e :: l, h => by
  simp only [nodesL]
  rcases List.mem_cons.1 h with rfl | h
  ·omega
  ·have := nodesL_mem h; omega
theorem depL_mem {x : Ex} : ∀ {l : List Ex}, x ∈ l → dep x ≤ depL l
 | e :: l, h => by
  simp only [depL]
  rcases List.mem_cons.1 h with rfl | h
  ·omega
  ·have := depL_mem h; omega
theorem nodes_pos (e : Ex) : 1 ≤ nodes e := by cases e; simp [nodes]
theorem nodesL_len : ∀ l : List Ex, l.length ≤ nodesL l
 | [] => Nat.le_refl _
 | e :: l => by
  have := nodesL_len l
  have := nodes_pos e
  simp only [nodesL, List.length_cons]; omega
theorem nodesL_app : ∀ (a b : List Ex), nodesL (a ++ b) = nodesL a + nodesL b
 | [], b => by simp [nodesL]
 | e :: a, b => by simp only [List.cons_append, nodesL, nodesL_app a b]; omega
theorem nodes_fold : ∀ (l : List Ex) (a : Nat), l.foldl (fun a x => a + nodes x) a = a + nodesL l
 | [], a => rfl
 | e :: l, a => by simp only [List.foldl_cons, nodesL, nodes_fold l]; omega
theorem dep_fold : ∀ (l : List Ex) (a : Nat), l.foldl (fun a x => max a (dep x)) a = max a (depL l)
 | [], a => by simp [depL]
 | e :: l, a => by simp only [List.foldl_cons, depL, dep_fold l]; omega
mutual
theorem dep_le : ∀ e : Ex, dep e ≤ nodes e
 | mk _ _ _ l => by have := qI7 l; simp only [dep, nodes]; omega
theorem qI7 : ∀ l : List Ex, depL l ≤ nodesL l
 | [] => Nat.le_refl _
 | e :: l => by
  have := dep_le e
  have := qI7 l
  simp only [depL, nodesL]; omega
end
end Ex
abbrev EX (l : List Ex) : List AV := l.map Ex.av
theorem qCW (e : Ex) : e.av = .agg [.int .i64 e.op, .int .i64 e.num, .str e.txt, .view 4 (EX e.args)] := by
 cases e; simp [Ex.av, Ex.avs_eq, Ex.op, Ex.num, Ex.txt, Ex.args]
abbrev ksX : List CS := [CS.int IntKind.i64, CS.int IntKind.i64, CS.str, CS.slice 4]
theorem hkX (e : Ex) : qlP ksX (qad e.av) = true := by rw [qCW]; rfl
theorem okX {l : List Ex} {n : Nat} (h : n < l.length) : qaB ksX (EX l) (n : Int) = true := qiZ hkX h
theorem qx0 {l : List Ex} {n : Nat} (h : n < l.length) : intOf (cellAt (EX l) (n : Int) 0) = l[n].op := by rw [qa1 h, qCW]; rfl
theorem qx1 {l : List Ex} {n : Nat} (h : n < l.length) : intOf (cellAt (EX l) (n : Int) 1) = l[n].num := by rw [qa1 h, qCW]; rfl
theorem qx2 {l : List Ex} {n : Nat} (h : n < l.length) : strOf (cellAt (EX l) (n : Int) 2) = l[n].txt := by rw [qa1 h, qCW]; rfl
theorem qx3 {l : List Ex} {n : Nat} (h : n < l.length) : qal (cellAt (EX l) (n : Int) 3) = EX l[n].args := by rw [qa1 h, qCW]; rfl
theorem qVD (e : Ex) : e.dep = Ex.depL e.args + 1 := by cases e; rfl
def zdM (e : Ex) : Bool := decide (e.args.length ≤ big)
def Wd (e : Ex) : Prop := e.allX zdM = true
theorem Wd.len {e : Ex} (h : Wd e) : e.args.length ≤ big := by
 rw [Wd, Ex.allX_eq, Bool.and_eq_true] at h
 exact of_decide_eq_true h.1
theorem Wd.arg {e x : Ex} (h : Wd e) (hx : x ∈ e.args) : Wd x := by
 rw [Wd, Ex.allX_eq, Bool.and_eq_true, List.all_eq_true] at h
 exact h.2 x hx
def qaV (op : Int) : Int :=
 if op = 1 ∨ op = 2 ∨ op = 3 ∨ op = 4 then 0 else if op = 9 ∨ op = 16 then 1 else if op = 19 then 3 else if 5 ≤ op ∧ op ≤ 18 then 2 else -1
def qgt (op : Int) : Int := if op = 1 then 9223372036854775807 else if op = 2 then 1000000000000 else if op = 3 then 1000000 else 0
def qas (e : Ex) : Bool := qaV e.op == (e.args.length : Int) && (decide (e.num ≥ 0) && (decide (e.num ≤ qgt e.op) && (e.txt == [] || e.op == 4)))
def qj8 (s : Bs) : Bool := (qjY s).2.2 == 0 && ((qjY s).1.length == 1 && match (qjY s).1.head? with
 | some t => t.kind == 1 && t.text == s
 | none => false)
def qbp (e : Ex) : Bool := e.op != 4 || qj8 e.txt
def qbr (e : Ex) : Int := bif decide (e.nodes > 64) || decide (e.dep > 8) then 5 else bif !e.allX qas then 1 else bif !e.allX qbp then 4 else 0
theorem qj7 {e : Ex} (h : qbr e = 0) : e.nodes ≤ 64 ∧ e.dep ≤ 8 ∧ e.allX qas = true ∧ e.allX qbp = true := by
 unfold qbr at h
 cases h1 : decide (e.nodes > 64) <;> cases h2 : decide (e.dep > 8) <;> cases h3 : e.allX qas <;> cases h4 : e.allX qbp <;> simp [h1, h2, h3, h4] at h
 simp at h1 h2
 exact ⟨h1, h2, rfl, rfl⟩
def qq2 (l : List Bs) (s : Bs) : List Bs :=
 if l[(l.takeWhile (qb9 · s)).length]? = some s then l else l.take (l.takeWhile (qb9 · s)).length ++ [s] ++ l.drop (l.takeWhile (qb9 · s)).length
theorem qBs {l : List Bs} {s x : Bs} : x ∈ qq2 l s ↔ x ∈ l ∨ x = s := by
 unfold qq2
 split
 ·rename_i h
  have := List.mem_of_getElem? h
  constructor
  ·exact .inl
  ·rintro (h | rfl)
   ·exact h
   ·exact this
 ·generalize (l.takeWhile (qb9 · s)).length = k
  have : x ∈ l ↔ x ∈ l.take k ∨ x ∈ l.drop k := by rw [← List.mem_append, List.take_append_drop]
  simp only [List.mem_append, List.mem_singleton, this]
  constructor
  ·rintro ((h | h) | h)
   ·exact .inl (.inl h)
   ·exact .inr h
   ·exact .inl (.inr h)
  ·rintro ((h | h) | h)
   ·exact .inl (.inl h)
   ·exact .inr h
   ·exact .inl (.inr h)
theorem qBr (l : List Bs) (s : Bs) : (qq2 l s).length ≤ l.length + 1 := by
 unfold qq2
 split
 ·omega
 ·simp; omega
theorem qlX {x : Bs} : ∀ {ns l : List Bs}, x ∈ ns.foldl qq2 l ↔ x ∈ l ∨ x ∈ ns
 | [], l => by simp
 | s :: ns, l => by
  rw [List.foldl_cons, qlX, qBs, List.mem_cons, or_assoc]
theorem qtK : ∀ (ns l : List Bs), (ns.foldl qq2 l).length ≤ l.length + ns.length
 | [], l => by simp
 | s :: ns, l => by
  have := qtK ns (qq2 l s)
  have := qBr l s
  simp only [List.foldl_cons, List.length_cons]; omega
mutual
def Ex.names : Ex → List Bs
 | .mk o _ s l => Ex.namesL (if o = 4 then [s] else []) l
def Ex.namesL : List Bs → List Ex → List Bs
 | acc, [] => acc
 | acc, e :: l => Ex.namesL ((Ex.names e).foldl qq2 acc) l
end
mutual
theorem qps : ∀ e : Ex, e.names.length ≤ e.nodes
 | .mk o n s l => by
  have := qsA (if o = 4 then [s] else []) l
  simp only [Ex.names, Ex.nodes]
  split at this <;> simp_all <;> omega
theorem qsA : ∀ (acc : List Bs) (l : List Ex), (Ex.namesL acc l).length ≤ acc.length + Ex.nodesL l
 | acc, [] => by simp [Ex.namesL]
 | acc, e :: l => by
  have h1 := qps e
  have h2 := qtK e.names acc
  have h3 := qsA (e.names.foldl qq2 acc) l
  simp only [Ex.namesL, Ex.nodesL]; omega
end
mutual
theorem qxf : ∀ e : Ex, e.names.all qj8 = e.allX qbp
 | .mk o n s l => by
  simp only [Ex.names, Ex.allX, qsz, qbp, Ex.op, Ex.txt]
  by_cases h : o = 4 <;> simp [h]
theorem qsz : ∀ (acc : List Bs) (l : List Ex), (Ex.namesL acc l).all qj8 = (acc.all qj8 && Ex.allL qbp l)
 | acc, [] => by simp [Ex.namesL, Ex.allL]
 | acc, e :: l => by
  have h1 := qxf e
  simp only [Ex.namesL, Ex.allL, qsz]
  have : (e.names.foldl qq2 acc).all qj8 = (acc.all qj8 && e.names.all qj8) := by
   rw [Bool.eq_iff_iff, Bool.and_eq_true, List.all_eq_true, List.all_eq_true, List.all_eq_true]
   constructor
   ·exact fun h => ⟨fun x hx => h x (qlX.2 (.inl hx)), fun x hx => h x (qlX.2 (.inr hx))⟩
   ·rintro ⟨h, h'⟩ x hx
    exact (qlX.1 hx).elim (h x) (h' x)
  rw [this, h1, Bool.and_assoc]
end
end Go.Tk

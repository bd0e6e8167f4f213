/- token.Join over plain data, if it is known which tokens are valid. -/
import Derived.Test.YtoeknkhpjdomhaaGreatDoorTkA
import Derived.Test.YtoeknkhpjdomhaaGreatDoorE3
set_option linter.unusedVariables false
set_option linter.unusedSimpArgs false
set_option linter.unnecessarySimpa false
namespace Go.Tk
open Go Go.Eng
set_option maxRecDepth 20000
def vO (call : qaF) (v : Nat) (t : Tok) : Option Bool := match call v [t.av] [] with
 | some (.ret (.bool b), []) => some b
 | _ => none
def qmj (call : qaF) (v : Nat) : Int → List Tok → Option Bool
 | _, [] => some true
 | n, t :: l => match vO call v t with
  | none => none
  | some false => some false
  | some true => if t.line < n then some false else qmj call v t.line l
def jnF : Nat → Int → Bs → List Tok → Bs × Int
 | _, _, acc, [] => (acc, 0)
 | i, n, acc, t :: l =>
  if t.line - n > 2048 then ([], 5)
  else if 2048 < (acc ++ List.replicate (t.line - n).toNat 10 ++ (if i > 0 ∧ t.line = n then [32] else []) ++ t.text).length then ([], 5)
  else jnF (i + 1) t.line (acc ++ List.replicate (t.line - n).toNat 10 ++ (if i > 0 ∧ t.line = n then [32] else []) ++ t.text) l
def qCl : AV → Option Tok
 | .agg [.int .i64 k, .int .i64 n, .str s] => some ⟨k, n, s⟩
 | _ => none
def qjh : List AV → Option (List Tok)
 | [] => some []
 | x :: l => match qCl x, qjh l with
  | some t, some ts => some (t :: ts)
  | _, _ => none
theorem qmd : ∀ l : List Tok, qjh (ET l) = some l
 | [] => rfl
 | t :: l => by
  have := qmd l
  simp only [List.map_cons, qjh, this]
  rfl
theorem qh2 : ∀ {es : List AV} {l : List Tok}, qjh es = some l → es = ET l
 | [], l, h => by cases h; rfl
 | x :: es, l, h => by
  simp only [qjh] at h
  split at h
  ·rename_i t ts h1 h2
   cases h
   rw [qh2 h2]
   show x :: ET ts = t.av :: ET ts
   congr 1
   unfold qCl at h1
   split at h1
   ·cases h1; rfl
   ·cases h1
  ·cases h
def qsW (l : List Tok) : Bool := decide (l.length ≤ 1000000) && l.all fun t => decide (t.text.length ≤ 1000000) && (decide (-9223372036854775808 ≤ t.line) && decide (t.line ≤ 9223372036854775807))
def qfB (call : qaF) (v : Nat) (l : List Tok) : Option (Bs × Int) := match qmj call v 1 l with
 | none => none
 | some false => some ([], 1)
 | some true => some (jnF 0 1 [] l)
def qoK (v : Nat) (call : qaF) : List AV → Heap → Option (Res × Heap)
 | [.view _ es], [] => match qjh es with
  | some l => if qsW l = true then match qfB call v l with
   | some r => some (.ret (.tup [.str r.1, .int .i64 r.2]), [])
   | none => none else none
  | none => none
 | _, _ => none
theorem qzB {c c' : qaF} (h : ∀ f a h r, c f a h = some r → c' f a h = some r) {v : Nat} {t : Tok} {b : Bool} (hb : vO c v t = some b) : vO c' v t = some b := by
 unfold vO at hb ⊢
 cases hq : c v [t.av] [] with
 | none => rw [hq] at hb; cases hb
 | some r => rw [hq] at hb; rw [h _ _ _ _ hq]; exact hb
theorem qk1 {c c' : qaF} (h : ∀ f a h r, c f a h = some r → c' f a h = some r) {v : Nat} : ∀ {l : List Tok} {n : Int} {b : Bool}, qmj c v n l = some b → qmj c' v n l = some b
 | [], n, b, hb => hb
 | t :: l, n, b, hb => by
  simp only [qmj] at hb ⊢
  cases hv : vO c v t with
  | none => rw [hv] at hb; cases hb
  | some x =>
   rw [qzB h hv]
   rw [hv] at hb
   cases x
   ·exact hb
   ·simp only at hb ⊢
    split at hb
    ·rw [if_pos (by assumption)]; exact hb
    ·rw [if_neg (by assumption)]; exact qk1 h hb
theorem qoM {c c' : qaF} (h : ∀ f a h r, c f a h = some r → c' f a h = some r) {v : Nat} {l : List Tok} {r : Bs × Int} (hr : qfB c v l = some r) : qfB c' v l = some r := by
 unfold qfB at hr ⊢
 cases hc : qmj c v 1 l with
 | none => rw [hc] at hr; cases hr
 | some b => rw [qk1 h hc]; rw [hc] at hr; exact hr
def qeW (v : Nat) : Seen where
 g := qoK v
 mono := by
  intro c c' h a hp r hr
  unfold qoK at hr ⊢
  split at hr
  ·split at hr
   ·rename_i l hl
    split at hr
    ·rename_i hb
     rw [if_pos hb]
     cases hq : qfB c v l with
     | none => rw [hq] at hr; cases hr
     | some r' => rw [qoM h hq]; rw [hq] at hr; exact hr
    ·cases hr
   ·cases hr
  ·cases hr
theorem qoL {v : Nat} {call : qaF} {a : List AV} {h : Heap} {r : Res × Heap} (hg : qoK v call a h = some r) : ∃ sz l x, a = [.view sz (ET l)] ∧ h = [] ∧ qsW l = true ∧ qfB call v l = some x ∧ r = (.ret (.tup [.str x.1, .int .i64 x.2]), []) := by
 unfold qoK at hg
 split at hg
 ·rename_i sz es
  split at hg
  ·rename_i l hl
   split at hg
   ·rename_i hb
    split at hg
    ·rename_i x hx
     cases hg
     exact ⟨sz, l, x, by rw [qh2 hl], rfl, hb, hx, rfl⟩
    ·cases hg
   ·cases hg
  ·cases hg
 ·cases hg
def qf3 (V : Tok → Bool) : Int → List Tok → Bool
 | _, [] => true
 | n, t :: l => V t && (decide (n ≤ t.line) && qf3 V t.line l)
def qex (V : Tok → Bool) (l : List Tok) : Bs × Int := bif qf3 V 1 l then jnF 0 1 [] l else ([], 1)
theorem qqb {c : qaF} {v : Nat} {V : Tok → Bool} : ∀ {l : List Tok} {n : Int}, (∀ t ∈ l, vO c v t = some (V t)) → qmj c v n l = some (qf3 V n l)
 | [], _, _ => rfl
 | t :: l, n, h => by
  have ih := fun n => qqb (c := c) (v := v) (V := V) (l := l) (n := n) fun t ht => h t (by simp [ht])
  simp only [qmj, qf3, h t (by simp), ih]
  cases V t
  ·rfl
  ·simp only [Bool.true_and]
   by_cases hl : t.line < n
   ·rw [if_pos hl, decide_eq_false (by omega)]; rfl
   ·rw [if_neg hl, decide_eq_true (by omega)]; rfl
theorem qt5 {c : qaF} {v : Nat} {V : Tok → Bool} {l : List Tok} (h : ∀ t ∈ l, vO c v t = some (V t)) : qfB c v l = some (qex V l) := by
 unfold qfB qex
 rw [qqb h]
 cases qf3 V 1 l <;> rfl
theorem qoN {IP : Prog} {f v : Nat} (hF : IP.fn f = none) (hS : IP.spec f = none) (hs : IP.seen f = some (qeW v)) {V : Tok → Bool} {l : List Tok} (hb : qsW l = true) (hV : ∀ t ∈ l, qa3 IP v [t.av] [] = some (.ret (.bool (V t)), [])) :
  qa3 IP f [.view 3 (ET l)] [] = some (.ret (.tup [.str (qex V l).1, .int .i64 (qex V l).2]), []) := by
 have hn : ∃ n, ∀ t ∈ l, (qal IP n).1 v [t.av] [] = some (.ret (.bool (V t)), []) := by
  clear hb
  induction l with
  | nil => exact ⟨0, fun t ht => by cases ht⟩
  | cons t l ih =>
   obtain ⟨n, hn⟩ := ih fun t ht => hV t (by simp [ht])
   obtain ⟨m, hm⟩ := qcH.1 (hV t (by simp))
   refine ⟨max n m, fun x hx => ?_⟩
   rcases List.mem_cons.1 hx with rfl | hx
   ·exact (qa5 (Nat.le_max_right n m)).1 _ _ _ _ hm
   ·exact (qa5 (Nat.le_max_left n m)).1 _ _ _ _ (hn x hx)
 obtain ⟨n, hn⟩ := hn
 refine qod hF hS hs (n := n) ?_
 have e : (qeW v).g = qoK v := rfl
 rw [e]
 unfold qoK
 simp only [qmd, if_pos hb]
 rw [qt5 (V := V) fun t ht => by unfold vO; rw [hn t ht]]
noncomputable def jB (IP : Prog) (f : Nat) (es : List AV) : Bool := @decide (∃ s n, qa3 IP f [.view 3 es] [] = some (.ret (.tup [.str s, .int .i64 n]), [])) (Classical.propDecidable _)
open Classical in
noncomputable def jS (IP : Prog) (f : Nat) (es : List AV) : Bs := if h : ∃ s n, qa3 IP f [.view 3 es] [] = some (.ret (.tup [.str s, .int .i64 n]), []) then h.choose else []
open Classical in
noncomputable def jN (IP : Prog) (f : Nat) (es : List AV) : Int := if h : ∃ s n, qa3 IP f [.view 3 es] [] = some (.ret (.tup [.str s, .int .i64 n]), []) then h.choose_spec.choose else 0
theorem qD7 {IP : Prog} {f : Nat} {es : List AV} {s : Bs} {n : Int} (h : qa3 IP f [.view 3 es] [] = some (.ret (.tup [.str s, .int .i64 n]), [])) : jB IP f es = true ∧ jS IP f es = s ∧ jN IP f es = n := by
 have hx : ∃ s n, qa3 IP f [.view 3 es] [] = some (.ret (.tup [.str s, .int .i64 n]), []) := ⟨s, n, h⟩
 refine ⟨by unfold jB; exact @decide_eq_true _ (Classical.propDecidable _) hx, ?_, ?_⟩
 ·unfold jS; rw [dif_pos hx]
  have := h.symm.trans hx.choose_spec.choose_spec
  simp only [Option.some.injEq, Prod.mk.injEq, Res.ret.injEq, AV.tup.injEq, List.cons.injEq, AV.str.injEq, and_true] at this
  exact this.1.symm
 ·unfold jN; rw [dif_pos hx]
  have := h.symm.trans hx.choose_spec.choose_spec
  simp only [Option.some.injEq, Prod.mk.injEq, Res.ret.injEq, AV.tup.injEq, List.cons.injEq, AV.int.injEq, and_true, true_and] at this
  exact this.2.symm
theorem qBd {IP : Prog} {f : Nat} {es : List AV} (h : jB IP f es = true) : qa3 IP f [.view 3 es] [] = some (.ret (.tup [.str (jS IP f es), .int .i64 (jN IP f es)]), []) := by
 have hx : ∃ s n, qa3 IP f [.view 3 es] [] = some (.ret (.tup [.str s, .int .i64 n]), []) := by
  unfold jB at h; exact @of_decide_eq_true _ (Classical.propDecidable _) h
 obtain ⟨s, n, hc⟩ := hx
 obtain ⟨_, h2, h3⟩ := qD7 hc
 rw [h2, h3]; exact hc
end Go.Tk

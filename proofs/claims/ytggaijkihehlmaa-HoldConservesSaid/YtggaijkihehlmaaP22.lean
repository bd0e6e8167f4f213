/- The program of chapter 22 for the machine, its holds, and its closed part. -/
import Derived.Test.YtggaijkihehlmaaE2
import Derived.Test.YtggaijkihehlmaaIr22
import Derived.KernelRfl
set_option linter.unusedVariables false
set_option linter.unusedSimpArgs false
set_option linter.unnecessarySimpa false
namespace Go.Proofs.H22
open Go Go.Eng

set_option maxRecDepth 20000

abbrev ks6 : List CS := [.int .i64, .int .i64, .int .i64, .int .i64, .int .i64, .str]

def IP : Prog := { fn := lookF tab, mv := fun f => f == 40, fresh := fun f => f == 39 || f == 40, kinds := fun n => match n with
  | 6 => some (true, ks6)
  | 1 => some (false, [.int .i64])
  | _ => none }
def inl : Nat → Option Fun := lookF tab

theorem live8 : callO IP 8 [] [] = some (.ret (.bool true), []) := callO_iff.2 ⟨40, by kernel_rfl⟩

structure H where
  (id acc amt frm to : Int)
  key : List UInt8
deriving DecidableEq

def H.av (h : H) : AV := .agg [.int .i64 h.id, .int .i64 h.acc, .int .i64 h.amt, .int .i64 h.frm, .int .i64 h.to, .str h.key]

def ci (x : AV) (j : Nat) : Int := intOf (((cellsA x)[j]?).getD .junk)
def cs (x : AV) (j : Nat) : List UInt8 := strOf (((cellsA x)[j]?).getD .junk)

def toH (x : AV) : H := ⟨ci x 0, ci x 1, ci x 2, ci x 3, ci x 4, cs x 5⟩

def isH : AV → Bool
  | .agg [.int .i64 _, .int .i64 _, .int .i64 c, .int .i64 _, .int .i64 _, .str s] => decide (s.length ≤ 9223372036854775807) && decide (c ≤ 9223372036854775807)
  | _ => false

theorem toH_av (h : H) : toH h.av = h := rfl
theorem isH_av (h : H) : isH h.av = (decide (h.key.length ≤ 9223372036854775807) && decide (h.amt ≤ 9223372036854775807)) := rfl
theorem av_toH {x : AV} (h : isH x = true) : (toH x).av = x := by
  unfold isH at h
  split at h
  · rfl
  · cases h

def big : Nat := 9223372036854775807

def vw (l : List H) : AV := .view 6 (l.map H.av)

theorem map_toH (l : List H) : (l.map H.av).map toH = l := by
  rw [List.map_map]
  have : toH ∘ H.av = id := by funext h; exact toH_av h
  simp [this]

def H0 : H := ⟨0, 0, 0, 0, 0, []⟩
/-- The i-th hold. -/
def gt (l : List H) (i : Nat) : H := l[i]?.getD H0

theorem ok_at (l : List H) (i : Nat) : okAt ks6 (l.map H.av) (i : Int) = decide (i < l.length) := by
  simp only [okAt, atIdx, Int.toNat_natCast, List.getElem?_map]
  by_cases h : i < l.length
  · simp [h]; rfl
  · simp [h]

theorem cell_at (l : List H) (i j : Nat) : cellAt (l.map H.av) (i : Int) j = if i < l.length then ((cellsA (gt l i).av)[j]?).getD .junk else .junk := by
  simp only [cellAt, atIdx, Int.toNat_natCast, List.getElem?_map, gt]
  by_cases h : i < l.length
  · simp [h]
  · simp [h, cellsA]
    cases j <;> simp

theorem gt_out {l : List H} {i : Nat} (h : ¬ i < l.length) : gt l i = H0 := by simp [gt, h]

theorem c0 (l : List H) (i : Nat) : intOf (cellAt (l.map H.av) (i : Int) 0) = (gt l i).id := by rw [cell_at]; split; rfl; rename_i h; rw [gt_out h]; rfl
theorem c1 (l : List H) (i : Nat) : intOf (cellAt (l.map H.av) (i : Int) 1) = (gt l i).acc := by rw [cell_at]; split; rfl; rename_i h; rw [gt_out h]; rfl
theorem c2 (l : List H) (i : Nat) : intOf (cellAt (l.map H.av) (i : Int) 2) = (gt l i).amt := by rw [cell_at]; split; rfl; rename_i h; rw [gt_out h]; rfl
theorem c3 (l : List H) (i : Nat) : intOf (cellAt (l.map H.av) (i : Int) 3) = (gt l i).frm := by rw [cell_at]; split; rfl; rename_i h; rw [gt_out h]; rfl
theorem c4 (l : List H) (i : Nat) : intOf (cellAt (l.map H.av) (i : Int) 4) = (gt l i).to := by rw [cell_at]; split; rfl; rename_i h; rw [gt_out h]; rfl
theorem c5 (l : List H) (i : Nat) : strOf (cellAt (l.map H.av) (i : Int) 5) = (gt l i).key := by rw [cell_at]; split; rfl; rename_i h; rw [gt_out h]; rfl

theorem br_pos {R : Type} {b : Bool} {x y : R} (h : b = true) : br b x y = x := by rw [h]; rfl
theorem br_neg {R : Type} {b : Bool} {x y : R} (h : b = false) : br b x y = y := by rw [h]; rfl

theorem wrap64 {n : Int} (h1 : -9223372036854775808 ≤ n) (h2 : n ≤ 9223372036854775807) : IntKind.i64.wrap n = n := by
  simp [IntKind.wrap, IntKind.signed, IntKind.bits]
  split <;> omega

theorem wrap1 {i n : Nat} (h : i < n) (hn : n ≤ big) : IntKind.i64.wrap ((i : Int) + 1) = ((i + 1 : Nat) : Int) := by
  simp only [big] at hn
  rw [wrap64 (by omega) (by omega)]; simp

def isId (t : Int) (h : H) : Bool := h.id == t
def isKey (t : List UInt8) (h : H) : Bool := h.key == t
def isBig (h : H) : Bool := decide ((h.key.length : Int) > 200)
/-- A list of holds, not too long. -/
def gd (es : List AV) : Bool := es.all isH && decide (es.length ≤ big)
def ixA (p : H → Bool) (es : List AV) : Nat := (es.map toH).findIdx p
def inA (p : H → Bool) (es : List AV) : Bool := decide (ixA p es < es.length)
def greatA (es : List AV) : Bool := decide ((es.length : Int) > 100) || inA isBig es

/-- Holds with keys that are not too long; not too many. -/
def okL (l : List H) : Prop := l.length ≤ big ∧ ∀ h ∈ l, h.key.length ≤ big ∧ h.amt ≤ 9223372036854775807
theorem gd_map {l : List H} : gd (l.map H.av) = true ↔ okL l := by
  simp only [gd, okL, big, Bool.and_eq_true, List.all_eq_true, List.mem_map, decide_eq_true_eq, List.length_map]
  constructor
  · rintro ⟨h1, h2⟩
    exact ⟨h2, fun h hh => by have := h1 h.av ⟨h, hh, rfl⟩; simpa [isH_av] using this⟩
  · rintro ⟨h1, h2⟩
    exact ⟨fun x hx => by obtain ⟨h, hh, rfl⟩ := hx; simpa [isH_av] using h2 h hh, h1⟩

theorem es_of {es : List AV} (h : es.all isH = true) : es = (es.map toH).map H.av := by
  rw [List.all_eq_true] at h
  rw [List.map_map]
  symm
  calc es.map (H.av ∘ toH) = es.map id := List.map_congr_left fun x hx => av_toH (h x hx)
    _ = es := List.map_id _

theorem es_gd {es : List AV} (h : gd es = true) : es = (es.map toH).map H.av ∧ okL (es.map toH) := by
  have h1 : es = (es.map toH).map H.av := es_of (by simp only [gd, Bool.and_eq_true] at h; exact h.1)
  exact ⟨h1, gd_map.1 (by rw [← h1]; exact h)⟩

end Go.Proofs.H22

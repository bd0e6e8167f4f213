/- The program of a chapter for the machine; lists of a struct. Printed by a program of mine. -/
import Derived.Test.YtninmnbkbhfnmaaE2
import Derived.Test.YtninmnbkbhfnmaaIr23
import Derived.KernelRfl
set_option linter.unusedVariables false
set_option linter.unusedSimpArgs false
set_option linter.unnecessarySimpa false
namespace Go.Proofs.H23
open Go Go.Eng

set_option maxRecDepth 20000

abbrev ksH : List CS := [.int .i64, .int .i64, .int .i64, .int .i64, .int .i64, .int .i64, .str]

def IP : Prog := { fn := lookF tab, mv := fun f => f == 33, fresh := fun f => f == 29||f == 33, kinds := fun n => match n with
  | 7 => some (true, ksH)
  | 1 => some (false, [.int .i64])
  | _ => none }

theorem live12 : callO IP 12 [] [] = some (.ret (.bool true), []) := callO_iff.2 ⟨60, by kernel_rfl⟩

structure H where
  (id acc kind amt frm to : Int)
  (src : List UInt8)
deriving DecidableEq

def H.av (h : H) : AV := .agg [.int .i64 h.id, .int .i64 h.acc, .int .i64 h.kind, .int .i64 h.amt, .int .i64 h.frm, .int .i64 h.to, .str h.src]

def ci (x : AV) (j : Nat) : Int := intOf (((cellsA x)[j]?).getD .junk)
def cs (x : AV) (j : Nat) : List UInt8 := strOf (((cellsA x)[j]?).getD .junk)

def toH (x : AV) : H := ⟨ci x 0, ci x 1, ci x 2, ci x 3, ci x 4, ci x 5, cs x 6⟩

def big : Nat := 9223372036854775807
def isH : AV → Bool
  | .agg [.int .i64 _, .int .i64 _, .int .i64 _, .int .i64 _, .int .i64 _, .int .i64 _, .str src] => decide (src.length ≤ 9223372036854775807)
  | _ => false

theorem toH_av (h : H) : toH h.av = h := rfl
theorem isH_av (h : H) : isH h.av = (decide (h.src.length ≤ 9223372036854775807)) := rfl
theorem av_toH {x : AV} (h : isH x = true) : (toH x).av = x := by
  unfold isH at h
  split at h
  · rfl
  · cases h

theorem map_toH (l : List H) : (l.map H.av).map toH = l := by
  rw [List.map_map]
  have : toH ∘ H.av = id := by funext h; exact toH_av h
  simp [this]

def H0 : H := ⟨0, 0, 0, 0, 0, 0, []⟩
def gt (l : List H) (i : Nat) : H := l[i]?.getD H0

theorem ok_at (l : List H) (i : Nat) : okAt ksH (l.map H.av) (i : Int) = decide (i < l.length) := by
  simp only [okAt, atIdx, Int.toNat_natCast, List.getElem?_map]
  by_cases h : i < l.length
  · simp [h]; rfl
  · simp [h]

theorem cell_at (l : List H) (i j : Nat) : cellAt (l.map H.av) (i : Int) j = if i < l.length then ((cellsA (gt l i).av)[j]?).getD .junk else .junk := by
  simp only [cellAt, atIdx, Int.toNat_natCast, List.getElem?_map, gt]
  by_cases h : i < l.length
  · simp [h]
  · simp [h, cellsA]
    cases j <;> simp

theorem gt_out {l : List H} {i : Nat} (h : ¬ i < l.length) : gt l i = H0 := by simp [gt, h]

theorem c0 (l : List H) (i : Nat) : intOf (cellAt (l.map H.av) (i : Int) 0) = (gt l i).id := by rw [cell_at]; split; rfl; rename_i h; rw [gt_out h]; rfl
theorem c1 (l : List H) (i : Nat) : intOf (cellAt (l.map H.av) (i : Int) 1) = (gt l i).acc := by rw [cell_at]; split; rfl; rename_i h; rw [gt_out h]; rfl
theorem c2 (l : List H) (i : Nat) : intOf (cellAt (l.map H.av) (i : Int) 2) = (gt l i).kind := by rw [cell_at]; split; rfl; rename_i h; rw [gt_out h]; rfl
theorem c3 (l : List H) (i : Nat) : intOf (cellAt (l.map H.av) (i : Int) 3) = (gt l i).amt := by rw [cell_at]; split; rfl; rename_i h; rw [gt_out h]; rfl
theorem c4 (l : List H) (i : Nat) : intOf (cellAt (l.map H.av) (i : Int) 4) = (gt l i).frm := by rw [cell_at]; split; rfl; rename_i h; rw [gt_out h]; rfl
theorem c5 (l : List H) (i : Nat) : intOf (cellAt (l.map H.av) (i : Int) 5) = (gt l i).to := by rw [cell_at]; split; rfl; rename_i h; rw [gt_out h]; rfl
theorem c6 (l : List H) (i : Nat) : strOf (cellAt (l.map H.av) (i : Int) 6) = (gt l i).src := by rw [cell_at]; split; rfl; rename_i h; rw [gt_out h]; rfl

theorem br_pos {R : Type} {b : Bool} {x y : R} (h : b = true) : br b x y = x := by rw [h]; rfl
theorem br_neg {R : Type} {b : Bool} {x y : R} (h : b = false) : br b x y = y := by rw [h]; rfl

theorem wrap64 {n : Int} (h1 : -9223372036854775808 ≤ n) (h2 : n ≤ 9223372036854775807) : IntKind.i64.wrap n = n := by
  simp [IntKind.wrap, IntKind.signed, IntKind.bits]
  split <;> omega

theorem wrap1 {i n : Nat} (h : i < n) (hn : n ≤ big) : IntKind.i64.wrap ((i : Int) + 1) = ((i + 1 : Nat) : Int) := by
  simp only [big] at hn
  rw [wrap64 (by omega) (by omega)]; simp
theorem wrapm1 {i : Nat} (h : 0 < i) (hb : i ≤ big) : IntKind.i64.wrap ((i : Int) - 1) = ((i - 1 : Nat) : Int) := by
  simp only [big] at hb
  rw [wrap64 (by omega) (by omega)]; omega

def gd (es : List AV) : Bool := es.all isH && decide (es.length ≤ big)
def ixA (p : H → Bool) (es : List AV) : Nat := (es.map toH).findIdx p
def inA (p : H → Bool) (es : List AV) : Bool := decide (ixA p es < es.length)

def okL (l : List H) : Prop := l.length ≤ big ∧ ∀ h ∈ l, isH h.av = true
theorem gd_map {l : List H} : gd (l.map H.av) = true ↔ okL l := by
  simp only [gd, okL, Bool.and_eq_true, List.all_eq_true, List.mem_map, decide_eq_true_eq, List.length_map]
  constructor
  · rintro ⟨h1, h2⟩
    exact ⟨h2, fun h hh => h1 h.av ⟨h, hh, rfl⟩⟩
  · rintro ⟨h1, h2⟩
    exact ⟨fun x hx => by obtain ⟨h, hh, rfl⟩ := hx; exact h2 h hh, h1⟩

theorem es_of {es : List AV} (h : es.all isH = true) : es = (es.map toH).map H.av := by
  rw [List.all_eq_true] at h
  rw [List.map_map]
  symm
  calc es.map (H.av ∘ toH) = es.map id := List.map_congr_left fun x hx => av_toH (h x hx)
    _ = es := List.map_id _

theorem es_gd {es : List AV} (h : gd es = true) : es = (es.map toH).map H.av ∧ okL (es.map toH) := by
  have h1 : es = (es.map toH).map H.av := es_of (by simp only [gd, Bool.and_eq_true] at h; exact h.1)
  exact ⟨h1, gd_map.1 (by rw [← h1]; exact h)⟩

theorem gt_mem {l : List H} {i : Nat} (h : i < l.length) : gt l i ∈ l := by simp [gt, h]
def hA (es : List AV) (j : Nat) : H := gt (es.map toH) j
theorem ok_es {es : List AV} (h : gd es = true) {j : Nat} (hj : j < es.length) : okAt ksH es (j : Int) = true := by
  rw [(es_gd h).1, ok_at]; simpa using hj
theorem hA_mem {es : List AV} {j : Nat} (h : j < es.length) : hA es j ∈ es.map toH := gt_mem (by simpa using h)
theorem okE_es {es : List AV} (h : gd es = true) {j : Nat} (hj : j < es.length) : okE true ksH es (j : Int) = true := by
  rw [(es_gd h).1]
  simp only [okE, atIdx, Int.toNat_natCast, List.getElem?_map]
  simp [hj]
  rfl
theorem okE_set {es : List AV} {j : Nat} (hj : j < es.length) (x : H) : okE true ksH (es.set j x.av) (j : Int) = true := by
  simp [okE, atIdx, hj]
  rfl
theorem cell_set {es : List AV} {j : Nat} (hj : j < es.length) (x : AV) (m : Nat) : cellAt (es.set j x) (j : Int) m = ((cellsA x)[m]?).getD .junk := by
  simp [cellAt, atIdx, hj]
theorem cells_es {es : List AV} (h : gd es = true) (j : Nat) : intOf (cellAt es (j : Int) 0) = (hA es j).id ∧ intOf (cellAt es (j : Int) 1) = (hA es j).acc ∧ intOf (cellAt es (j : Int) 2) = (hA es j).kind ∧ intOf (cellAt es (j : Int) 3) = (hA es j).amt ∧ intOf (cellAt es (j : Int) 4) = (hA es j).frm ∧ intOf (cellAt es (j : Int) 5) = (hA es j).to ∧ strOf (cellAt es (j : Int) 6) = (hA es j).src := by
  have e : ∀ m, cellAt es (j : Int) m = cellAt ((es.map toH).map H.av) (j : Int) m := fun m => by rw [← (es_gd h).1]
  simp only [e, c0, c1, c2, c3, c4, c5, c6, hA, and_self]

abbrev XK (S : Summ) (LS : LSumm) (F : Fun) (i : Nat) (s : St) : Option (X × St) := execK (R := X × St) IP (callN IP S (inl0 IP) (loopN LS) 4) (loopN LS) (loopAt F i).2 s (roundEnd (loopAt F i).1)
abbrev BK (S : Summ) (L : LSumm) (f : Nat) (F : Fun) (args : List AV) : Option (Res × Heap) := bodyK (R := Res × Heap) IP (callN IP S (inl0 IP) (loopN L) 4) (loopN L) f F args [] (fun r h => some (r, h))
abbrev cKS (S : Summ) (R : Type) : CallK R := callN IP S (inl0 IP) (loopN noL) 4
theorem cKS_ok {S : Summ} (h : SummOk IP S) {R : Type} : CallS (R := R) (callO IP) (cKS S R) := calls_ok h _ 4

theorem findIdx_no {p : H → Bool} {l : List H} {i : Nat} (h : i < l.findIdx p) : p (gt l i) = false := by
  have h2 := List.findIdx_le_length (p := p) (xs := l)
  have := List.not_of_lt_findIdx h
  have hi : i < l.length := by omega
  simpa [gt, hi] using this
theorem findIdx_yes {p : H → Bool} {l : List H} (h : l.findIdx p < l.length) : p (gt l (l.findIdx p)) = true := by
  have := List.findIdx_getElem (xs := l) (p := p) (w := h)
  simpa [gt, h] using this

end Go.Proofs.H23

/- Check, in the program and in the specification. -/
import Derived.Test.YtggaijkihehlmaaG4
set_option linter.unusedVariables false
set_option linter.unusedSimpArgs false
set_option linter.unnecessarySimpa false
namespace Go.Proofs.H22
open Go Go.Eng
set_option maxRecDepth 20000

abbrev cKB (R : Type) : CallK R := callN IP sB (inl0 IP) (loopN noL) 4
theorem cKB_ok {R : Type} : CallS (R := R) (callO IP) (cKB R) := calls_ok sB_ok _ 4

def dupB (l : List H) (i : Nat) : Bool := inA (isKey (gt l i).key) ((l.map H.av).take i)
def ordB (l : List H) (i : Nat) : Bool := decide ((gt l i).id ≤ (gt l (i - 1)).id)
def errAt (l : List H) (i : Nat) : Int :=
  br (fieldsB (gt l i).id (gt l i).acc (gt l i).amt (gt l i).frm (gt l i).to)
    (br (keyB (gt l i).key)
      (br (decide (0 < i)) (br (ordB l i) 10 (br (dupB l i) 12 0)) (br (dupB l i) 12 0))
      4)
    1

theorem gt_mem {l : List H} {i : Nat} (h : i < l.length) : gt l i ∈ l := by simp [gt, h]

theorem wrapm1 {i : Nat} (h : 0 < i) (hb : i ≤ big) : IntKind.i64.wrap ((i : Int) - 1) = ((i - 1 : Nat) : Int) := by
  simp only [big] at hb
  rw [wrap64 (by omega) (by omega)]; omega

theorem gd_take {l : List H} (h : okL l) (i : Nat) : gd ((l.map H.av).take i) = true := by
  rw [← List.map_take]
  refine gd_map.2 ⟨?_, fun x hx => h.2 x (List.mem_of_mem_take hx)⟩
  have := h.1
  rw [List.length_take]; omega

theorem bnd_i {n i : Nat} (h : i ≤ n) : bndB n n none (some (.int .i64 (i : Int))) = true := by
  simp [bndB, leB, h]

theorem take_i {α : Type} (es : List α) (n i : Nat) : List.take (highN n (some (.int .i64 (i : Int))) - 0) (List.drop 0 es) = es.take i := by
  simp [highN]

theorem pos_nat (i : Nat) : decide ((i : Int) > 0) = decide (0 < i) := by simp

theorem tree11 {l : List H} (h : okL l) {i : Nat} (hlt : i < l.length) : rd_g11 (l.map H.av) l.length i =
    some (br (fieldsB (gt l i).id (gt l i).acc (gt l i).amt (gt l i).frm (gt l i).to)
      (br (keyB (gt l i).key)
        (br (decide (0 < i)) (br (ordB l i) (ex_g11_2 (l.map H.av) l.length i) (br (dupB l i) (ex_g11_3 (l.map H.av) l.length i) (.normal, ⟨[(1001100, .junk), (0, .view 6 (l.map H.av)), (8, .view 6 (l.map H.av)), (9, .int .i64 l.length), (10, .int .i64 ((i + 1 : Nat) : Int))], [], 0, 0⟩)))
          (br (dupB l i) (ex_g11_4 (l.map H.av) l.length i) (.normal, ⟨[(1001100, .junk), (0, .view 6 (l.map H.av)), (8, .view 6 (l.map H.av)), (9, .int .i64 l.length), (10, .int .i64 ((i + 1 : Nat) : Int))], [], 0, 0⟩)))
        (ex_g11_1 (l.map H.av) l.length i))
      (ex_g11_0 (l.map H.av) l.length i)) := by
  have hk : decide ((gt l i).key.length ≤ big) = true := decide_eq_true (h.2 _ (gt_mem hlt)).1
  simp only [rd_g11, List.length_map, lt_nat, ok_at, hlt, decide_true, br_true, c0, c1, c2, c3, c4, c5, hk, wrap1 hlt h.1, pos_nat, bnd_i (Nat.le_of_lt hlt), Bool.and_self, take_i, gd_take h]
  change _ = some (br _ (br _ (br _ (br _ _ (br (inA (isKey (gt l i).key) ((l.map H.av).take i)) _ _)) (br (inA (isKey (gt l i).key) ((l.map H.av).take i)) _ _)) _) _)
  by_cases hi : 0 < i
  · have h2 : i ≤ big := Nat.le_trans (Nat.le_of_lt hlt) h.1
    have h3 : i - 1 < l.length := by omega
    simp only [wrapm1 hi h2, ok_at, h3, hi, decide_true, br_true, c0, ordB]
    cases fieldsB (gt l i).id (gt l i).acc (gt l i).amt (gt l i).frm (gt l i).to <;> cases keyB (gt l i).key <;> cases decide ((gt l i).id ≤ (gt l (i - 1)).id) <;> cases inA (isKey (gt l i).key) ((l.map H.av).take i) <;> rfl
  · simp only [hi, decide_false, br_false]
    cases fieldsB (gt l i).id (gt l i).acc (gt l i).amt (gt l i).frm (gt l i).to <;> cases keyB (gt l i).key <;> cases inA (isKey (gt l i).key) ((l.map H.av).take i) <;> rfl

/-- The first place with an error. -/
def firstErr (l : List H) : Nat := (List.range l.length).findIdx fun i => errAt l i != 0
def chkS (l : List H) : Int := br (decide ((l.length : Int) > 64)) 5 (br (decide (firstErr l < l.length)) (errAt l (firstErr l)) 0)

theorem fe_le (l : List H) : firstErr l ≤ l.length := by
  have := List.findIdx_le_length (p := fun i => errAt l i != 0) (xs := List.range l.length)
  simpa [firstErr] using this
theorem fe_no {l : List H} {i : Nat} (h : i < firstErr l) : errAt l i = 0 := by
  have := List.not_of_lt_findIdx h
  simpa using this
theorem fe_yes {l : List H} (h : firstErr l < l.length) : errAt l (firstErr l) ≠ 0 := by
  have := List.findIdx_getElem (xs := List.range l.length) (p := fun i => errAt l i != 0) (w := by simpa [firstErr] using h)
  simpa [firstErr] using this

abbrev hd11 (es : List AV) (n i : Int) : St := ⟨[(1001100, .junk), (0, .view 6 es), (8, .view 6 es), (9, .int .i64 n), (10, .int .i64 i)], [], 0, 0⟩
theorem nm11 (es : List AV) (n i : Int) : norm [1001100, 0, 8, 9, 10] (hd11 es n i) = some (hd11 es n i) := by kernel_rfl

/-- The exit of Check's loop at its end j. -/
def end11 (l : List H) (j : Nat) : X × St := br (decide (j < l.length))
  (br (fieldsB (gt l j).id (gt l j).acc (gt l j).amt (gt l j).frm (gt l j).to)
    (br (keyB (gt l j).key)
      (br (decide (0 < j)) (br (ordB l j) (ex_g11_2 (l.map H.av) l.length j) (ex_g11_3 (l.map H.av) l.length j)) (ex_g11_4 (l.map H.av) l.length j))
      (ex_g11_1 (l.map H.av) l.length j))
    (ex_g11_0 (l.map H.av) l.length j))
  (ex_g11_5 (l.map H.av) l.length j)

theorem end11_ne (l : List H) (j : Nat) : (end11 l j).1 ≠ .normal := by
  unfold end11
  cases decide (j < l.length) <;> cases fieldsB (gt l j).id (gt l j).acc (gt l j).amt (gt l j).frm (gt l j).to <;> cases keyB (gt l j).key <;> cases decide (0 < j) <;> cases ordB l j <;> (intro h; cases h)

theorem run11 {l : List H} (h : okL l) : loopO IP [1001100, 0, 8, 9, 10] (loopAt F11 0).2 (hd11 (l.map H.av) l.length 0) = some (end11 l (firstErr l)) := by
  refine loop_run (lK := loopN noL) cKB_ok (loopS_none (by kernel_rfl)) (fun i => hd11 (l.map H.av) l.length i) (firstErr l) (fun i => nm11 ..) ?_ (end11_ne _ _) ?_
  · intro i hi
    have hlt : i < l.length := Nat.lt_of_lt_of_le hi (fe_le l)
    refine (rd_g11_eq _ _ i).trans ((tree11 h hlt).trans ?_)
    have he := fe_no hi
    simp only [errAt] at he
    revert he
    cases fieldsB (gt l i).id (gt l i).acc (gt l i).amt (gt l i).frm (gt l i).to <;> cases keyB (gt l i).key <;> cases decide (0 < i) <;> cases ordB l i <;> cases dupB l i <;> intro he <;> first | rfl | (exact absurd he (by decide))
  · refine (rd_g11_eq _ _ _).trans ?_
    by_cases hf : firstErr l < l.length
    · refine (tree11 h hf).trans ?_
      have he := fe_yes hf
      simp only [errAt] at he
      simp only [end11, hf, decide_true, br_true]
      generalize firstErr l = j at he ⊢
      revert he
      cases fieldsB (gt l j).id (gt l j).acc (gt l j).amt (gt l j).frm (gt l j).to <;> cases keyB (gt l j).key <;> cases decide (0 < j) <;> cases ordB l j <;> cases dupB l j <;> intro he <;> first | rfl | (exact absurd rfl he)
    · have hj : firstErr l = l.length := by have := fe_le l; omega
      simp only [hj, rd_g11, List.length_map, lt_nat, Nat.lt_irrefl, decide_false, br_false, end11]

theorem tree12 {l : List H} (h : okL l) {i : Nat} (hlt : i < l.length) : rd_g12 (l.map H.av) i =
    some (br (fieldsB (gt l i).id (gt l i).acc (gt l i).amt (gt l i).frm (gt l i).to && keyB (gt l i).key)
        (br (decide (0 < i)) (br (ordB l i) (ex_g12_1 (l.map H.av) i) (br (dupB l i) (ex_g12_2 (l.map H.av) i) (.normal, ⟨[(1001200, .junk), (0, .view 6 (l.map H.av)), (3, .int .i64 ((i + 1 : Nat) : Int))], [], 0, 0⟩)))
          (br (dupB l i) (ex_g12_3 (l.map H.av) i) (.normal, ⟨[(1001200, .junk), (0, .view 6 (l.map H.av)), (3, .int .i64 ((i + 1 : Nat) : Int))], [], 0, 0⟩)))
      (ex_g12_0 (l.map H.av) i)) := by
  have hk : decide ((gt l i).key.length ≤ big) = true := decide_eq_true (h.2 _ (gt_mem hlt)).1
  simp only [rd_g12, List.length_map, lt_nat, ok_at, hlt, decide_true, br_true, c0, c1, c2, c3, c4, c5, hk, wrap1 hlt h.1, pos_nat, bnd_i (Nat.le_of_lt hlt), Bool.and_self, take_i, gd_take h, oneB]
  change _ = some (br _ (br _ (br _ _ (br (inA (isKey (gt l i).key) ((l.map H.av).take i)) _ _)) (br (inA (isKey (gt l i).key) ((l.map H.av).take i)) _ _)) _)
  by_cases hi : 0 < i
  · have h2 : i ≤ big := Nat.le_trans (Nat.le_of_lt hlt) h.1
    have h3 : i - 1 < l.length := by omega
    simp only [wrapm1 hi h2, ok_at, h3, hi, decide_true, br_true, c0, ordB]
    cases fieldsB (gt l i).id (gt l i).acc (gt l i).amt (gt l i).frm (gt l i).to <;> cases keyB (gt l i).key <;> cases decide ((gt l i).id ≤ (gt l (i - 1)).id) <;> cases inA (isKey (gt l i).key) ((l.map H.av).take i) <;> rfl
  · simp only [hi, decide_false, br_false]
    cases fieldsB (gt l i).id (gt l i).acc (gt l i).amt (gt l i).frm (gt l i).to <;> cases keyB (gt l i).key <;> cases inA (isKey (gt l i).key) ((l.map H.av).take i) <;> rfl

abbrev hd12 (es : List AV) (i : Int) : St := ⟨[(1001200, .junk), (0, .view 6 es), (3, .int .i64 i)], [], 0, 0⟩
theorem nm12 (es : List AV) (i : Int) : norm [1001200, 0, 3] (hd12 es i) = some (hd12 es i) := by kernel_rfl

def end12 (l : List H) (j : Nat) : X × St := br (decide (j < l.length))
  (br (fieldsB (gt l j).id (gt l j).acc (gt l j).amt (gt l j).frm (gt l j).to && keyB (gt l j).key)
    (br (decide (0 < j)) (br (ordB l j) (ex_g12_1 (l.map H.av) j) (ex_g12_2 (l.map H.av) j)) (ex_g12_3 (l.map H.av) j))
    (ex_g12_0 (l.map H.av) j))
  (ex_g12_4 (l.map H.av) j)

theorem end12_ne (l : List H) (j : Nat) : (end12 l j).1 ≠ .normal := by
  unfold end12
  cases decide (j < l.length) <;> cases (fieldsB (gt l j).id (gt l j).acc (gt l j).amt (gt l j).frm (gt l j).to && keyB (gt l j).key) <;> cases decide (0 < j) <;> cases ordB l j <;> (intro h; cases h)

theorem run12 {l : List H} (h : okL l) : loopO IP [1001200, 0, 3] (loopAt F12 0).2 (hd12 (l.map H.av) 0) = some (end12 l (firstErr l)) := by
  refine loop_run (lK := loopN noL) cKB_ok (loopS_none (by kernel_rfl)) (fun i => hd12 (l.map H.av) i) (firstErr l) (fun i => nm12 ..) ?_ (end12_ne _ _) ?_
  · intro i hi
    have hlt : i < l.length := Nat.lt_of_lt_of_le hi (fe_le l)
    refine (rd_g12_eq _ i).trans ((tree12 h hlt).trans ?_)
    have he := fe_no hi
    simp only [errAt] at he
    revert he
    cases fieldsB (gt l i).id (gt l i).acc (gt l i).amt (gt l i).frm (gt l i).to <;> cases keyB (gt l i).key <;> cases decide (0 < i) <;> cases ordB l i <;> cases dupB l i <;> intro he <;> first | rfl | (exact absurd he (by decide))
  · refine (rd_g12_eq _ _).trans ?_
    by_cases hf : firstErr l < l.length
    · refine (tree12 h hf).trans ?_
      have he := fe_yes hf
      simp only [errAt] at he
      simp only [end12, hf, decide_true, br_true]
      generalize firstErr l = j at he ⊢
      revert he
      cases fieldsB (gt l j).id (gt l j).acc (gt l j).amt (gt l j).frm (gt l j).to <;> cases keyB (gt l j).key <;> cases decide (0 < j) <;> cases ordB l j <;> cases dupB l j <;> intro he <;> first | rfl | (exact absurd rfl he)
    · have hj : firstErr l = l.length := by have := fe_le l; omega
      simp only [hj, rd_g12, List.length_map, lt_nat, Nat.lt_irrefl, decide_false, br_false, end12]

/-- The atoms at the loop's end. -/
def aJ (es : List AV) : Nat := firstErr (es.map toH)
def aIn (es : List AV) : Bool := decide (aJ es < es.length)
def aF (es : List AV) : Bool := fieldsB (gt (es.map toH) (aJ es)).id (gt (es.map toH) (aJ es)).acc (gt (es.map toH) (aJ es)).amt (gt (es.map toH) (aJ es)).frm (gt (es.map toH) (aJ es)).to
def aK (es : List AV) : Bool := keyB (gt (es.map toH) (aJ es)).key
def aP (es : List AV) : Bool := decide (0 < aJ es)
def aO (es : List AV) : Bool := ordB (es.map toH) (aJ es)

def L11 (s : St) : List (Bool × X × St) := match s with
  | ⟨[(1001100, .junk), (0, .view 6 es), (8, .view 6 fs), (9, .int .i64 n), (10, .int .i64 0)], [], 0, 0⟩ =>
    let c := gd es && gd fs && decide (fs.map toH = es.map toH) && decide (n = (es.length : Int))
    [(c && !aIn es, ex_g11_5 es n (aJ es)), (c && aIn es && !aF es, ex_g11_0 es n (aJ es)), (c && aIn es && aF es && !aK es, ex_g11_1 es n (aJ es)),
     (c && aIn es && aF es && aK es && aP es && aO es, ex_g11_2 es n (aJ es)), (c && aIn es && aF es && aK es && aP es && !aO es, ex_g11_3 es n (aJ es)), (c && aIn es && aF es && aK es && !aP es, ex_g11_4 es n (aJ es))]
  | _ => []

def L12 (s : St) : List (Bool × X × St) := match s with
  | ⟨[(1001200, .junk), (0, .view 6 es), (3, .int .i64 0)], [], 0, 0⟩ =>
    let c := gd es
    [(c && !aIn es, ex_g12_4 es (aJ es)), (c && aIn es && !(aF es && aK es), ex_g12_0 es (aJ es)),
     (c && aIn es && aF es && aK es && aP es && aO es, ex_g12_1 es (aJ es)), (c && aIn es && aF es && aK es && aP es && !aO es, ex_g12_2 es (aJ es)), (c && aIn es && aF es && aK es && !aP es, ex_g12_3 es (aJ es))]
  | _ => []

end Go.Proofs.H22

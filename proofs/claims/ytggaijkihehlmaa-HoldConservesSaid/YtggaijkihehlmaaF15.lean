/- SameAll, SameInts; short. -/
import Derived.Test.YtggaijkihehlmaaG11
set_option linter.unusedVariables false
set_option linter.unusedSimpArgs false
set_option linter.unnecessarySimpa false
namespace Go.Proofs.H22
open Go Go.Eng
set_option maxRecDepth 20000

def sSame (a : List AV) (h : Heap) : List (Bool × Res × Heap) := match a, h with
  | [.view 6 es, .view 6 fs], [] => [(gd es && gd fs && decide (es.map toH = fs.map toH), .ret (.bool true), [])]
  | [.nils, .nils], [] => [(true, .ret (.bool true), [])]
  | [.view 6 es, .nils], [] => [(decide (es.length = 0), .ret (.bool true), [])]
  | _, _ => []

theorem s33_ok : ∀ a h r h', (true, r, h') ∈ sSame a h → callO IP 33 a h = some (r, h') := by
  intro a h r h' hm
  unfold sSame at hm
  split at hm
  · rename_i es fs
    simp only [List.mem_cons, Prod.mk.injEq, List.not_mem_nil, or_false] at hm
    obtain ⟨hb, rfl, rfl⟩ := hm
    refine callO_by noS_ok (by kernel_rfl) L33_ok (n := 4) ((rd_f33_eq es fs).trans ?_)
    have hl : es.length = fs.length := by
      simp only [eq_comm (a := true), Bool.and_eq_true, decide_eq_true_eq] at hb
      simpa using congrArg List.length hb.2
    unfold rd_f33
    refine (br_neg (by simp [hl])).trans ?_
    rw [← hb]; rfl
  · simp only [List.mem_cons, Prod.mk.injEq, List.not_mem_nil, or_false] at hm
    obtain ⟨-, rfl, rfl⟩ := hm
    exact callO_iff.2 ⟨6, by kernel_rfl⟩
  · rename_i es
    simp only [List.mem_cons, Prod.mk.injEq, List.not_mem_nil, or_false] at hm
    obtain ⟨hb, rfl, rfl⟩ := hm
    have : es = [] := List.length_eq_zero_iff.1 (of_decide_eq_true hb.symm)
    subst this
    exact callO_iff.2 ⟨6, by kernel_rfl⟩
  · cases hm

def sSameI (a : List AV) (h : Heap) : List (Bool × Res × Heap) := match a, h with
  | [.view 1 es, .view 1 fs], [] => [(gdI es && gdI fs && decide (es.map toI = fs.map toI), .ret (.bool true), [])]
  | [.nils, .nils], [] => [(true, .ret (.bool true), [])]
  | _, _ => []

theorem s37_ok : ∀ a h r h', (true, r, h') ∈ sSameI a h → callO IP 37 a h = some (r, h') := by
  intro a h r h' hm
  unfold sSameI at hm
  split at hm
  · rename_i es fs
    simp only [List.mem_cons, Prod.mk.injEq, List.not_mem_nil, or_false] at hm
    obtain ⟨hb, rfl, rfl⟩ := hm
    refine callO_by noS_ok (by kernel_rfl) L37_ok (n := 4) ((rd_f37_eq es fs).trans ?_)
    have hl : es.length = fs.length := by
      simp only [eq_comm (a := true), Bool.and_eq_true, decide_eq_true_eq] at hb
      simpa using congrArg List.length hb.2
    unfold rd_f37
    refine (br_neg (by simp [hl])).trans ?_
    rw [← hb]; rfl
  · simp only [List.mem_cons, Prod.mk.injEq, List.not_mem_nil, or_false] at hm
    obtain ⟨-, rfl, rfl⟩ := hm
    exact callO_iff.2 ⟨6, by kernel_rfl⟩
  · cases hm

/-! Acts. -/
abbrev ks10 : List CS := [.int .i64, .int .i64, .int .i64, .int .i64, .int .i64, .int .i64, .int .i64, .int .i64, .int .i64, .str]
structure A where
  (kind id n day : Int)
  h : H
def A.av (a : A) : AV := .agg [.int .i64 a.kind, .int .i64 a.id, .int .i64 a.n, .int .i64 a.day, .int .i64 a.h.id, .int .i64 a.h.acc, .int .i64 a.h.amt, .int .i64 a.h.frm, .int .i64 a.h.to, .str a.h.key]
def A0 : A := ⟨0, 0, 0, 0, H0⟩
def ga (l : List A) (i : Nat) : A := l[i]?.getD A0
def okA (l : List A) : Prop := l.length ≤ big ∧ ∀ a ∈ l, isH a.h.av = true

theorem oka_at (l : List A) (i : Nat) : okAt ks10 (l.map A.av) (i : Int) = decide (i < l.length) := by
  simp only [okAt, atIdx, Int.toNat_natCast, List.getElem?_map]
  by_cases h : i < l.length
  · simp [h]; rfl
  · simp [h]
theorem cella_at (l : List A) (i j : Nat) : cellAt (l.map A.av) (i : Int) j = if i < l.length then ((cellsA (ga l i).av)[j]?).getD .junk else .junk := by
  simp only [cellAt, atIdx, Int.toNat_natCast, List.getElem?_map, ga]
  by_cases h : i < l.length
  · simp [h]
  · simp [h, cellsA]
    cases j <;> simp
theorem ga_out {l : List A} {i : Nat} (h : ¬ i < l.length) : ga l i = A0 := by simp [ga, h]
theorem a0 (l : List A) (i : Nat) : intOf (cellAt (l.map A.av) (i : Int) 0) = (ga l i).kind := by rw [cella_at]; split; rfl; rename_i h; rw [ga_out h]; rfl
theorem a1 (l : List A) (i : Nat) : intOf (cellAt (l.map A.av) (i : Int) 1) = (ga l i).id := by rw [cella_at]; split; rfl; rename_i h; rw [ga_out h]; rfl
theorem a2 (l : List A) (i : Nat) : intOf (cellAt (l.map A.av) (i : Int) 2) = (ga l i).n := by rw [cella_at]; split; rfl; rename_i h; rw [ga_out h]; rfl
theorem a3 (l : List A) (i : Nat) : intOf (cellAt (l.map A.av) (i : Int) 3) = (ga l i).day := by rw [cella_at]; split; rfl; rename_i h; rw [ga_out h]; rfl
theorem a4 (l : List A) (i : Nat) : intOf (cellAt (l.map A.av) (i : Int) 4) = (ga l i).h.id := by rw [cella_at]; split; rfl; rename_i h; rw [ga_out h]; rfl
theorem a5 (l : List A) (i : Nat) : intOf (cellAt (l.map A.av) (i : Int) 5) = (ga l i).h.acc := by rw [cella_at]; split; rfl; rename_i h; rw [ga_out h]; rfl
theorem a6 (l : List A) (i : Nat) : intOf (cellAt (l.map A.av) (i : Int) 6) = (ga l i).h.amt := by rw [cella_at]; split; rfl; rename_i h; rw [ga_out h]; rfl
theorem a7 (l : List A) (i : Nat) : intOf (cellAt (l.map A.av) (i : Int) 7) = (ga l i).h.frm := by rw [cella_at]; split; rfl; rename_i h; rw [ga_out h]; rfl
theorem a8 (l : List A) (i : Nat) : intOf (cellAt (l.map A.av) (i : Int) 8) = (ga l i).h.to := by rw [cella_at]; split; rfl; rename_i h; rw [ga_out h]; rfl
theorem a9 (l : List A) (i : Nat) : strOf (cellAt (l.map A.av) (i : Int) 9) = (ga l i).h.key := by rw [cella_at]; split; rfl; rename_i h; rw [ga_out h]; rfl

def toA (x : AV) : A := ⟨ci x 0, ci x 1, ci x 2, ci x 3, ⟨ci x 4, ci x 5, ci x 6, ci x 7, ci x 8, cs x 9⟩⟩
def isA : AV → Bool
  | .agg [.int .i64 _, .int .i64 _, .int .i64 _, .int .i64 _, .int .i64 a, .int .i64 b, .int .i64 c, .int .i64 d, .int .i64 e, .str s] => isH (.agg [.int .i64 a, .int .i64 b, .int .i64 c, .int .i64 d, .int .i64 e, .str s])
  | _ => false
theorem av_toA {x : AV} (h : isA x = true) : (toA x).av = x ∧ isH (toA x).h.av = true := by
  unfold isA at h
  split at h
  · exact ⟨rfl, h⟩
  · cases h
def gdA (es : List AV) : Bool := es.all isA && decide (es.length ≤ big)
theorem es_gdA {es : List AV} (h : gdA es = true) : es = (es.map toA).map A.av ∧ okA (es.map toA) := by
  simp only [gdA, Bool.and_eq_true, List.all_eq_true, decide_eq_true_eq] at h
  refine ⟨?_, ?_, ?_⟩
  · rw [List.map_map]
    symm
    calc es.map (A.av ∘ toA) = es.map id := List.map_congr_left fun x hx => (av_toA (h.1 x hx)).1
      _ = es := List.map_id _
  · simpa using h.2
  · intro a ha
    obtain ⟨x, hx, rfl⟩ := List.mem_map.1 ha
    exact (av_toA (h.1 x hx)).2

/-! short -/
def badA (a : A) : Bool := decide ((a.h.key.length : Int) > 200)
def jA (l : List A) : Nat := min (l.findIdx badA) (min l.length 60)
abbrev hd15 (es : List AV) (i : Int) : St := ⟨[(1001500, .junk), (0, .view 10 es), (3, .int .i64 i)], [], 0, 0⟩
theorem nm15 (es : List AV) (i : Int) : norm [1001500, 0, 3] (hd15 es i) = some (hd15 es i) := by kernel_rfl
/-- The loop's end: at a long key, at 60, at the list's end. -/
def end15 (l : List A) : X × St :=
  if jA l < l.length then (if jA l < 60 then ex_g15_0 (l.map A.av) (jA l : Nat) else ex_g15_1 (l.map A.av) (jA l : Nat)) else ex_g15_2 (l.map A.av) (jA l : Nat)

theorem i60 (i : Nat) : decide ((i : Int) < 60) = decide (i < 60) := by
  by_cases h : i < 60
  · rw [decide_eq_true h, decide_eq_true (by omega)]
  · rw [decide_eq_false h, decide_eq_false (by omega)]

theorem run15 {l : List A} (h : l.length ≤ big) : loopO IP [1001500, 0, 3] (loopAt F15 0).2 (hd15 (l.map A.av) 0) = some (end15 l) := by
  have hle : jA l ≤ l.length := by unfold jA; omega
  have hle2 : jA l ≤ 60 := by unfold jA; omega
  refine loop_run (lK := loopN noL) cK0_ok (loopS_none (by kernel_rfl)) (fun i => hd15 (l.map A.av) i) (jA l) (fun i => nm15 ..) ?_ (by unfold end15; split; split; all_goals (intro h; cases h)) ?_
  · intro i hi
    have hlt : i < l.length := by omega
    have h60 : i < 60 := by omega
    have hbad : badA (ga l i) = false := by
      have h1 : i < l.findIdx badA := by unfold jA at hi; omega
      have := List.not_of_lt_findIdx h1
      simpa [ga, hlt] using this
    simp only [badA] at hbad
    refine (rd_g15_eq _ i).trans ?_
    simp only [rd_g15, List.length_map, lt_nat, i60, h60, oka_at, hlt, decide_true, br_true, a9, hbad, br_false, wrap1 hlt h]
  · refine (rd_g15_eq _ _).trans ?_
    by_cases hlt : jA l < l.length
    · by_cases h60 : jA l < 60
      · have hbad : badA (ga l (jA l)) = true := by
          have h1 : jA l = l.findIdx badA := by unfold jA at hlt h60 ⊢; omega
          have h2 : l.findIdx badA < l.length := by omega
          have := List.findIdx_getElem (xs := l) (p := badA) (w := h2)
          rw [h1]; simpa [ga, h2] using this
        simp only [badA] at hbad
        simp only [rd_g15, List.length_map, lt_nat, i60, h60, oka_at, hlt, decide_true, br_true, a9, hbad, end15, if_true]
      · simp only [rd_g15, List.length_map, lt_nat, i60, h60, hlt, decide_true, decide_false, br_true, br_false, end15, if_true, if_false]
    · simp only [rd_g15, List.length_map, lt_nat, hlt, decide_false, br_false, end15, if_false]

def L15 (s : St) : List (Bool × X × St) := match s with
  | ⟨[(1001500, .junk), (0, .view 10 es), (3, .int .i64 0)], [], 0, 0⟩ =>
    let j := jA (es.map toA)
    [(gdA es && decide (j < es.length) && decide (j < 60), ex_g15_0 es j), (gdA es && decide (j < es.length) && !decide (j < 60), ex_g15_1 es j), (gdA es && !decide (j < es.length), ex_g15_2 es j)]
  | _ => []
theorem L15_ok : ∀ p ∈ loops F15.body, LoopOf (loopO IP) (oneL 1001500 L15) p.1 p.2 := by
  refine loops_one (ks := [0, 3]) (c := (loopAt F15 0).2) (by kernel_rfl) ?_ ?_
  · intro s x s' hn hm
    unfold L15 at hm
    split at hm
    · rename_i es
      simp only [List.mem_cons, Prod.mk.injEq, List.not_mem_nil, or_false] at hm
      have hg : gdA es = true := by
        rcases hm with ⟨hb, -⟩ | ⟨hb, -⟩ | ⟨hb, -⟩ <;> simp only [eq_comm (a := true), Bool.and_eq_true] at hb
        · exact hb.1.1
        · exact hb.1.1
        · exact hb.1
      obtain ⟨he, ho⟩ := es_gdA hg
      have h4 := run15 ho.1
      unfold end15 at h4
      rw [← he, List.length_map] at h4
      rw [h4]
      rcases hm with ⟨hb, hq⟩ | ⟨hb, hq⟩ | ⟨hb, hq⟩ <;> simp only [eq_comm (a := true), Bool.and_eq_true, decide_eq_true_eq, Bool.not_eq_true', decide_eq_false_iff_not] at hb <;> rw [hq]
      · rw [if_pos hb.1.2, if_pos hb.2]
      · rw [if_pos hb.1.2, if_neg hb.2]
      · rw [if_neg hb.2]
    · cases hm
  · intro s s1 hn hne
    unfold L15 at hne
    split at hne
    · exact nm15 ..
    · exact absurd rfl hne

end Go.Proofs.H22

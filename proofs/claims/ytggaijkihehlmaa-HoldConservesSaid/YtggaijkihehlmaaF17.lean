/- done, short: their summaries. -/
import Derived.Test.YtggaijkihehlmaaG12
set_option linter.unusedVariables false
set_option linter.unusedSimpArgs false
set_option linter.unnecessarySimpa false
namespace Go.Proofs.H22
open Go Go.Eng
set_option maxRecDepth 20000

theorem gd_iff {es : List AV} : gd es = true ↔ (∀ x ∈ es, isH x = true) ∧ es.length ≤ big := by
  simp only [gd, Bool.and_eq_true, List.all_eq_true, decide_eq_true_eq]

theorem big_of {n : Nat} (h : (n + 1) * 56 ≤ lim) : n + 1 ≤ big := by
  have h1 : lim ≤ big := by decide
  omega

theorem gd_app {es : List AV} {x : AV} (h : cap es = true) (hx : isH x = true) : gd (es ++ [x]) = true := by
  obtain ⟨hg, hl2, hl1, hlb⟩ := cap_of h
  have h1 := gd_iff.1 hg
  refine gd_iff.2 ⟨?_, ?_⟩
  · intro y hy
    rcases List.mem_append.1 hy with h2 | h2
    · exact h1.1 y h2
    · simp only [List.mem_singleton] at h2; rw [h2]; exact hx
  · have := big_of hl2; simpa using this

theorem gd_del {es : List AV} (h : gd es = true) (t : Int) : gd (delA es t) = true := by
  have h1 := gd_iff.1 h
  refine gd_iff.2 ⟨fun y hy => h1.1 y (List.mem_of_mem_eraseIdx hy), ?_⟩
  have h2 : (delA es t).length ≤ es.length := by
    unfold delA; rw [List.length_eraseIdx]; split <;> omega
  exact Nat.le_trans h2 h1.2

theorem gd_set {es : List AV} (h : gd es = true) {t n k : Int} (hu : useE es t n k = 0) : gd (setA es t n) = true := by
  have h1 := gd_iff.1 h
  obtain ⟨hi, -, -, hn, ha⟩ := useE_eq hu
  have hj : ixA (isId t) es < es.length := of_decide_eq_true hi
  have hk := (es_gd h).2.2 _ (hA_mem hj)
  have hn' := of_decide_eq_false hn
  refine gd_iff.2 ⟨fun y hy => ?_, by simpa [setA] using h1.2⟩
  rcases List.mem_or_eq_of_mem_set hy with h2 | h2
  · exact h1.1 y h2
  · rw [h2, isH_av]
    simp only [Bool.and_eq_true, decide_eq_true_eq]
    refine ⟨hk.1, ?_⟩
    show (hA es (ixA (isId t) es)).amt - n ≤ _
    have := hk.2
    omega

theorem gs_isH {l : List H} (h : okL l) (k : Int) : ∀ i, i ≤ l.length → ∀ x ∈ gsR l k i, isH x = true
  | 0, _, x, hx => by simp [gsR] at hx
  | i + 1, hi, x, hx => by
    simp only [gsR] at hx
    split at hx
    · exact gs_isH h k i (by omega) x hx
    · rcases List.mem_append.1 hx with h2 | h2
      · exact gs_isH h k i (by omega) x h2
      · simp only [List.mem_singleton] at h2
        have h4 := h.2 _ (gt_mem (show i < l.length by omega))
        rw [h2, isH_av]; simp only [Bool.and_eq_true, decide_eq_true_eq]; exact h4

theorem gsA_len (es : List AV) (k : Int) : (gsA es k).length ≤ es.length := gsR_len _ _ _
theorem gd_gs {es : List AV} (h : gd es = true) (k : Int) : gd (gsA es k) = true :=
  gd_iff.2 ⟨gs_isH (es_gd h).2 k _ (by simp), Nat.le_trans (gsA_len es k) (gd_iff.1 h).2⟩

theorem fs_isI (l : List H) (k : Int) : ∀ i, ∀ x ∈ fsR l k i, isI x = true
  | 0, x, hx => by simp [fsR] at hx
  | i + 1, x, hx => by
    simp only [fsR] at hx
    split at hx
    · rcases List.mem_append.1 hx with h2 | h2
      · exact fs_isI l k i x h2
      · simp only [List.mem_singleton] at h2; rw [h2]; rfl
    · exact fs_isI l k i x hx
theorem gdI_fs {es : List AV} (h : gd es = true) (k : Int) : gdI (fsA es k) = true := by
  simp only [gdI, Bool.and_eq_true, List.all_eq_true, decide_eq_true_eq]
  exact ⟨fs_isI _ _ _, Nat.le_trans (fsR_len _ _ _) (gd_iff.1 h).2⟩

def toNil (es : List AV) (p u : Int) : Bool := (p == 3) && (gsA es u).isEmpty
def nextA (es : List AV) (p q r u : Int) (h : H) : List AV :=
  br (p == 0) (br (placeE es h != 0) es (es ++ [h.av]))
    (br (p == 1) (br (useE es q r u != 0) es (br (allB es q r) (delA es q) (setA es q r)))
      (br (p == 2) (br (inA (isId q) es) (delA es q) es)
        (br (p == 3) (gsA es u) es)))

theorem done_view {es : List AV} (hc : cap es = true) (p q r u a b c d e : Int) (t : List UInt8) (hx : isH (.agg [.int .i64 a, .int .i64 b, .int .i64 c, .int .i64 d, .int .i64 e, .str t]) = true) :
    rd_f16 es p q r u a b c d e t = some (.ret (.tup [br (toNil es p u) .nils (.view 6 (nextA es p q r u ⟨a, b, c, d, e, t⟩)), .bool true]), []) := by
  obtain ⟨hg, hl2, hl1, hlb⟩ := cap_of hc
  have happ := gd_app hc hx
  have hdel := gd_del hg q
  have hgs := gd_gs hg u
  have hfs := gdI_fs hg u
  unfold rd_f16 nextA toNil
  simp only [hc, hx, happ, hdel, hgs, hfs, decide_true, Bool.true_and, Bool.and_self, br_true]
  cases p0 : (p == 0)
  · cases p1 : (p == 1)
    · cases p2 : (p == 2)
      · cases p3 : (p == 3)
        · rfl
        · cases (gsA es u).isEmpty <;> cases (fsA es u).isEmpty <;> rfl
      · have p3 : (p == 3) = false := by
          have := eq_of_beq p2
          subst this; rfl
        rw [p3]
        cases hi : inA (isId q) es
        · rfl
        · by_cases h1 : es.length = 1
          · have hz : decide ((delA es q).length = 0) = true := by
              have hj : ixA (isId q) es < es.length := of_decide_eq_true hi
              refine decide_eq_true ?_
              simp only [delA, List.length_eraseIdx]; rw [if_pos hj]; omega
            simp only [h1, decide_true, hz, Bool.and_self, br_true]; rfl
          · have h2 : decide (es.length = 1) = false := decide_eq_false h1
            have h3 : decide (es.length ≠ 1) = true := decide_eq_true h1
            simp only [h2, h3, Bool.and_self, Bool.and_false, br_true, br_false]; rfl
    · have p3 : (p == 3) = false := by
        have := eq_of_beq p1
        subst this; rfl
      rw [p3]
      cases hu : (useE es q r u != 0)
      · have hu0 : useE es q r u = 0 := by simpa using hu
        have hset := gd_set hg hu0
        cases hall : allB es q r
        · simp only [hu0, hset, Bool.and_self, Bool.and_false, Bool.false_and, br_true, br_false, beq_self_eq_true, Bool.not_false, Bool.true_and, bne_self_eq_false]
        · by_cases h1 : es.length = 1
          · have hz : decide ((delA es q).length = 0) = true := by
              have hi := (useE_eq hu0).1
              have hj : ixA (isId q) es < es.length := of_decide_eq_true hi
              refine decide_eq_true ?_
              simp only [delA, List.length_eraseIdx]; rw [if_pos hj]; omega
            simp only [hu0, h1, hz, decide_true, Bool.and_self, Bool.and_false, Bool.false_and, br_true, br_false, beq_self_eq_true, Bool.true_and, bne_self_eq_false]
          · have h2 : decide (es.length = 1) = false := decide_eq_false h1
            have h3 : decide (es.length ≠ 1) = true := decide_eq_true h1
            simp only [hu0, h2, h3, Bool.and_self, Bool.and_false, Bool.false_and, br_true, br_false, beq_self_eq_true, Bool.true_and, bne_self_eq_false]
      · simp only [br_true, beq_self_eq_true]; rfl
  · have p3 : (p == 3) = false := by
      have := eq_of_beq p0
      subst this; rfl
    rw [p3]
    cases hu : (placeE es ⟨a, b, c, d, e, t⟩ != 0)
    · have hu0 : placeE es ⟨a, b, c, d, e, t⟩ = 0 := by simpa using hu
      simp only [hu0, br_true, br_false, beq_self_eq_true, bne_self_eq_false]; rfl
    · simp only [br_true, beq_self_eq_true]; rfl

def sDone (a : List AV) (h : Heap) : List (Bool × Res × Heap) := match a, h with
  | [.view 6 es, .agg [.int .i64 p, .int .i64 q, .int .i64 r, .int .i64 u, .int .i64 a, .int .i64 b, .int .i64 c, .int .i64 d, .int .i64 e, .str t]], [] =>
    let g := cap es && isH (.agg [.int .i64 a, .int .i64 b, .int .i64 c, .int .i64 d, .int .i64 e, .str t])
    [(g && toNil es p u, .ret (.tup [.nils, .bool true]), []), (g && !toNil es p u, .ret (.tup [.view 6 (nextA es p q r u ⟨a, b, c, d, e, t⟩), .bool true]), [])]
  | [.nils, .agg [.int .i64 p, .int .i64 _, .int .i64 _, .int .i64 _, .int .i64 a, .int .i64 b, .int .i64 c, .int .i64 d, .int .i64 e, .str t]], [] =>
    let g := isH (.agg [.int .i64 a, .int .i64 b, .int .i64 c, .int .i64 d, .int .i64 e, .str t])
    [(g && ((p == 0) && oneB a b c d e t == 0), .ret (.tup [.view 6 [.agg [.int .i64 a, .int .i64 b, .int .i64 c, .int .i64 d, .int .i64 e, .str t]], .bool true]), []),
     (g && !((p == 0) && oneB a b c d e t == 0), .ret (.tup [.nils, .bool true]), [])]
  | _, _ => []

theorem s16_ok : ∀ a h r h', (true, r, h') ∈ sDone a h → callO IP 16 a h = some (r, h') := by
  intro a h r h' hm
  unfold sDone at hm
  split at hm
  · rename_i es p q r u a b c d e t
    simp only [List.mem_cons, Prod.mk.injEq, List.not_mem_nil, or_false] at hm
    have hc : cap es = true ∧ isH (.agg [.int .i64 a, .int .i64 b, .int .i64 c, .int .i64 d, .int .i64 e, .str t]) = true := by
      rcases hm with ⟨hb, -⟩ | ⟨hb, -⟩ <;> simp only [eq_comm (a := true), Bool.and_eq_true] at hb <;> exact hb.1
    refine callO_by sE_ok (by kernel_rfl) (loops_none (by kernel_rfl)) (n := 4) ((rd_f16_eq es p q r u a b c d e t).trans ((done_view hc.1 p q r u a b c d e t hc.2).trans ?_))
    rcases hm with ⟨hb, rfl, rfl⟩ | ⟨hb, rfl, rfl⟩ <;> simp only [eq_comm (a := true), Bool.and_eq_true, Bool.not_eq_true'] at hb <;> rw [hb.2] <;> rfl
  · rename_i p q r u a b c d e t
    simp only [List.mem_cons, Prod.mk.injEq, List.not_mem_nil, or_false] at hm
    have hc : isH (.agg [.int .i64 a, .int .i64 b, .int .i64 c, .int .i64 d, .int .i64 e, .str t]) = true := by
      rcases hm with ⟨hb, -⟩ | ⟨hb, -⟩ <;> simp only [eq_comm (a := true), Bool.and_eq_true] at hb <;> exact hb.1
    refine callO_by sE_ok (by kernel_rfl) (loops_none (by kernel_rfl)) (n := 4) ((rd_f16n_eq p q r u a b c d e t).trans ?_)
    obtain ⟨hg1, -⟩ := isH_one hc
    unfold rd_f16n
    simp only [hc, hg1, decide_true, Bool.true_and, Bool.and_self] at hm ⊢
    cases p0 : (p == 0)
    · rw [p0] at hm
      simp only [Bool.false_and, Bool.true_eq_false, false_and, false_or, Bool.not_false, true_and] at hm
      obtain ⟨rfl, rfl⟩ := hm
      cases (p == 1) <;> cases (p == 2) <;> cases (p == 3) <;> rfl
    · rw [p0] at hm
      by_cases ho : oneB a b c d e t = 0
      · simp only [ho, beq_self_eq_true, Bool.and_self, true_and, Bool.not_true, Bool.true_eq_false, false_and, or_false] at hm
        obtain ⟨rfl, rfl⟩ := hm
        simp only [ho, beq_self_eq_true, bne_self_eq_false, br_true, br_false]
      · have h1 : (oneB a b c d e t == 0) = false := by simpa using ho
        have h2 : (oneB a b c d e t != 0) = true := by simpa using ho
        simp only [h1, Bool.and_false, Bool.true_eq_false, false_and, false_or, Bool.not_false, true_and] at hm
        obtain ⟨rfl, rfl⟩ := hm
        simp only [h1, h2, br_true]
  · cases hm

def shortA (es : List AV) : Bool := br (decide (jA (es.map toA) < es.length) && decide (jA (es.map toA) < 60)) false (decide ((es.length : Int) ≤ 60))
def sShort (a : List AV) (h : Heap) : List (Bool × Res × Heap) := match a, h with
  | [.view 10 es], [] => [(gdA es, .ret (.bool (shortA es)), [])]
  | [.nils], [] => [(true, .ret (.bool true), [])]
  | _, _ => []
theorem s15_ok : ∀ a h r h', (true, r, h') ∈ sShort a h → callO IP 15 a h = some (r, h') := by
  intro a h r h' hm
  unfold sShort at hm
  split at hm
  · rename_i es
    simp only [List.mem_cons, Prod.mk.injEq, List.not_mem_nil, or_false] at hm
    obtain ⟨hb, rfl, rfl⟩ := hm
    refine callO_by noS_ok (by kernel_rfl) L15_ok (n := 4) ((rd_f15_eq es).trans ?_)
    unfold rd_f15 shortA
    rw [← hb]
    cases decide (jA (es.map toA) < es.length) <;> cases decide (jA (es.map toA) < 60) <;> rfl
  · simp only [List.mem_cons, Prod.mk.injEq, List.not_mem_nil, or_false] at hm
    obtain ⟨-, rfl, rfl⟩ := hm
    exact callO_iff.2 ⟨6, by kernel_rfl⟩
  · cases hm

def sF : Summ := addS 16 sDone (addS 15 sShort sE)
theorem sF_ok : SummOk IP sF := addS_ok (addS_ok sE_ok s15_ok) s16_ok

end Go.Proofs.H22

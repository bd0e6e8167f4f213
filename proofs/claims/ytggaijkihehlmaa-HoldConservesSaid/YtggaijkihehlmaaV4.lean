/- HoldValid: its loop. -/
import Derived.Test.YtggaijkihehlmaaG17
import Derived.Test.YtggaijkihehlmaaF18
set_option linter.unusedVariables false
set_option linter.unusedSimpArgs false
set_option linter.unnecessarySimpa false
namespace Go.Proofs.H22
open Go Go.Eng
set_option maxRecDepth 20000

abbrev cKG (R : Type) : CallK R := callN IP sG (inl0 IP) (loopN noL) 4
theorem cKG_ok {R : Type} : CallS (R := R) (callO IP) (cKG R) := calls_ok sG_ok _ 4

def next5 (es : List AV) (p q r u : Int) (h : H) : List AV :=
  br (p == 0) (br (placeE es h != 0) es (es ++ [h.av]))
    (br (p == 1) (br (useE es q r u != 0) es (br (allB es q r) (delA es q) (setA es q r)))
      (br (p == 2) (br (inA (isId q) es) (delA es q) es) es))
def nxt5 (x : AV) (a : A) : AV := match x with
  | .view _ es => .view 6 (next5 es a.kind a.id a.n a.day a.h)
  | _ => br ((a.kind == 0) && oneB a.h.id a.h.acc a.h.amt a.h.frm a.h.to a.h.key == 0) (.view 6 [a.h.av]) .nils
def lAt5 (x : AV) (us : List A) : Nat → AV
  | 0 => x
  | i + 1 => nxt5 (lAt5 x us i) (ga us i)

def InvV (x : AV) : Prop := x = .nils ∨ ∃ es, x = .view 6 es ∧ gd es = true ∧ Vld (es.map toH)

theorem cap_v {es : List AV} (h : gd es = true) (v : Vld (es.map toH)) : cap es = true := cap_100 h (by have := v.len; rw [List.length_map] at this; omega)

theorem invV_nxt {x : AV} (hx : InvV x) {a : A} (ha : isH a.h.av = true) : InvV (nxt5 x a) := by
  rcases hx with rfl | ⟨es, rfl, hg, hv⟩
  · simp only [nxt5]
    cases ho : ((a.kind == 0) && oneB a.h.id a.h.acc a.h.amt a.h.frm a.h.to a.h.key == 0)
    · exact Or.inl rfl
    · refine Or.inr ⟨_, rfl, (isH_one ha).1, ?_⟩
      simp only [Bool.and_eq_true, beq_iff_eq] at ho
      show Vld [a.h]
      rw [← chk_iff, chk_one]; exact ho.2
  · have hc := cap_v hg hv
    simp only [nxt5]
    refine Or.inr ⟨_, rfl, ?_⟩
    unfold next5
    cases (a.kind == 0)
    · cases (a.kind == 1)
      · cases (a.kind == 2)
        · exact ⟨hg, hv⟩
        · cases inA (isId a.id) es
          · exact ⟨hg, hv⟩
          · exact ⟨gd_del hg _, vld_del hv _⟩
      · cases hu : (useE es a.id a.n a.day != 0)
        · have hu0 : useE es a.id a.n a.day = 0 := by simpa using hu
          cases hall : allB es a.id a.n
          · exact ⟨gd_set hg hu0, vld_set hv hu0 hall⟩
          · exact ⟨gd_del hg _, vld_del hv _⟩
        · exact ⟨hg, hv⟩
    · cases hu : (placeE es a.h != 0)
      · have hu0 : placeE es a.h = 0 := by simpa using hu
        refine ⟨gd_app hc ha, ?_⟩
        show Vld ((es ++ [a.h.av]).map toH)
        rw [List.map_append]
        exact vld_app hg hu0
      · exact ⟨hg, hv⟩

theorem invV_at {x : AV} (hx : InvV x) {us : List A} (hu : okA us) : ∀ i, i ≤ us.length → InvV (lAt5 x us i)
  | 0, _ => hx
  | i + 1, hi => by
    refine invV_nxt (invV_at hx hu i (by omega)) (hu.2 _ ?_)
    have : i < us.length := by omega
    simp [ga, this]

abbrev hd5 (x : AV) (us : List AV) (i : Int) : St := ⟨[(1000500, .junk), (0, x), (1, .view 10 us), (5, .int .i64 i)], [], 0, 0⟩
theorem nm5 {x : AV} (hx : InvV x) (us : List AV) (i : Int) : norm [1000500, 0, 1, 5] (hd5 x us i) = some (hd5 x us i) := by
  rcases hx with rfl | ⟨es, rfl, -⟩ <;> kernel_rfl

theorem step5 {x : AV} (hx : InvV x) {us : List A} (hu : okA us) {i : Nat} (hlt : i < us.length) : XKG F5 0 (hd5 x (us.map A.av) i) = some (.normal, hd5 (nxt5 x (ga us i)) (us.map A.av) ((i + 1 : Nat) : Int)) := by
  have ha : isH (ga us i).h.av = true := hu.2 _ (by simp [ga, hlt])
  have hav : AV.agg [AV.int IntKind.i64 (ga us i).h.id, AV.int IntKind.i64 (ga us i).h.acc, AV.int IntKind.i64 (ga us i).h.amt, AV.int IntKind.i64 (ga us i).h.frm, AV.int IntKind.i64 (ga us i).h.to, AV.str (ga us i).h.key] = (ga us i).h.av := rfl
  have hmk : H.mk (ga us i).h.id (ga us i).h.acc (ga us i).h.amt (ga us i).h.frm (ga us i).h.to (ga us i).h.key = (ga us i).h := rfl
  rcases hx with rfl | ⟨es, rfl, hg, hv⟩
  · refine (rd_g5n_eq _ i).trans ?_
    unfold rd_g5n
    simp only [List.length_map, lt_nat, oka_at, hlt, decide_true, br_true, a0, a1, a2, a3, a4, a5, a6, a7, a8, a9, hav, hmk, ha, Bool.true_and, wrap1 hlt hu.1, nxt5, (isH_one ha).1]
    have hck : H.mk (ci (ga us i).h.av 0) (ci (ga us i).h.av 1) (ci (ga us i).h.av 2) (ci (ga us i).h.av 3) (ci (ga us i).h.av 4) (cs (ga us i).h.av 5) = (ga us i).h := rfl
    have hg1 : gd [(ga us i).h.av] = true := (isH_one ha).1
    have hon : onlyB [(ga us i).h] (ga us i).h.id = true := by
      simp [onlyB, gt]
    simp only [hck, chk_one, hg1, hon, Bool.and_self, br_true]
    by_cases ho : oneB (ga us i).h.id (ga us i).h.acc (ga us i).h.amt (ga us i).h.frm (ga us i).h.to (ga us i).h.key = 0
    · simp only [ho, beq_self_eq_true, bne_self_eq_false, br_false, br_true, Bool.and_true]
      cases ((ga us i).kind == 0)
      · cases ((ga us i).kind == 1) <;> cases ((ga us i).kind == 2) <;> rfl
      · rfl
    · have h1 : (oneB (ga us i).h.id (ga us i).h.acc (ga us i).h.amt (ga us i).h.frm (ga us i).h.to (ga us i).h.key == 0) = false := by simpa using ho
      have h2 : (oneB (ga us i).h.id (ga us i).h.acc (ga us i).h.amt (ga us i).h.frm (ga us i).h.to (ga us i).h.key != 0) = true := by simpa using ho
      simp only [h1, h2, br_true, br_false, Bool.and_false]
      cases ((ga us i).kind == 0) <;> cases ((ga us i).kind == 1) <;> cases ((ga us i).kind == 2) <;> rfl
  · have hc := cap_v hg hv
    have he := (es_gd hg).1
    refine (rd_g5v_eq _ _ i).trans ?_
    unfold rd_g5v
    simp only [List.length_map, lt_nat, oka_at, hlt, decide_true, br_true, a0, a1, a2, a3, a4, a5, a6, a7, a8, a9, hav, hmk, ha, hc, Bool.true_and, wrap1 hlt hu.1, nxt5, next5, hg, gd_del hg]
    cases p0 : ((ga us i).kind == 0)
    · cases p1 : ((ga us i).kind == 1)
      · cases p2 : ((ga us i).kind == 2)
        · rfl
        · cases hi : inA (isId (ga us i).id) es
          · rfl
          · obtain ⟨o1, o2⟩ := oth_del hi hv he
            have hch : (chkS ((delA es (ga us i).id).map toH) != 0) = false := by simp [(chk_iff _).2 (vld_del hv _)]
            simp only [o1, o2, hch, br_true, br_false]
      · cases hu : (useE es (ga us i).id (ga us i).n (ga us i).day != 0)
        · have hu0 : useE es (ga us i).id (ga us i).n (ga us i).day = 0 := by simpa using hu
          cases hall : allB es (ga us i).id (ga us i).n
          · obtain ⟨o1, o2⟩ := oth_set hu0 hall hv he
            have hch : (chkS ((setA es (ga us i).id (ga us i).n).map toH) != 0) = false := by simp [(chk_iff _).2 (vld_set hv hu0 hall)]
            simp only [hu0, o1, o2, hch, gd_set hg hu0, beq_self_eq_true, br_true, br_false, Bool.and_self, Bool.and_false, Bool.not_false]
          · obtain ⟨o1, o2⟩ := oth_del (useE_eq hu0).1 hv he
            have hch : (chkS ((delA es (ga us i).id).map toH) != 0) = false := by simp [(chk_iff _).2 (vld_del hv _)]
            simp only [hu0, o1, o2, hch, beq_self_eq_true, br_true, br_false, Bool.and_self]
        · rfl
    · cases hu : (placeE es (ga us i).h != 0)
      · have hu0 : placeE es (ga us i).h = 0 := by simpa using hu
        have v2 := vld_app hg hu0
        obtain ⟨o1, o2⟩ := oth_app hv v2 he
        have hch : (chkS ((es ++ [(ga us i).h.av]).map toH) != 0) = false := by
          rw [List.map_append]; simp [(chk_iff _).2 v2, toH_av]
        simp only [hu0, o1, o2, hch, gd_app hc ha, beq_self_eq_true, br_true, br_false, Bool.and_self]
      · rfl

def end5 (x : AV) (us : List AV) (n : Int) : X × St := match x with
  | .view _ es => ex_g5v_4 es us n
  | _ => ex_g5n_1 us n

theorem run5 {x : AV} (hx : InvV x) {us : List A} (hu : okA us) : loopO IP [1000500, 0, 1, 5] (loopAt F5 0).2 (hd5 x (us.map A.av) 0) = some (end5 (lAt5 x us us.length) (us.map A.av) us.length) := by
  have key : ∀ i, i ≤ us.length → InvV (lAt5 x us i) := invV_at hx hu
  have hfix : ∀ i, InvV (lAt5 x us (min i us.length)) := fun i => key _ (Nat.min_le_right _ _)
  have := loop_run (IP := IP) (cK := cKG _) (lK := loopN noL) (keep := [1000500, 0, 1, 5]) (c := (loopAt F5 0).2) cKG_ok (loopS_none (by kernel_rfl)) (fun i => hd5 (lAt5 x us (min i us.length)) (us.map A.av) i) us.length (fun i => nm5 (hfix i) _ _) (fun i hlt => by
    have e1 : min i us.length = i := by omega
    have e2 : min (i + 1) us.length = i + 1 := by omega
    simp only [e1, e2]
    exact step5 (key i (by omega)) hu hlt) (r := end5 (lAt5 x us us.length) (us.map A.av) us.length) (by
      rcases key us.length (Nat.le_refl _) with h | ⟨es, h, -⟩ <;> rw [h] <;> (intro h; cases h)) (by
      simp only [Nat.min_self]
      rcases key us.length (Nat.le_refl _) with h | ⟨es, h, -⟩ <;> rw [h]
      · refine (rd_g5n_eq _ _).trans ?_
        unfold rd_g5n
        simp only [List.length_map, lt_nat, Nat.lt_irrefl, decide_false, br_false, end5]
      · refine (rd_g5v_eq _ _ _).trans ?_
        unfold rd_g5v
        simp only [List.length_map, lt_nat, Nat.lt_irrefl, decide_false, br_false, end5])
  simp only [Nat.zero_min] at this
  exact this

def xN5 (x : AV) (us : List AV) : AV := lAt5 x (us.map toA) us.length

def L5 (s : St) : List (Bool × X × St) := match s with
  | ⟨[(1000500, .junk), (0, .view 6 es), (1, .view 10 us), (5, .int .i64 0)], [], 0, 0⟩ =>
    let c := gd es && chkS (es.map toH) == 0 && gdA us
    [(c && isVw (xN5 (.view 6 es) us), ex_g5v_4 (viewOf (xN5 (.view 6 es) us)) us us.length), (c && !isVw (xN5 (.view 6 es) us), ex_g5n_1 us us.length)]
  | ⟨[(1000500, .junk), (0, .nils), (1, .view 10 us), (5, .int .i64 0)], [], 0, 0⟩ =>
    [(gdA us && isVw (xN5 .nils us), ex_g5v_4 (viewOf (xN5 .nils us)) us us.length), (gdA us && !isVw (xN5 .nils us), ex_g5n_1 us us.length)]
  | ⟨[(1000500, .junk), (0, .view 6 es), (1, .nils), (5, .int .i64 0)], [], 0, 0⟩ => [(true, ex_g5e_0 es)]
  | _ => []

theorem end5_of {x : AV} (us : List AV) (n : Int) : (isVw x = true → end5 x us n = ex_g5v_4 (viewOf x) us n) ∧ (isVw x = false → end5 x us n = ex_g5n_1 us n) := by
  cases x <;> simp [isVw, end5, viewOf]

theorem L5_ok : ∀ p ∈ loops F5.body, LoopOf (loopO IP) (oneL 1000500 L5) p.1 p.2 := by
  refine loops_one (ks := [0, 1, 5]) (c := (loopAt F5 0).2) (by kernel_rfl) ?_ ?_
  · intro s x s' hn hm
    unfold L5 at hm
    split at hm
    · rename_i es us
      simp only [List.mem_cons, Prod.mk.injEq, List.not_mem_nil, or_false] at hm
      rcases hm with ⟨hb, hq⟩ | ⟨hb, hq⟩ <;> simp only [eq_comm (a := true), Bool.and_eq_true, beq_iff_eq, Bool.not_eq_true'] at hb <;> obtain ⟨⟨⟨hg, hl⟩, hu⟩, hv⟩ := hb
      · obtain ⟨he, ho⟩ := es_gdA hu
        have h4 := run5 (x := .view 6 es) (Or.inr ⟨es, rfl, hg, (chk_iff _).1 hl⟩) ho
        rw [← he, List.length_map] at h4
        rw [hq, ← (end5_of us us.length).1 hv]; exact h4
      · obtain ⟨he, ho⟩ := es_gdA hu
        have h4 := run5 (x := .view 6 es) (Or.inr ⟨es, rfl, hg, (chk_iff _).1 hl⟩) ho
        rw [← he, List.length_map] at h4
        rw [hq, ← (end5_of us us.length).2 hv]; exact h4
    · rename_i us
      simp only [List.mem_cons, Prod.mk.injEq, List.not_mem_nil, or_false] at hm
      rcases hm with ⟨hb, hq⟩ | ⟨hb, hq⟩ <;> simp only [eq_comm (a := true), Bool.and_eq_true, Bool.not_eq_true'] at hb <;> obtain ⟨hu, hv⟩ := hb
      · obtain ⟨he, ho⟩ := es_gdA hu
        have h4 := run5 (x := .nils) (Or.inl rfl) ho
        rw [← he, List.length_map] at h4
        rw [hq, ← (end5_of us us.length).1 hv]; exact h4
      · obtain ⟨he, ho⟩ := es_gdA hu
        have h4 := run5 (x := .nils) (Or.inl rfl) ho
        rw [← he, List.length_map] at h4
        rw [hq, ← (end5_of us us.length).2 hv]; exact h4
    · rename_i es
      simp only [List.mem_cons, Prod.mk.injEq, List.not_mem_nil, or_false] at hm
      rw [hm.2]
      exact loop_out (lK := loopN noL) (cKG_ok (R := X × St)) (loopS_none (by kernel_rfl)) (by kernel_rfl) (by intro h; cases h) (rd_g5e_eq es)
    · cases hm
  · intro s s1 hn hne
    unfold L5 at hne
    split at hne
    · kernel_rfl
    · kernel_rfl
    · kernel_rfl
    · exact absurd rfl hne

end Go.Proofs.H22

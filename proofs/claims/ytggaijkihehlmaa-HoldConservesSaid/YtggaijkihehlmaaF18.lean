/- HoldActs: its loop. -/
import Derived.Test.YtggaijkihehlmaaG13
set_option linter.unusedVariables false
set_option linter.unusedSimpArgs false
set_option linter.unnecessarySimpa false
namespace Go.Proofs.H22
open Go Go.Eng
set_option maxRecDepth 20000

abbrev cKF (R : Type) : CallK R := callN IP sF (inl0 IP) (loopN noL) 4
theorem cKF_ok {R : Type} : CallS (R := R) (callO IP) (cKF R) := calls_ok sF_ok _ 4

def nxt (x : AV) (a : A) : AV := match x with
  | .view _ es => br (toNil es a.kind a.day) .nils (.view 6 (nextA es a.kind a.id a.n a.day a.h))
  | _ => br ((a.kind == 0) && oneB a.h.id a.h.acc a.h.amt a.h.frm a.h.to a.h.key == 0) (.view 6 [a.h.av]) .nils

def lAt (x : AV) (us : List A) : Nat → AV
  | 0 => x
  | i + 1 => nxt (lAt x us i) (ga us i)

def Inv (x : AV) : Prop := x = .nils ∨ ∃ es, x = .view 6 es ∧ gd es = true ∧ es.length ≤ 100

theorem cap_100 {es : List AV} (h : gd es = true) (hl : es.length ≤ 100) : cap es = true := by
  have h1 : (es.length + 1) * 56 ≤ lim := by unfold lim; omega
  simp only [cap, h, Bool.true_and, decide_eq_true h1]

theorem chk_len {l : List H} (h : chkS l = 0) : l.length ≤ 64 := by
  simp only [chkS] at h
  by_cases h1 : (l.length : Int) > 64
  · rw [decide_eq_true h1] at h; cases h
  · omega

theorem del_len (es : List AV) (t : Int) : (delA es t).length ≤ es.length := by
  unfold delA; rw [List.length_eraseIdx]; split <;> omega

theorem inv_nxt {x : AV} (hx : Inv x) {a : A} (ha : isH a.h.av = true) : Inv (nxt x a) := by
  rcases hx with rfl | ⟨es, rfl, hg, hl⟩
  · simp only [nxt]
    cases ((a.kind == 0) && oneB a.h.id a.h.acc a.h.amt a.h.frm a.h.to a.h.key == 0)
    · exact Or.inl rfl
    · exact Or.inr ⟨_, rfl, (isH_one ha).1, by simp⟩
  · have hc := cap_100 hg hl
    simp only [nxt]
    cases toNil es a.kind a.day
    · refine Or.inr ⟨_, rfl, ?_⟩
      unfold nextA
      cases (a.kind == 0)
      · cases (a.kind == 1)
        · cases (a.kind == 2)
          · cases (a.kind == 3)
            · exact ⟨hg, hl⟩
            · exact ⟨gd_gs hg _, Nat.le_trans (gsA_len _ _) hl⟩
          · cases inA (isId a.id) es
            · exact ⟨hg, hl⟩
            · exact ⟨gd_del hg _, Nat.le_trans (del_len _ _) hl⟩
        · cases hu : (useE es a.id a.n a.day != 0)
          · have hu0 : useE es a.id a.n a.day = 0 := by simpa using hu
            cases allB es a.id a.n
            · exact ⟨gd_set hg hu0, by show (setA es a.id a.n).length ≤ 100; simpa [setA] using hl⟩
            · exact ⟨gd_del hg _, Nat.le_trans (del_len _ _) hl⟩
          · exact ⟨hg, hl⟩
      · cases hu : (placeE es a.h != 0)
        · have hu0 : placeE es a.h = 0 := by simpa using hu
          have h1 := (place_path hu0).1
          have h2 : chkS (es.map toH) = 0 := by simpa using h1
          have h3 := chk_len h2
          rw [List.length_map] at h3
          refine ⟨gd_app hc ha, ?_⟩
          show (es ++ [a.h.av]).length ≤ 100
          simp; omega
        · exact ⟨hg, hl⟩
    · exact Or.inl rfl

theorem inv_at {x : AV} (hx : Inv x) {us : List A} (hu : okA us) : ∀ i, i ≤ us.length → Inv (lAt x us i)
  | 0, _ => hx
  | i + 1, hi => by
    refine inv_nxt (inv_at hx hu i (by omega)) (hu.2 _ ?_)
    have : i < us.length := by omega
    simp [ga, this]

abbrev hd4 (x : AV) (us : List AV) (i : Int) : St := ⟨[(1000400, .junk), (0, x), (1, .view 10 us), (5, .int .i64 i)], [], 0, 0⟩
theorem nm4 {x : AV} (hx : Inv x) (us : List AV) (i : Int) : norm [1000400, 0, 1, 5] (hd4 x us i) = some (hd4 x us i) := by
  rcases hx with rfl | ⟨es, rfl, -⟩ <;> kernel_rfl

theorem step4 {x : AV} (hx : Inv x) {us : List A} (hu : okA us) {i : Nat} (hlt : i < us.length) : XKF F4 0 (hd4 x (us.map A.av) i) = some (.normal, hd4 (nxt x (ga us i)) (us.map A.av) ((i + 1 : Nat) : Int)) := by
  have ha : isH (ga us i).h.av = true := hu.2 _ (by simp [ga, hlt])
  have hav : AV.agg [AV.int IntKind.i64 (ga us i).h.id, AV.int IntKind.i64 (ga us i).h.acc, AV.int IntKind.i64 (ga us i).h.amt, AV.int IntKind.i64 (ga us i).h.frm, AV.int IntKind.i64 (ga us i).h.to, AV.str (ga us i).h.key] = (ga us i).h.av := rfl
  have hmk : H.mk (ga us i).h.id (ga us i).h.acc (ga us i).h.amt (ga us i).h.frm (ga us i).h.to (ga us i).h.key = (ga us i).h := rfl
  rcases hx with rfl | ⟨es, rfl, hg, hl⟩
  · refine (rd_g4n_eq _ i).trans ?_
    unfold rd_g4n
    simp only [List.length_map, lt_nat, oka_at, hlt, decide_true, br_true, a0, a1, a2, a3, a4, a5, a6, a7, a8, a9, hav, hmk, ha, Bool.true_and, wrap1 hlt hu.1, nxt]
    cases ((ga us i).kind == 0 && oneB (ga us i).h.id (ga us i).h.acc (ga us i).h.amt (ga us i).h.frm (ga us i).h.to (ga us i).h.key == 0) <;> rfl
  · have hc := cap_100 hg hl
    refine (rd_g4v_eq _ _ i).trans ?_
    unfold rd_g4v
    simp only [List.length_map, lt_nat, oka_at, hlt, decide_true, br_true, a0, a1, a2, a3, a4, a5, a6, a7, a8, a9, hav, hmk, ha, hc, Bool.true_and, wrap1 hlt hu.1, nxt]
    cases toNil es (ga us i).kind (ga us i).day <;> rfl

def end4 (x : AV) (us : List AV) (n : Int) : X × St := match x with
  | .view _ es => ex_g4v_0 es us n
  | _ => ex_g4n_0 us n

theorem run4 {x : AV} (hx : Inv x) {us : List A} (hu : okA us) : loopO IP [1000400, 0, 1, 5] (loopAt F4 0).2 (hd4 x (us.map A.av) 0) = some (end4 (lAt x us us.length) (us.map A.av) us.length) := by
  have key : ∀ i, i ≤ us.length → Inv (lAt x us i) := inv_at hx hu
  have hfix : ∀ i, Inv (lAt x us (min i us.length)) := fun i => key _ (Nat.min_le_right _ _)
  have := loop_run (IP := IP) (cK := cKF _) (lK := loopN noL) (keep := [1000400, 0, 1, 5]) (c := (loopAt F4 0).2) cKF_ok (loopS_none (by kernel_rfl)) (fun i => hd4 (lAt x us (min i us.length)) (us.map A.av) i) us.length (fun i => nm4 (hfix i) _ _) (fun i hlt => by
    have e1 : min i us.length = i := by omega
    have e2 : min (i + 1) us.length = i + 1 := by omega
    simp only [e1, e2]
    exact step4 (key i (by omega)) hu hlt) (r := end4 (lAt x us us.length) (us.map A.av) us.length) (by
      rcases key us.length (Nat.le_refl _) with h | ⟨es, h, -⟩ <;> rw [h] <;> (intro h; cases h)) (by
      simp only [Nat.min_self]
      rcases key us.length (Nat.le_refl _) with h | ⟨es, h, -⟩ <;> rw [h]
      · refine (rd_g4n_eq _ _).trans ?_
        simp only [rd_g4n, List.length_map, lt_nat, Nat.lt_irrefl, decide_false, br_false, end4]
      · refine (rd_g4v_eq _ _ _).trans ?_
        simp only [rd_g4v, List.length_map, lt_nat, Nat.lt_irrefl, decide_false, br_false, end4])
  simp only [Nat.zero_min] at this
  exact this

def xN (x : AV) (us : List AV) : AV := lAt x (us.map toA) us.length
def isVw : AV → Bool
  | .view _ _ => true
  | _ => false

def L4 (s : St) : List (Bool × X × St) := match s with
  | ⟨[(1000400, .junk), (0, .view 6 es), (1, .view 10 us), (5, .int .i64 0)], [], 0, 0⟩ =>
    [(gd es && decide (es.length ≤ 100) && gdA us && isVw (xN (.view 6 es) us), ex_g4v_0 (viewOf (xN (.view 6 es) us)) us us.length), (gd es && decide (es.length ≤ 100) && gdA us && !isVw (xN (.view 6 es) us), ex_g4n_0 us us.length)]
  | ⟨[(1000400, .junk), (0, .nils), (1, .view 10 us), (5, .int .i64 0)], [], 0, 0⟩ =>
    [(gdA us && isVw (xN .nils us), ex_g4v_0 (viewOf (xN .nils us)) us us.length), (gdA us && !isVw (xN .nils us), ex_g4n_0 us us.length)]
  | ⟨[(1000400, .junk), (0, .view 6 es), (1, .nils), (5, .int .i64 0)], [], 0, 0⟩ => [(true, ex_g4e_0 es)]
  | _ => []

theorem end4_of {x : AV} (us : List AV) (n : Int) : (isVw x = true → end4 x us n = ex_g4v_0 (viewOf x) us n) ∧ (isVw x = false → end4 x us n = ex_g4n_0 us n) := by
  cases x <;> simp [isVw, end4, viewOf]

theorem L4_ok : ∀ p ∈ loops F4.body, LoopOf (loopO IP) (oneL 1000400 L4) p.1 p.2 := by
  refine loops_one (ks := [0, 1, 5]) (c := (loopAt F4 0).2) (by kernel_rfl) ?_ ?_
  · intro s x s' hn hm
    unfold L4 at hm
    split at hm
    · rename_i es us
      simp only [List.mem_cons, Prod.mk.injEq, List.not_mem_nil, or_false] at hm
      rcases hm with ⟨hb, hq⟩ | ⟨hb, hq⟩ <;> simp only [eq_comm (a := true), Bool.and_eq_true, decide_eq_true_eq, Bool.not_eq_true'] at hb <;> obtain ⟨⟨⟨hg, hl⟩, hu⟩, hv⟩ := hb
      · obtain ⟨he, ho⟩ := es_gdA hu
        have h4 := run4 (x := .view 6 es) (Or.inr ⟨es, rfl, hg, hl⟩) ho
        rw [← he, List.length_map] at h4
        rw [hq, ← (end4_of us us.length).1 hv]; exact h4
      · obtain ⟨he, ho⟩ := es_gdA hu
        have h4 := run4 (x := .view 6 es) (Or.inr ⟨es, rfl, hg, hl⟩) ho
        rw [← he, List.length_map] at h4
        rw [hq, ← (end4_of us us.length).2 hv]; exact h4
    · rename_i us
      simp only [List.mem_cons, Prod.mk.injEq, List.not_mem_nil, or_false] at hm
      rcases hm with ⟨hb, hq⟩ | ⟨hb, hq⟩ <;> simp only [eq_comm (a := true), Bool.and_eq_true, decide_eq_true_eq, Bool.not_eq_true'] at hb <;> obtain ⟨hu, hv⟩ := hb
      · obtain ⟨he, ho⟩ := es_gdA hu
        have h4 := run4 (x := .nils) (Or.inl rfl) ho
        rw [← he, List.length_map] at h4
        rw [hq, ← (end4_of us us.length).1 hv]; exact h4
      · obtain ⟨he, ho⟩ := es_gdA hu
        have h4 := run4 (x := .nils) (Or.inl rfl) ho
        rw [← he, List.length_map] at h4
        rw [hq, ← (end4_of us us.length).2 hv]; exact h4
    · rename_i es
      simp only [List.mem_cons, Prod.mk.injEq, List.not_mem_nil, or_false] at hm
      rw [hm.2]
      exact loop_out (lK := loopN noL) (cKF_ok (R := X × St)) (loopS_none (by kernel_rfl)) (by kernel_rfl) (by intro h; cases h) (rd_g4e_eq es)
    · cases hm
  · intro s s1 hn hne
    unfold L4 at hne
    split at hne
    · kernel_rfl
    · kernel_rfl
    · kernel_rfl
    · exact absurd rfl hne

end Go.Proofs.H22

/- HoldConserves: its loop's end, as a summary. -/
import Derived.Test.YtggaijkihehlmaaC3
set_option linter.unusedVariables false
set_option linter.unusedSimpArgs false
set_option linter.unnecessarySimpa false
namespace Go.Proofs.H22
open Go Go.Eng
set_option maxRecDepth 20000

def sAt (s : S6) (us : List A) : Nat → S6
  | 0 => s
  | i + 1 => nx6 (sAt s us i) (ga us i)

theorem inv6_at {s : S6} (hI : Inv6 s.x s.al s.go) {us : List A} (hu : okA us) : ∀ i, i ≤ us.length → Inv6 (sAt s us i).x (sAt s us i).al (sAt s us i).go
  | 0, _ => hI
  | i + 1, hi => by
    refine inv6_nx (inv6_at hI hu i (by omega)) (hu.2 _ ?_)
    have : i < us.length := by omega
    simp [ga, this]

def end6 (s : S6) (us : List AV) (n : Int) : X × St := match s.x with
  | .view _ es => ex_g6v_24 es us s.al s.go n
  | _ => ex_g6n_6 us s.al s.go n

theorem lo6 : LoopS (R := X × St) (loopO IP) (loopN LI) (loopAt F6 0).2 := by
  refine loopS_of ?_
  have h : loops (loopAt F6 0).2 = [([1000601, 0, 1, 5, 6, 7, 8, 17, 18, 19], (loopAt F6 1).2)] := by kernel_rfl
  rw [h]
  intro p hp
  simp only [List.mem_singleton] at hp
  subst hp
  exact L601_ok

theorem run6 {s : S6} (hI : Inv6 s.x s.al s.go) {us : List A} (hu : okA us) : loopO IP [1000600, 0, 1, 5, 6, 7] (loopAt F6 0).2 (hd6 s (us.map A.av) 0) = some (end6 (sAt s us us.length) (us.map A.av) us.length) := by
  have key : ∀ i, i ≤ us.length → Inv6 (sAt s us i).x (sAt s us i).al (sAt s us i).go := inv6_at hI hu
  have hfix : ∀ i, InvV (sAt s us (min i us.length)).x := fun i => (key _ (Nat.min_le_right _ _)).1
  have := loop_run (IP := IP) (cK := cKO _) (lK := loopN LI) (keep := [1000600, 0, 1, 5, 6, 7]) (c := (loopAt F6 0).2) cKO_ok lo6 (fun i => hd6 (sAt s us (min i us.length)) (us.map A.av) i) us.length (fun i => nm6 (hfix i) _ _) (fun i hlt => by
    have e1 : min i us.length = i := by omega
    have e2 : min (i + 1) us.length = i + 1 := by omega
    simp only [e1, e2]
    exact step6 (key i (by omega)) hu hlt) (r := end6 (sAt s us us.length) (us.map A.av) us.length) (by
      have h1 := (key us.length (Nat.le_refl _)).1
      unfold end6
      rcases h1 with h | ⟨es, h, -⟩ <;> rw [h] <;> (intro h; cases h)) (by
      simp only [Nat.min_self]
      have h1 := (key us.length (Nat.le_refl _)).1
      generalize sAt s us us.length = z at h1 ⊢
      obtain ⟨x, al, go⟩ := z
      simp only at h1
      rcases h1 with h | ⟨es, h, -⟩ <;> subst h
      · refine (rd_g6n_eq _ _ _ _).trans ?_
        unfold rd_g6n
        simp only [List.length_map, lt_nat, Nat.lt_irrefl, decide_false, br_false, end6]
      · refine (rd_g6v_eq _ _ _ _ _).trans ?_
        unfold rd_g6v
        simp only [List.length_map, lt_nat, Nat.lt_irrefl, decide_false, br_false, end6])
  simp only [Nat.zero_min] at this
  exact this

def zN (x : AV) (al go : Int) (us : List AV) : S6 := sAt ⟨x, al, go⟩ (us.map toA) us.length

def L6 (s : St) : List (Bool × X × St) := match s with
  | ⟨[(1000600, .junk), (0, .view 6 es), (1, .view 10 us), (5, .int .i64 al), (6, .int .i64 go), (7, .int .i64 0)], [], 0, 0⟩ =>
    let c := gd es && chkS (es.map toH) == 0 && gdA us && W (tot (es.map toH) + go) == al
    let z := zN (.view 6 es) al go us
    [(c && isVw z.x, ex_g6v_24 (viewOf z.x) us z.al z.go us.length), (c && !isVw z.x, ex_g6n_6 us z.al z.go us.length)]
  | ⟨[(1000600, .junk), (0, .nils), (1, .view 10 us), (5, .int .i64 al), (6, .int .i64 go), (7, .int .i64 0)], [], 0, 0⟩ =>
    let c := gdA us && W (tot [] + go) == al
    let z := zN .nils al go us
    [(c && isVw z.x, ex_g6v_24 (viewOf z.x) us z.al z.go us.length), (c && !isVw z.x, ex_g6n_6 us z.al z.go us.length)]
  | ⟨[(1000600, .junk), (0, .view 6 es), (1, .nils), (5, .int .i64 al), (6, .int .i64 0), (7, .int .i64 0)], [], 0, 0⟩ => [(true, ex_g6e_0 es al)]
  | _ => []

theorem end6_of {s : S6} (us : List AV) (n : Int) : (isVw s.x = true → end6 s us n = ex_g6v_24 (viewOf s.x) us s.al s.go n) ∧ (isVw s.x = false → end6 s us n = ex_g6n_6 us s.al s.go n) := by
  obtain ⟨x, al, go⟩ := s
  cases x <;> simp [isVw, end6, viewOf]

theorem L6_out : LoopOf (loopO IP) (oneL 1000600 L6) [1000600, 0, 1, 5, 6, 7] (loopAt F6 0).2 := by
  refine loopOf_at (g := L6) rfl ?_ ?_
  · intro s x s' hn hm
    unfold L6 at hm
    split at hm
    · rename_i es us al go
      simp only [List.mem_cons, Prod.mk.injEq, List.not_mem_nil, or_false] at hm
      rcases hm with ⟨hb, hq⟩ | ⟨hb, hq⟩ <;> simp only [eq_comm (a := true), Bool.and_eq_true, beq_iff_eq, Bool.not_eq_true'] at hb <;> obtain ⟨⟨⟨⟨hg, hl⟩, hu⟩, hw⟩, hv⟩ := hb <;> obtain ⟨he, ho⟩ := es_gdA hu
      · have h4 := run6 (s := ⟨.view 6 es, al, go⟩) ⟨Or.inr ⟨es, rfl, hg, (chk_iff _).1 hl⟩, hw⟩ ho
        rw [← he, List.length_map] at h4
        rw [hq, ← (end6_of us us.length).1 hv]; exact h4
      · have h4 := run6 (s := ⟨.view 6 es, al, go⟩) ⟨Or.inr ⟨es, rfl, hg, (chk_iff _).1 hl⟩, hw⟩ ho
        rw [← he, List.length_map] at h4
        rw [hq, ← (end6_of us us.length).2 hv]; exact h4
    · rename_i us al go
      simp only [List.mem_cons, Prod.mk.injEq, List.not_mem_nil, or_false] at hm
      rcases hm with ⟨hb, hq⟩ | ⟨hb, hq⟩ <;> simp only [eq_comm (a := true), Bool.and_eq_true, beq_iff_eq, Bool.not_eq_true'] at hb <;> obtain ⟨⟨hu, hw⟩, hv⟩ := hb <;> obtain ⟨he, ho⟩ := es_gdA hu
      · have h4 := run6 (s := ⟨.nils, al, go⟩) ⟨Or.inl rfl, hw⟩ ho
        rw [← he, List.length_map] at h4
        rw [hq, ← (end6_of us us.length).1 hv]; exact h4
      · have h4 := run6 (s := ⟨.nils, al, go⟩) ⟨Or.inl rfl, hw⟩ ho
        rw [← he, List.length_map] at h4
        rw [hq, ← (end6_of us us.length).2 hv]; exact h4
    · rename_i es al
      simp only [List.mem_cons, Prod.mk.injEq, List.not_mem_nil, or_false] at hm
      rw [hm.2]
      exact loop_out (lK := loopN LI) (cKO_ok (R := X × St)) lo6 (by kernel_rfl) (by intro h; cases h) (rd_g6e_eq es al)
    · cases hm
  · intro s s1 hn hne
    unfold L6 at hne
    split at hne
    · kernel_rfl
    · kernel_rfl
    · kernel_rfl
    · exact absurd rfl hne

theorem L6_ok : ∀ p ∈ loops F6.body, LoopOf (loopO IP) (oneL 1000600 L6) p.1 p.2 := by
  have h : loops F6.body = [([1000600, 0, 1, 5, 6, 7], (loopAt F6 0).2), ([1000601, 0, 1, 5, 6, 7, 8, 17, 18, 19], (loopAt F6 1).2)] := by kernel_rfl
  rw [h]
  intro p hp
  simp only [List.mem_cons, List.not_mem_nil, or_false] at hp
  rcases hp with rfl | rfl
  · exact L6_out
  · refine loopOf_none fun id hid => ?_
    cases hid
    rfl

end Go.Proofs.H22

/- others: its loop and its summary. -/
import Derived.Test.YtggaijkihehlmaaG15
set_option linter.unusedVariables false
set_option linter.unusedSimpArgs false
set_option linter.unnecessarySimpa false
namespace Go.Proofs.H22
open Go Go.Eng
set_option maxRecDepth 20000

abbrev cKV (R : Type) : CallK R := callN IP sF (inl0 IP) (loopN noL) 4
theorem cKV_ok {R : Type} : CallS (R := R) (callO IP) (cKV R) := calls_ok sF_ok _ 4

/-- The i-th hold has the Id, or is found as it is. -/
def sameB (l : List H) (fs : List AV) (t : Int) (i : Nat) : Bool := (gt l i).id == t || (inA (isId (gt l i).id) fs && decide (hA fs (ixA (isId (gt l i).id) fs) = gt l i))
def othersB (l : List H) (fs : List AV) (t : Int) : Bool := (List.range l.length).all (sameB l fs t)

abbrev hd20 (es fs : List AV) (t i : Int) : St := ⟨[(1002000, .junk), (0, .view 6 es), (1, .view 6 fs), (2, .int .i64 t), (7, .int .i64 i)], [], 0, 0⟩
theorem nm20 (es fs : List AV) (t i : Int) : norm [1002000, 0, 1, 2, 7] (hd20 es fs t i) = some (hd20 es fs t i) := by kernel_rfl
theorem run20 {l : List H} (h : okL l) {fs : List AV} (hf : gd fs = true) (t : Int) (hs : othersB l fs t = true) : loopO IP [1002000, 0, 1, 2, 7] (loopAt F20 0).2 (hd20 (l.map H.av) fs t 0) = some (ex_g20v_2 (l.map H.av) fs t l.length) := by
  refine loop_run (lK := loopN noL) cKV_ok (loopS_none (by kernel_rfl)) (fun i => hd20 (l.map H.av) fs t i) l.length (fun i => nm20 ..) ?_ (by intro h; cases h) ?_
  · intro i hlt
    have hi := all_range hs hlt
    simp only [sameB] at hi
    refine (rd_g20v_eq _ _ t i).trans ?_
    unfold rd_g20v
    simp only [List.length_map, lt_nat, ok_at, hlt, decide_true, br_true, c0, c1, c2, c3, c4, c5, wrap1 hlt h.1, hf, Bool.true_and, if_true]
    by_cases ht : (gt l i).id = t
    · have e1 : ((gt l i).id != t) = false := by simp [ht]
      simp only [e1, br_false]
      cases inA (isId (gt l i).id) fs <;> rfl
    · have e1 : ((gt l i).id != t) = true := by simp [ht]
      have e2 : ((gt l i).id == t) = false := by simp [ht]
      simp only [e2, Bool.false_or, Bool.and_eq_true, decide_eq_true_eq] at hi
      simp only [e1, hi.1, hi.2, br_true, beq_self_eq_true, Bool.and_self, Bool.not_true, br_false]
  · refine (rd_g20v_eq _ _ _ _).trans ?_
    unfold rd_g20v
    simp only [List.length_map, lt_nat, Nat.lt_irrefl, decide_false, br_false]

abbrev hd20n (es : List AV) (t i : Int) : St := ⟨[(1002000, .junk), (0, .view 6 es), (1, .nils), (2, .int .i64 t), (7, .int .i64 i)], [], 0, 0⟩
theorem nm20n (es : List AV) (t i : Int) : norm [1002000, 0, 1, 2, 7] (hd20n es t i) = some (hd20n es t i) := by kernel_rfl
def onlyB (l : List H) (t : Int) : Bool := (List.range l.length).all fun i => (gt l i).id == t
theorem run20n {l : List H} (h : okL l) (t : Int) (hs : onlyB l t = true) : loopO IP [1002000, 0, 1, 2, 7] (loopAt F20 0).2 (hd20n (l.map H.av) t 0) = some (ex_g20n_1 (l.map H.av) t l.length) := by
  refine loop_run (lK := loopN noL) cKV_ok (loopS_none (by kernel_rfl)) (fun i => hd20n (l.map H.av) t i) l.length (fun i => nm20n ..) ?_ (by intro h; cases h) ?_
  · intro i hlt
    have hi := all_range hs hlt
    refine (rd_g20n_eq _ t i).trans ?_
    have e1 : ((gt l i).id != t) = false := by simp [bne, hi]
    unfold rd_g20n
    simp only [List.length_map, lt_nat, ok_at, hlt, decide_true, br_true, c0, wrap1 hlt h.1, e1, br_false]
  · refine (rd_g20n_eq _ _ _).trans ?_
    unfold rd_g20n
    simp only [List.length_map, lt_nat, Nat.lt_irrefl, decide_false, br_false]

def L20 (s : St) : List (Bool × X × St) := match s with
  | ⟨[(1002000, .junk), (0, .view 6 es), (1, .view 6 fs), (2, .int .i64 t), (7, .int .i64 0)], [], 0, 0⟩ => [(gd es && gd fs && othersB (es.map toH) fs t, ex_g20v_2 es fs t es.length)]
  | ⟨[(1002000, .junk), (0, .view 6 es), (1, .nils), (2, .int .i64 t), (7, .int .i64 0)], [], 0, 0⟩ => [(gd es && onlyB (es.map toH) t, ex_g20n_1 es t es.length)]
  | _ => []
theorem L20_ok : ∀ p ∈ loops F20.body, LoopOf (loopO IP) (oneL 1002000 L20) p.1 p.2 := by
  refine loops_one (ks := [0, 1, 2, 7]) (c := (loopAt F20 0).2) (by kernel_rfl) ?_ ?_
  · intro s x s' hn hm
    unfold L20 at hm
    split at hm
    · rename_i es fs t
      simp only [List.mem_cons, Prod.mk.injEq, List.not_mem_nil, or_false] at hm
      obtain ⟨hb, hq⟩ := hm
      simp only [eq_comm (a := true), Bool.and_eq_true] at hb
      obtain ⟨⟨h1, h2⟩, h3⟩ := hb
      have h4 := run20 (es_gd h1).2 h2 t h3
      rw [← (es_gd h1).1, List.length_map] at h4
      rw [hq]; exact h4
    · rename_i es t
      simp only [List.mem_cons, Prod.mk.injEq, List.not_mem_nil, or_false] at hm
      obtain ⟨hb, hq⟩ := hm
      simp only [eq_comm (a := true), Bool.and_eq_true] at hb
      have h4 := run20n (es_gd hb.1).2 t hb.2
      rw [← (es_gd hb.1).1, List.length_map] at h4
      rw [hq]; exact h4
    · cases hm
  · intro s s1 hn hne
    unfold L20 at hne
    split at hne
    · exact nm20 ..
    · exact nm20n ..
    · exact absurd rfl hne

end Go.Proofs.H22

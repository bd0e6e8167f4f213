/- Check's loops as summaries. -/
import Derived.Test.YtggaijkihehlmaaF3
set_option linter.unusedVariables false
set_option linter.unusedSimpArgs false
set_option linter.unnecessarySimpa false
namespace Go.Proofs.H22
open Go Go.Eng
set_option maxRecDepth 20000

theorem end11_es {es : List AV} (h : gd es = true) : end11 (es.map toH) (aJ es) = br (aIn es)
    (br (aF es) (br (aK es) (br (aP es) (br (aO es) (ex_g11_2 es es.length (aJ es)) (ex_g11_3 es es.length (aJ es))) (ex_g11_4 es es.length (aJ es))) (ex_g11_1 es es.length (aJ es))) (ex_g11_0 es es.length (aJ es)))
    (ex_g11_5 es es.length (aJ es)) := by
  simp only [end11, aIn, aF, aK, aP, aO]
  rw [← (es_gd h).1, List.length_map]

theorem end12_es {es : List AV} (h : gd es = true) : end12 (es.map toH) (aJ es) = br (aIn es)
    (br (aF es && aK es) (br (aP es) (br (aO es) (ex_g12_1 es (aJ es)) (ex_g12_2 es (aJ es))) (ex_g12_3 es (aJ es))) (ex_g12_0 es (aJ es)))
    (ex_g12_4 es (aJ es)) := by
  simp only [end12, aIn, aF, aK, aP, aO]
  rw [← (es_gd h).1, List.length_map]

theorem L11_ok : ∀ p ∈ loops F11.body, LoopOf (loopO IP) (oneL 1001100 L11) p.1 p.2 := by
  refine loops_one (ks := [0, 8, 9, 10]) (c := (loopAt F11 0).2) (by kernel_rfl) ?_ ?_
  · intro s x s' hn hm
    unfold L11 at hm
    split at hm
    · rename_i es fs n
      generalize hc : (gd es && gd fs && decide (fs.map toH = es.map toH) && decide (n = (es.length : Int))) = c at hm
      cases c
      · simp only [Bool.false_and, List.mem_cons, Prod.mk.injEq, List.not_mem_nil, or_false, Bool.true_eq_false, false_and] at hm
      · simp only [Bool.and_eq_true, decide_eq_true_eq] at hc
        obtain ⟨⟨⟨hg, hg2⟩, he⟩, rfl⟩ := hc
        have : fs = es := by rw [(es_gd hg).1, (es_gd hg2).1, he]
        subst this
        have h4 := run11 (es_gd hg).2
        rw [show firstErr (fs.map toH) = aJ fs from rfl, end11_es hg, ← (es_gd hg).1, List.length_map] at h4
        simp only [List.mem_cons, Prod.mk.injEq, List.not_mem_nil, or_false, Bool.true_and] at hm
        rw [h4]
        rcases hm with ⟨hb, hq⟩ | ⟨hb, hq⟩ | ⟨hb, hq⟩ | ⟨hb, hq⟩ | ⟨hb, hq⟩ | ⟨hb, hq⟩ <;> rw [hq] <;> revert hb <;> cases aIn fs <;> cases aF fs <;> cases aK fs <;> cases aP fs <;> cases aO fs <;> intro hb <;> first | rfl | cases hb
    · cases hm
  · intro s s1 hn hne
    unfold L11 at hne
    split at hne
    · rename_i es fs n
      by_cases he : fs.map toH = es.map toH
      · by_cases hg : gd es = true <;> by_cases hg2 : gd fs = true
        · have : fs = es := by rw [(es_gd hg).1, (es_gd hg2).1, he]
          subst this
          exact nm11 ..
        · kernel_rfl
        · kernel_rfl
        · kernel_rfl
      · kernel_rfl
    · exact absurd rfl hne

theorem L12_ok : ∀ p ∈ loops F12.body, LoopOf (loopO IP) (oneL 1001200 L12) p.1 p.2 := by
  refine loops_one (ks := [0, 3]) (c := (loopAt F12 0).2) (by kernel_rfl) ?_ ?_
  · intro s x s' hn hm
    unfold L12 at hm
    split at hm
    · rename_i es
      generalize hc : gd es = c at hm
      cases c
      · simp only [Bool.false_and, List.mem_cons, Prod.mk.injEq, List.not_mem_nil, or_false, Bool.true_eq_false, false_and] at hm
      · have h4 := run12 (es_gd hc).2
        rw [show firstErr (es.map toH) = aJ es from rfl, end12_es hc, ← (es_gd hc).1] at h4
        simp only [List.mem_cons, Prod.mk.injEq, List.not_mem_nil, or_false, Bool.true_and] at hm
        rw [h4]
        rcases hm with ⟨hb, hq⟩ | ⟨hb, hq⟩ | ⟨hb, hq⟩ | ⟨hb, hq⟩ | ⟨hb, hq⟩ <;> rw [hq] <;> revert hb <;> cases aIn es <;> cases aF es <;> cases aK es <;> cases aP es <;> cases aO es <;> intro hb <;> first | rfl | cases hb
    · cases hm
  · intro s s1 hn hne
    unfold L12 at hne
    split at hne
    · exact nm12 ..
    · exact absurd rfl hne

end Go.Proofs.H22

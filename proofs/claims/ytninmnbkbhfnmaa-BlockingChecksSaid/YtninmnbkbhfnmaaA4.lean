/- Check, short: their summaries. -/
import Derived.Test.YtninmnbkbhfnmaaG4
set_option linter.unusedVariables false
set_option linter.unusedSimpArgs false
set_option linter.unnecessarySimpa false
namespace Go.Proofs.H23
open Go Go.Eng
set_option maxRecDepth 20000

def chkS (es : List AV) : Int := br (decide ((es.length : Int) > 64)) 5 (br (aC es == 9) 0 (br (aC es == 0) 1 (br (aC es == 1) 4 10)))
theorem aC_cases (es : List AV) : aC es = 9 ∨ aC es = 0 ∨ aC es = 1 ∨ aC es = 2 := by
  unfold aC
  cases decide (aJ es < es.length)
  · exact Or.inl rfl
  · rw [br_true]
    rcases kC_cases (es.map toH) (aJ es) with h | h | h | h <;> simp [h]

def sChk (a : List AV) (h : Heap) : List (Bool × Res × Heap) := match a, h with
  | [.view 7 es], [] => [(gd es, .ret (.int .i64 (chkS es)), [])]
  | [.nils], [] => [(true, .ret (.int .i64 0), [])]
  | _, _ => []
theorem s10_ok : ∀ a h r h', (true, r, h') ∈ sChk a h → callO IP 10 a h = some (r, h') := by
  intro a h r h' hm
  unfold sChk at hm
  split at hm
  · rename_i es
    simp only [List.mem_cons, Prod.mk.injEq, List.not_mem_nil, or_false] at hm
    obtain ⟨hb, rfl, rfl⟩ := hm
    refine callO_by sA_ok (by kernel_rfl) L10_ok (n := 4) ((rd_f10_eq es).trans ?_)
    unfold rd_f10 chkS
    rw [← hb, decide_eq_true (rfl : es.map toH = es.map toH), decide_eq_true (rfl : (es.length : Int) = (es.length : Int))]
    rcases aC_cases es with h | h | h | h <;> rw [h] <;> cases decide ((es.length : Int) > 64) <;> rfl
  · simp only [List.mem_cons, Prod.mk.injEq, List.not_mem_nil, or_false] at hm
    obtain ⟨-, rfl, rfl⟩ := hm
    exact callO_iff.2 ⟨6, by kernel_rfl⟩
  · cases hm
theorem s11_ok : ∀ a h r h', (true, r, h') ∈ sChk a h → callO IP 11 a h = some (r, h') := by
  intro a h r h' hm
  unfold sChk at hm
  split at hm
  · rename_i es
    simp only [List.mem_cons, Prod.mk.injEq, List.not_mem_nil, or_false] at hm
    obtain ⟨hb, rfl, rfl⟩ := hm
    refine callO_by sA_ok (by kernel_rfl) L11_ok (n := 4) ((rd_f11_eq es).trans ?_)
    unfold rd_f11 chkS
    rw [← hb]
    rcases aC_cases es with h | h | h | h <;> rw [h] <;> cases decide ((es.length : Int) > 64) <;> rfl
  · simp only [List.mem_cons, Prod.mk.injEq, List.not_mem_nil, or_false] at hm
    obtain ⟨-, rfl, rfl⟩ := hm
    exact callO_iff.2 ⟨6, by kernel_rfl⟩
  · cases hm
def sShort (a : List AV) (h : Heap) : List (Bool × Res × Heap) := match a, h with
  | [.view 7 es], [] => [(gd es, .ret (.bool (!inA isBig es)), [])]
  | [.nils], [] => [(true, .ret (.bool true), [])]
  | _, _ => []
theorem s9_ok : ∀ a h r h', (true, r, h') ∈ sShort a h → callO IP 9 a h = some (r, h') := by
  intro a h r h' hm
  unfold sShort at hm
  split at hm
  · rename_i es
    simp only [List.mem_cons, Prod.mk.injEq, List.not_mem_nil, or_false] at hm
    obtain ⟨hb, rfl, rfl⟩ := hm
    refine callO_by noS_ok (by kernel_rfl) L9_ok (n := 4) ((rd_f9_eq es).trans ?_)
    unfold rd_f9
    rw [← hb]
    cases inA isBig es <;> rfl
  · simp only [List.mem_cons, Prod.mk.injEq, List.not_mem_nil, or_false] at hm
    obtain ⟨-, rfl, rfl⟩ := hm
    exact callO_iff.2 ⟨6, by kernel_rfl⟩
  · cases hm
def sLive (a : List AV) (h : Heap) : List (Bool × Res × Heap) := match a, h with
  | [], [] => [(true, .ret (.bool true), [])]
  | _, _ => []
theorem s12_ok : ∀ a h r h', (true, r, h') ∈ sLive a h → callO IP 12 a h = some (r, h') := by
  intro a h r h' hm
  unfold sLive at hm
  split at hm
  · simp only [List.mem_cons, Prod.mk.injEq, List.not_mem_nil, or_false] at hm
    obtain ⟨-, rfl, rfl⟩ := hm
    exact live12
  · cases hm
def sB : Summ := addS 9 sShort (addS 10 sChk (addS 11 sChk (addS 12 sLive sA)))
theorem sB_ok : SummOk IP sB := addS_ok (addS_ok (addS_ok (addS_ok sA_ok s12_ok) s11_ok) s10_ok) s9_ok
end Go.Proofs.H23

/- From the machine to the rows: what the laws' arguments are. -/
import Derived.Test.YtpoebijgpbaccaaX4
import Derived.Test.YtpoebijgpbaccaaIrOk53
import Derived.Test.YtpoebijgpbaccaaE3
set_option linter.unusedVariables false
set_option linter.unusedSimpArgs false
set_option linter.unnecessarySimpa false
namespace Go.Proofs.H53
open Go Go.Eng
set_option maxRecDepth 20000

theorem progOk : ProgOk Try.prog IP := by
  refine ⟨fun f F h => tab_ok tab tab_all f F h, fun f g _ hs => ?_⟩
  have hs' : specs f = some g := hs
  unfold specs at hs'
  split at hs'
  · rename_i hf
    subst hf
    cases hs'
    exact clone_spec ok34 cl34a cl34b cl34c
  · split at hs'
    · rename_i hf
      subst hf
      cases hs'
      exact clone_spec ok35 cl35a cl35b cl35c
    · cases hs'

abbrev shA : List Sh := [.int .i64, .int .i64, .int .i64]
abbrev shW : List Sh := [.int .i64, .int .i64, .str]
abbrev shN : List Sh := [.int .i64, .slice 3 true 61, .slice 3 true 33]
theorem shT61 : shT Try.prog 61 = shA := by kernel_rfl
theorem shT33 : shT Try.prog 33 = shW := by kernel_rfl
theorem fit_A {d : Nat} {xs : List AV} (h : FitW (Fit maxLen (shT Try.prog) d) shA xs) : ∃ y : Avl, .agg xs = y.av ∧ True := by
  obtain ⟨_, _, rfl, h0, _, _, rfl, h1, _, _, rfl, h2, rfl⟩ := h
  obtain ⟨a, rfl, _⟩ := fit_int h0
  obtain ⟨b, rfl, _⟩ := fit_int h1
  obtain ⟨c, rfl, _⟩ := fit_int h2
  exact ⟨⟨a, b, c⟩, rfl, trivial⟩
theorem fit_W {d : Nat} {xs : List AV} (h : FitW (Fit maxLen (shT Try.prog) d) shW xs) : ∃ y : Wai, .agg xs = y.av ∧ y.key.length ≤ big := by
  obtain ⟨_, _, rfl, h0, _, _, rfl, h1, _, _, rfl, h2, rfl⟩ := h
  obtain ⟨a, rfl, _⟩ := fit_int h0
  obtain ⟨b, rfl, _⟩ := fit_int h1
  obtain ⟨c, rfl, hl⟩ := fit_str h2
  exact ⟨⟨a, b, c⟩, rfl, hl⟩
theorem fit_LW {d : Nat} {x : AV} (h : Fit maxLen (shT Try.prog) d (.slice 3 true 33) x) : ∃ q : List Wai, x = .view 3 (EW q) ∧ okL q := by
  obtain ⟨q, hq, h1, h2⟩ := fit_list (av := Wai.av) (p := fun w => w.key.length ≤ big) h fun d xs hx => by rw [shT33] at hx; exact fit_W hx
  exact ⟨q, hq, h1, h2⟩
theorem fit_N {d : Nat} {xs : List AV} (h : FitW (Fit maxLen (shT Try.prog) d) shN xs) : ∃ (lm : Int) (a : List Avl) (q : List Wai), xs = [.int .i64 lm, .view 3 (EA a), .view 3 (EW q)] ∧ a.length ≤ big ∧ okL q := by
  obtain ⟨_, _, rfl, h0, _, _, rfl, h1, _, _, rfl, h2, rfl⟩ := h
  obtain ⟨lm, rfl, _⟩ := fit_int h0
  obtain ⟨a, rfl, ha, _⟩ := fit_list (av := Avl.av) (p := fun _ => True) h1 fun d xs hx => by rw [shT61] at hx; exact fit_A hx
  obtain ⟨q, rfl, hq⟩ := fit_LW h2
  exact ⟨lm, a, q, rfl, ha, hq⟩

theorem law3 {d : Nat} {avs : List AV} (h : FitP (Fit maxLen (shT Try.prog) d) [(true, shN), (false, [.int .i64])] avs) : callO IP 3 avs [] = some (.ret (.bool true), []) := by
  obtain ⟨xs, r, rfl, h0, y, r', rfl, ⟨_, _, e1, h1, rfl⟩, rfl⟩ := h
  cases e1
  obtain ⟨lm, a, q, rfl, ha, hq⟩ := fit_N h0
  obtain ⟨id, rfl, _⟩ := fit_int h1
  exact c3 (lm, EA a, EW q, id) true (f3_val ha hq lm id)
theorem law4 {d : Nat} {avs : List AV} (h : FitP (Fit maxLen (shT Try.prog) d) [(true, shN), (true, shW)] avs) : callO IP 4 avs [] = some (.ret (.bool true), []) := by
  obtain ⟨xs, r, rfl, h0, ys, r', rfl, h1, rfl⟩ := h
  obtain ⟨lm, a, q, rfl, ha, hq⟩ := fit_N h0
  obtain ⟨w, hw, hk⟩ := fit_W h1
  rw [hw]
  exact c4 (lm, EA a, EW q, w.acc, w.amt, w.key) true (f4_val ha hq lm w.acc w.amt hk)

end Go.Proofs.H53

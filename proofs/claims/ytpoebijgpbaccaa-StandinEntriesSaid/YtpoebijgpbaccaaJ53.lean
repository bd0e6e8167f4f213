/- From the machine to the rows: what the laws' arguments are. -/
import Derived.Test.YtpoebijgpbaccaaX6
import Derived.Test.YtpoebijgpbaccaaIrOk53
import Derived.Test.YtpoebijgpbaccaaE3
set_option linter.unusedVariables false
set_option linter.unusedSimpArgs false
set_option linter.unnecessarySimpa false
namespace Go.Proofs.H53
open Go Go.Eng
set_option maxRecDepth 20000

theorem progOk : ProgOk Try.prog IP := by
  refine ⟨fun f F h => tab_ok tab tab_all f F h, fun f g _ hs => ?_⟩
  have hs' : specs f = some g := hs
  unfold specs at hs'
  split at hs'
  · rename_i hf
    subst hf
    cases hs'
    exact clone_spec ok34 cl34a cl34b cl34c
  · split at hs'
    · rename_i hf
      subst hf
      cases hs'
      exact clone_spec ok35 cl35a cl35b cl35c
    · cases hs'

abbrev shA : List Sh := [.int .i64, .int .i64, .int .i64]
abbrev shW : List Sh := [.int .i64, .int .i64, .str]
abbrev shN : List Sh := [.int .i64, .slice 3 true 61, .slice 3 true 33]
theorem shT61 : shT Try.prog 61 = shA := by kernel_rfl
theorem shT33 : shT Try.prog 33 = shW := by kernel_rfl
theorem fit_A {d : Nat} {xs : List AV} (h : FitW (Fit maxLen (shT Try.prog) d) shA xs) : ∃ y : Avl, .agg xs = y.av ∧ True := by
  obtain ⟨_, _, rfl, h0, _, _, rfl, h1, _, _, rfl, h2, rfl⟩ := h
  obtain ⟨a, rfl, _⟩ := fit_int h0
  obtain ⟨b, rfl, _⟩ := fit_int h1
  obtain ⟨c, rfl, _⟩ := fit_int h2
  exact ⟨⟨a, b, c⟩, rfl, trivial⟩
theorem fit_W {d : Nat} {xs : List AV} (h : FitW (Fit maxLen (shT Try.prog) d) shW xs) : ∃ y : Wai, .agg xs = y.av ∧ y.key.length ≤ big := by
  obtain ⟨_, _, rfl, h0, _, _, rfl, h1, _, _, rfl, h2, rfl⟩ := h
  obtain ⟨a, rfl, _⟩ := fit_int h0
  obtain ⟨b, rfl, _⟩ := fit_int h1
  obtain ⟨c, rfl, hl⟩ := fit_str h2
  exact ⟨⟨a, b, c⟩, rfl, hl⟩
theorem fit_LW {d : Nat} {x : AV} (h : Fit maxLen (shT Try.prog) d (.slice 3 true 33) x) : ∃ q : List Wai, x = .view 3 (EW q) ∧ okL q := by
  obtain ⟨q, hq, h1, h2⟩ := fit_list (av := Wai.av) (p := fun w => w.key.length ≤ big) h fun d xs hx => by rw [shT33] at hx; exact fit_W hx
  exact ⟨q, hq, h1, h2⟩
theorem fit_N {d : Nat} {xs : List AV} (h : FitW (Fit maxLen (shT Try.prog) d) shN xs) : ∃ (lm : Int) (a : List Avl) (q : List Wai), xs = [.int .i64 lm, .view 3 (EA a), .view 3 (EW q)] ∧ a.length ≤ big ∧ okL q := by
  obtain ⟨_, _, rfl, h0, _, _, rfl, h1, _, _, rfl, h2, rfl⟩ := h
  obtain ⟨lm, rfl, _⟩ := fit_int h0
  obtain ⟨a, rfl, ha, _⟩ := fit_list (av := Avl.av) (p := fun _ => True) h1 fun d xs hx => by rw [shT61] at hx; exact fit_A hx
  obtain ⟨q, rfl, hq⟩ := fit_LW h2
  exact ⟨lm, a, q, rfl, ha, hq⟩

theorem law3 {d : Nat} {avs : List AV} (h : FitP (Fit maxLen (shT Try.prog) d) [(true, shN), (false, [.int .i64])] avs) : callO IP 3 avs [] = some (.ret (.bool true), []) := by
  obtain ⟨xs, r, rfl, h0, y, r', rfl, ⟨_, _, e1, h1, rfl⟩, rfl⟩ := h
  cases e1
  obtain ⟨lm, a, q, rfl, ha, hq⟩ := fit_N h0
  obtain ⟨id, rfl, _⟩ := fit_int h1
  exact c3 (lm, EA a, EW q, id) true (f3_val ha hq lm id)
theorem law4 {d : Nat} {avs : List AV} (h : FitP (Fit maxLen (shT Try.prog) d) [(true, shN), (true, shW)] avs) : callO IP 4 avs [] = some (.ret (.bool true), []) := by
  obtain ⟨xs, r, rfl, h0, ys, r', rfl, h1, rfl⟩ := h
  obtain ⟨lm, a, q, rfl, ha, hq⟩ := fit_N h0
  obtain ⟨w, hw, hk⟩ := fit_W h1
  rw [hw]
  exact c4 (lm, EA a, EW q, w.acc, w.amt, w.key) true (f4_val ha hq lm w.acc w.amt hk)

theorem law6 {d : Nat} {avs : List AV} (h : FitP (Fit maxLen (shT Try.prog) d) [(true, shN), (false, [.slice 3 true 33])] avs) : callO IP 6 avs [] = some (.ret (.bool true), []) := by
  obtain ⟨xs, r, rfl, h0, y, r', rfl, ⟨_, _, e1, h1, rfl⟩, rfl⟩ := h
  cases e1
  obtain ⟨lm, a, q, rfl, ha, hq⟩ := fit_N h0
  obtain ⟨l, rfl, hl⟩ := fit_LW h1
  exact c6 (lm, EA a, EW q, EW l) true (f6_val ha hq hl lm)

-- law5
abbrev shP : List Sh := [.str, .str, .str, .int .i64, .int .i64, .int .i64, .int .i64, .slice 2 true 154, .bool, .int .i64, .int .i64, .bool, .slice 2 true 154, .bool, .int .i64, .int .i64, .bool, .slice 10 true 159, .slice 6 true 161]
abbrev shC : List Sh := [.int .i64, .int .i64, .int .i64, .int .i64, .str, .str, .str]
theorem shT70 : shT Try.prog 70 = shP := by kernel_rfl
theorem shT72 : shT Try.prog 72 = shC := by kernel_rfl
theorem fit_P {d : Nat} {xs : List AV} (h : FitW (Fit maxLen (shT Try.prog) d) shP xs) : ∃ y : Prd, .agg xs = y.av ∧ True := by
  obtain ⟨_, _, rfl, h0, _, _, rfl, h1, _, _, rfl, h2, _, _, rfl, h3, _, _, rfl, h4, _, _, rfl, h5, _, _, rfl, h6, _, _, rfl, h7, _, _, rfl, h8, _, _, rfl, h9, _, _, rfl, h10, _, _, rfl, h11, _, _, rfl, h12, _, _, rfl, h13, _, _, rfl, h14, _, _, rfl, h15, _, _, rfl, h16, _, _, rfl, h17, _, _, rfl, h18, rfl⟩ := h
  obtain ⟨x0, rfl, _⟩ := fit_str h0
  obtain ⟨x1, rfl, _⟩ := fit_str h1
  obtain ⟨x2, rfl, _⟩ := fit_str h2
  obtain ⟨x3, rfl, _⟩ := fit_int h3
  obtain ⟨x4, rfl, _⟩ := fit_int h4
  obtain ⟨x5, rfl, _⟩ := fit_int h5
  obtain ⟨x6, rfl, _⟩ := fit_int h6
  obtain ⟨x7, rfl, _⟩ := fit_view h7
  obtain ⟨x8, rfl⟩ := fit_bool h8
  obtain ⟨x9, rfl, _⟩ := fit_int h9
  obtain ⟨x10, rfl, _⟩ := fit_int h10
  obtain ⟨x11, rfl⟩ := fit_bool h11
  obtain ⟨x12, rfl, _⟩ := fit_view h12
  obtain ⟨x13, rfl⟩ := fit_bool h13
  obtain ⟨x14, rfl, _⟩ := fit_int h14
  obtain ⟨x15, rfl, _⟩ := fit_int h15
  obtain ⟨x16, rfl⟩ := fit_bool h16
  obtain ⟨x17, rfl, _⟩ := fit_view h17
  obtain ⟨x18, rfl, _⟩ := fit_view h18
  exact ⟨⟨x0, x1, x2, x3, x4, x5, x6, x7, x8, x9, x10, x11, x12, x13, x14, x15, x16, x17, x18⟩, rfl, trivial⟩
theorem fit_C {d : Nat} {xs : List AV} (h : FitW (Fit maxLen (shT Try.prog) d) shC xs) : ∃ y : Acc, .agg xs = y.av ∧ True := by
  obtain ⟨_, _, rfl, h0, _, _, rfl, h1, _, _, rfl, h2, _, _, rfl, h3, _, _, rfl, h4, _, _, rfl, h5, _, _, rfl, h6, rfl⟩ := h
  obtain ⟨x0, rfl, _⟩ := fit_int h0
  obtain ⟨x1, rfl, _⟩ := fit_int h1
  obtain ⟨x2, rfl, _⟩ := fit_int h2
  obtain ⟨x3, rfl, _⟩ := fit_int h3
  obtain ⟨x4, rfl, _⟩ := fit_str h4
  obtain ⟨x5, rfl, _⟩ := fit_str h5
  obtain ⟨x6, rfl, _⟩ := fit_str h6
  exact ⟨⟨x0, x1, x2, x3, x4, x5, x6⟩, rfl, trivial⟩
abbrev shB : List Sh := [.slice 2 true 147, .slice 3 true 150, .slice 4 true 152, .int .i64, .int .i64, .int .i64, .int .i64, .int .i64, .int .i64, .int .i64, .int .i64, .int .i64, .int .i64, .int .i64, .int .i64, .int .i64, .int .i64, .slice 19 true 70, .slice 7 true 72, .slice 10 true 58, .slice 6 true 115, .slice 7 true 118]
theorem law5 {d : Nat} {avs : List AV} (h : FitP (Fit maxLen (shT Try.prog) d) [(true, shB), (true, shN), (false, [.int .i64])] avs) : callO IP 5 avs [] = some (.ret (.bool true), []) := by
  obtain ⟨xs, r, rfl, hb, ys, r', rfl, hn, y, r'', rfl, ⟨_, _, e1, hd, rfl⟩, rfl⟩ := h
  cases e1
  obtain ⟨_, _, rfl, h0, _, _, rfl, h1, _, _, rfl, h2, _, _, rfl, h3, _, _, rfl, h4, _, _, rfl, h5, _, _, rfl, h6, _, _, rfl, h7, _, _, rfl, h8, _, _, rfl, h9, _, _, rfl, h10, _, _, rfl, h11, _, _, rfl, h12, _, _, rfl, h13, _, _, rfl, h14, _, _, rfl, h15, _, _, rfl, h16, _, _, rfl, h17, _, _, rfl, h18, _, _, rfl, h19, _, _, rfl, h20, _, _, rfl, h21, rfl⟩ := hb
  obtain ⟨x0, rfl, _⟩ := fit_view h0
  obtain ⟨x1, rfl, _⟩ := fit_view h1
  obtain ⟨x2, rfl, _⟩ := fit_view h2
  obtain ⟨x3, rfl, _⟩ := fit_int h3
  obtain ⟨x4, rfl, _⟩ := fit_int h4
  obtain ⟨x5, rfl, _⟩ := fit_int h5
  obtain ⟨x6, rfl, _⟩ := fit_int h6
  obtain ⟨x7, rfl, _⟩ := fit_int h7
  obtain ⟨x8, rfl, _⟩ := fit_int h8
  obtain ⟨x9, rfl, _⟩ := fit_int h9
  obtain ⟨x10, rfl, _⟩ := fit_int h10
  obtain ⟨x11, rfl, _⟩ := fit_int h11
  obtain ⟨x12, rfl, _⟩ := fit_int h12
  obtain ⟨x13, rfl, _⟩ := fit_int h13
  obtain ⟨x14, rfl, _⟩ := fit_int h14
  obtain ⟨x15, rfl, _⟩ := fit_int h15
  obtain ⟨x16, rfl, _⟩ := fit_int h16
  obtain ⟨x17, rfl, hp, _⟩ := fit_list (av := Prd.av) (p := fun _ => True) h17 fun d xs hx => by rw [shT70] at hx; exact fit_P hx
  obtain ⟨x18, rfl, hc, _⟩ := fit_list (av := Acc.av) (p := fun _ => True) h18 fun d xs hx => by rw [shT72] at hx; exact fit_C hx
  obtain ⟨x19, rfl, _⟩ := fit_view h19
  obtain ⟨x20, rfl, _⟩ := fit_view h20
  obtain ⟨x21, rfl, _⟩ := fit_view h21
  obtain ⟨lm, a, q, rfl, ha, hq⟩ := fit_N hn
  obtain ⟨day, rfl, _⟩ := fit_int hd
  exact c5 (x0, x1, x2, x3, x4, x5, x6, x7, x8, x9, x10, x11, x12, x13, x14, x15, x16, EP x17, EC x18, x19, x20, x21, lm, EA a, EW q, day) true (f5_val x0 x1 x2 x3 x4 x5 x6 x7 x8 x9 x10 x11 x12 x13 x14 x15 x16 x17 x18 x19 x20 x21 hp hc hq lm day)

end Go.Proofs.H53

/- From the machine to the rows: what the laws' arguments are. -/
import Derived.Test.YtninmnbkbhfnmaaX8
import Derived.Test.YtninmnbkbhfnmaaIrOk23
import Derived.Test.YtninmnbkbhfnmaaE2
set_option linter.unusedVariables false
set_option linter.unusedSimpArgs false
set_option linter.unnecessarySimpa false
namespace Go.Proofs.H23
open Go Go.Eng

theorem progOk : ProgOk Try.prog IP := by
  refine ⟨fun f F h => tab_ok tab tab_all f F h, fun f g _ hs => ?_⟩
  have hs' : specs f = some g := hs
  unfold specs at hs'
  split at hs'
  · rename_i hf
    subst hf
    cases hs'
    exact clone_spec ok29 cl1 cl2 cl3
  · cases hs'

abbrev shH : List Sh := [.int .i64, .int .i64, .int .i64, .int .i64, .int .i64, .int .i64, .str]
theorem shT28 : shT Try.prog 28 = shH := by kernel_rfl

theorem fit_int {d : Nat} {x : AV} (h : Fit maxLen (shT Try.prog) d (.int .i64) x) : ∃ n, x = .int .i64 n := by
  cases d with
  | zero => exact h.elim
  | succ d => obtain ⟨n, h, _⟩ := h; exact ⟨n, h⟩
theorem fit_str {d : Nat} {x : AV} (h : Fit maxLen (shT Try.prog) d .str x) : ∃ s, x = .str s ∧ s.length ≤ big := by
  cases d with
  | zero => exact h.elim
  | succ d => obtain ⟨n, h, hl⟩ := h; exact ⟨n, h, Nat.le_trans hl (by decide)⟩
theorem fit_H {d : Nat} {xs : List AV} (h : FitW (Fit maxLen (shT Try.prog) d) shH xs) : ∃ h : H, .agg xs = h.av ∧ h.src.length ≤ big := by
  obtain ⟨_, _, rfl, h0, _, _, rfl, h1, _, _, rfl, h2, _, _, rfl, h3, _, _, rfl, h4, _, _, rfl, h5, _, _, rfl, h6, rfl⟩ := h
  obtain ⟨a0, rfl⟩ := fit_int h0
  obtain ⟨a1, rfl⟩ := fit_int h1
  obtain ⟨a2, rfl⟩ := fit_int h2
  obtain ⟨a3, rfl⟩ := fit_int h3
  obtain ⟨a4, rfl⟩ := fit_int h4
  obtain ⟨a5, rfl⟩ := fit_int h5
  obtain ⟨a6, rfl, hl⟩ := fit_str h6
  exact ⟨⟨a0, a1, a2, a3, a4, a5, a6⟩, rfl, hl⟩
theorem list_of {α τ : Type} {f : τ → α} {p : τ → Prop} : ∀ {l : List α}, (∀ e ∈ l, ∃ x, e = f x ∧ p x) → ∃ m : List τ, l = m.map f ∧ ∀ x ∈ m, p x
  | [], _ => ⟨[], rfl, by simp⟩
  | e :: l, h => by
    obtain ⟨x, rfl, hx⟩ := h e (by simp)
    obtain ⟨m, rfl, hm⟩ := list_of (l := l) fun e he => h e (by simp [he])
    refine ⟨x :: m, rfl, fun y hy => ?_⟩
    rcases List.mem_cons.1 hy with rfl | hy
    · exact hx
    · exact hm y hy
theorem fit_L {d : Nat} {x : AV} (h : Fit maxLen (shT Try.prog) d (.slice 7 true 28) x) : ∃ l : List H, x = .view 7 (E l) ∧ okS l := by
  cases d with
  | zero => exact h.elim
  | succ d =>
    obtain ⟨es, rfl, hl, he⟩ := h
    obtain ⟨m, rfl, hm⟩ := list_of (f := H.av) (p := fun h => h.src.length ≤ big) (l := es) fun e hx => by
      obtain ⟨xs, rfl, hf⟩ := he e hx
      rw [shT28] at hf
      exact fit_H hf
    exact ⟨m, rfl, Nat.le_trans (by simpa using hl) (by decide), hm⟩

theorem law4 {d : Nat} {avs : List AV} (h : FitP (Fit maxLen (shT Try.prog) d) [(false, [.slice 7 true 28]), (true, shH)] avs) : callO IP 4 avs [] = some (.ret (.bool true), []) := by
  obtain ⟨x, r, rfl, ⟨_, _, e0, h0, rfl⟩, xs, r', rfl, h1, rfl⟩ := h
  cases e0
  obtain ⟨l, rfl, hl⟩ := fit_L h0
  obtain ⟨b, hb, hbl⟩ := fit_H h1
  rw [hb]
  exact c4 (E l, b.id, b.acc, b.kind, b.amt, b.frm, b.to, b.src) true (f4_val hl hbl)

theorem law5 {d : Nat} {avs : List AV} (h : FitP (Fit maxLen (shT Try.prog) d) [(false, [.slice 7 true 28]), (false, [.int .i64]), (false, [.int .i64])] avs) : callO IP 5 avs [] = some (.ret (.bool true), []) := by
  obtain ⟨x, r, rfl, ⟨_, _, e0, h0, rfl⟩, y, r', rfl, ⟨_, _, e1, h1, rfl⟩, z, r'', rfl, ⟨_, _, e2, h2, rfl⟩, rfl⟩ := h
  cases e0; cases e1; cases e2
  obtain ⟨l, rfl, hl⟩ := fit_L h0
  obtain ⟨a, rfl⟩ := fit_int h1
  obtain ⟨b, rfl⟩ := fit_int h2
  exact c5 (E l, a, b) true (f5_val l a b)
theorem fit_A {d : Nat} {xs : List AV} (h : FitW (Fit maxLen (shT Try.prog) d) [.int .i64, .int .i64, .int .i64] xs) : ∃ a b c, xs = [.int .i64 a, .int .i64 b, .int .i64 c] := by
  obtain ⟨_, _, rfl, h0, _, _, rfl, h1, _, _, rfl, h2, rfl⟩ := h
  obtain ⟨a0, rfl⟩ := fit_int h0
  obtain ⟨a1, rfl⟩ := fit_int h1
  obtain ⟨a2, rfl⟩ := fit_int h2
  exact ⟨a0, a1, a2, rfl⟩
theorem law6 {d : Nat} {avs : List AV} (h : FitP (Fit maxLen (shT Try.prog) d) [(false, [.slice 7 true 28]), (true, [.int .i64, .int .i64, .int .i64])] avs) : callO IP 6 avs [] = some (.ret (.bool true), []) := by
  obtain ⟨x, r, rfl, ⟨_, _, e0, h0, rfl⟩, xs, r', rfl, h1, rfl⟩ := h
  cases e0
  obtain ⟨l, rfl, hl⟩ := fit_L h0
  obtain ⟨a, b, c, rfl⟩ := fit_A h1
  exact c6 (E l, a, b, c) true (f6_val l a b c)

theorem law7 {d : Nat} {avs : List AV} (h : FitP (Fit maxLen (shT Try.prog) d) [(false, [.slice 7 true 28]), (true, shH), (true, [.int .i64, .int .i64, .int .i64])] avs) : callO IP 7 avs [] = some (.ret (.bool true), []) := by
  obtain ⟨x, r, rfl, ⟨_, _, e0, h0, rfl⟩, xs, r', rfl, h1, ys, r'', rfl, h2, rfl⟩ := h
  cases e0
  obtain ⟨l, rfl, hl⟩ := fit_L h0
  obtain ⟨b, hb, hbl⟩ := fit_H h1
  obtain ⟨p, q, s, rfl⟩ := fit_A h2
  rw [hb]
  exact c7 (E l, b.id, b.acc, b.kind, b.amt, b.frm, b.to, b.src, p, q, s) true (f7_val hl hbl p q s)
theorem law8 {d : Nat} {avs : List AV} (h : FitP (Fit maxLen (shT Try.prog) d) [(false, [.slice 7 true 28]), (false, [.int .i64]), (true, [.int .i64, .int .i64, .int .i64])] avs) : callO IP 8 avs [] = some (.ret (.bool true), []) := by
  obtain ⟨x, r, rfl, ⟨_, _, e0, h0, rfl⟩, y, r', rfl, ⟨_, _, e1, h1, rfl⟩, ys, r'', rfl, h2, rfl⟩ := h
  cases e0; cases e1
  obtain ⟨l, rfl, hl⟩ := fit_L h0
  obtain ⟨a, rfl⟩ := fit_int h1
  obtain ⟨p, q, s, rfl⟩ := fit_A h2
  exact c8 (E l, a, p, q, s) true (f8_val hl a p q s)

end Go.Proofs.H23

/- Chapter 12: from the machine to the rows. -/
import Derived.Test.YtlgbnjnkcoiceaaGreatDoorX12L
import Derived.Test.YtlgbnjnkcoiceaaGreatDoorG12
import Derived.Test.YtlgbnjnkcoiceaaGreatDoorE3
set_option linter.unusedVariables false
set_option linter.unusedSimpArgs false
set_option linter.unnecessarySimpa false
namespace Go.Proofs.H12
open Go Go.Eng Go.Tk Go.Shelf
set_option maxRecDepth 100000
abbrev shC : List Sh := [.int .i64, .slice 2 true 58, .slice 3 true 47]
theorem shT58 : shT Tryz.prog 58 = [.str, .int .i64] := by kernel_rfl
theorem shT47 : shT Tryz.prog 47 = [.int .i64, .int .i64, .int .i64] := by kernel_rfl
theorem fit_V {d : Nat} {x : AV} (h : Fit maxLen (shT Tryz.prog) d (.slice 2 true 58) x) : ∃ vs : List Va, x = .view 2 (EV vs) ∧ vs.length ≤ big := by
  obtain ⟨l, hl, h1, _⟩ := fit_list (av := Va.av) (p := fun _ => True) h fun d xs hx => by
    rw [shT58] at hx
    obtain ⟨_, _, rfl, h0, _, _, rfl, h1, rfl⟩ := hx
    obtain ⟨a, rfl, _⟩ := fit_str h0
    obtain ⟨b, rfl, _⟩ := fit_int h1
    exact ⟨⟨a, b⟩, rfl, trivial⟩
  exact ⟨l, hl, h1⟩
theorem fit_N {d : Nat} {x : AV} (h : Fit maxLen (shT Tryz.prog) d (.slice 3 true 47) x) : ∃ l : List In, x = .view 3 (EN l) ∧ ∀ y ∈ l, y.n ≤ 9223372036854775807 := by
  obtain ⟨l, hl, _, h2⟩ := fit_list (av := In.av) (p := fun y => y.n ≤ 9223372036854775807) h fun d xs hx => by
    rw [shT47] at hx
    obtain ⟨_, _, rfl, h0, _, _, rfl, h1, _, _, rfl, h2, rfl⟩ := hx
    obtain ⟨a, rfl, _⟩ := fit_int h0
    obtain ⟨b, rfl, _⟩ := fit_int h1
    obtain ⟨c, rfl, hc⟩ := fit_int h2
    refine ⟨⟨a, b, c⟩, rfl, ?_⟩
    simp only [Lit.wf, Bool.and_eq_true, decide_eq_true_eq] at hc
    have h2 := hc.2
    simp [IntKind.max, IntKind.signed, IntKind.bits] at h2
    show c ≤ _
    omega
  exact ⟨l, hl, h2⟩
theorem fit_C {d : Nat} {xs : List AV} (h : FitW (Fit maxLen (shT Tryz.prog) d) shC xs) : ∃ c : Cd, xs = [.int .i64 c.ty, .view 2 (EV c.vars), .view 3 (EN c.ins)] ∧ In64 c := by
  obtain ⟨_, _, rfl, h0, _, _, rfl, h1, _, _, rfl, h2, rfl⟩ := h
  obtain ⟨a, rfl, _⟩ := fit_int h0
  obtain ⟨b, rfl, _⟩ := fit_V h1
  obtain ⟨c, rfl, hc⟩ := fit_N h2
  exact ⟨⟨a, b, c⟩, rfl, hc⟩
theorem law9 {d : Nat} {avs : List AV} (h : FitP (Fit maxLen (shT Tryz.prog) d) [(true, shC), (false, [.int .i64]), (false, [.int .i64])] avs) : callO IP 9 avs [] = some (.ret (.bool true), []) := by
  obtain ⟨xs, r, rfl, h0, y, r', rfl, ⟨_, _, e1, h1, rfl⟩, z, r'', rfl, ⟨_, _, e2, h2, rfl⟩, rfl⟩ := h
  cases e1; cases e2
  obtain ⟨c, rfl, hc⟩ := fit_C h0
  obtain ⟨i, rfl, _⟩ := fit_int h1
  obtain ⟨t, rfl, _⟩ := fit_int h2
  exact c_u56q (c.ty, EV c.vars, EN c.ins, i, t) true (Stops_law hc i t)
end Go.Proofs.H12

/- Chapter 12: from the machine to the rows. -/
import Derived.Test.YtlgbnjnkcoiceaaGreatDoorX12L
import Derived.Test.YtlgbnjnkcoiceaaGreatDoorG12
import Derived.Test.YtlgbnjnkcoiceaaGreatDoorE3
set_option linter.unusedVariables false
set_option linter.unusedSimpArgs false
set_option linter.unnecessarySimpa false
namespace Go.Proofs.H12
open Go Go.Eng Go.Tk Go.Shelf
set_option maxRecDepth 100000
abbrev shX : List Sh := [.int .i64, .int .i64, .str, .slice 4 true 24]
abbrev shC : List Sh := [.int .i64, .slice 2 true 58, .slice 3 true 47]
theorem shT24 : shT Tryz.prog 24 = shX := by kernel_rfl
theorem shT58 : shT Tryz.prog 58 = [.str, .int .i64] := by kernel_rfl
theorem fit_V {d : Nat} {x : AV} (h : Fit maxLen (shT Tryz.prog) d (.slice 2 true 58) x) : ∃ vs : List Va, x = .view 2 (EV vs) ∧ vs.length ≤ big := by
  obtain ⟨l, hl, h1, _⟩ := fit_list (av := Va.av) (p := fun _ => True) h fun d xs hx => by
    rw [shT58] at hx
    obtain ⟨_, _, rfl, h0, _, _, rfl, h1, rfl⟩ := hx
    obtain ⟨a, rfl, _⟩ := fit_str h0
    obtain ⟨b, rfl, _⟩ := fit_int h1
    exact ⟨⟨a, b⟩, rfl, trivial⟩
  exact ⟨l, hl, h1⟩
theorem fit_X : ∀ {d : Nat} {xs : List AV}, FitW (Fit maxLen (shT Tryz.prog) d) shX xs → ∃ e : Ex, xs = [.int .i64 e.op, .int .i64 e.num, .str e.txt, .view 4 (EX e.args)] ∧ Wd e := by
  intro d
  induction d with
  | zero =>
    intro xs h
    obtain ⟨_, _, rfl, h0, _⟩ := h
    exact h0.elim
  | succ d ih =>
    intro xs h
    obtain ⟨_, _, rfl, h0, _, _, rfl, h1, _, _, rfl, h2, _, _, rfl, h3, rfl⟩ := h
    obtain ⟨a, rfl, _⟩ := fit_int h0
    obtain ⟨b, rfl, _⟩ := fit_int h1
    obtain ⟨c, rfl, _⟩ := fit_str h2
    obtain ⟨es, rfl, hlen, hall⟩ := h3
    obtain ⟨l, rfl, hl⟩ := list_of (f := Ex.av) (p := Wd) (l := es) fun e he => by
      obtain ⟨xs, rfl, hf⟩ := hall e he
      rw [shT24] at hf
      obtain ⟨y, rfl, hy⟩ := ih hf
      exact ⟨y, (av_eq y).symm, hy⟩
    refine ⟨.mk a b c l, rfl, ?_⟩
    rw [Wd, Ex.allX_eq, Bool.and_eq_true, List.all_eq_true]
    exact ⟨decide_eq_true (Nat.le_trans (show l.length ≤ maxLen by simpa using hlen) (by decide)), hl⟩
theorem law8 {d : Nat} {avs : List AV} (h : FitP (Fit maxLen (shT Tryz.prog) d) [(true, shX), (true, shX), (false, [.slice 2 true 58])] avs) : callO IP 8 avs [] = some (.ret (.bool true), []) := by
  obtain ⟨xs, r, rfl, h0, ys, r', rfl, h1, z, r'', rfl, ⟨_, _, e1, h2, rfl⟩, rfl⟩ := h
  cases e1
  obtain ⟨x, rfl, hx⟩ := fit_X h0
  obtain ⟨y, rfl, hy⟩ := fit_X h1
  obtain ⟨vs, rfl, hl⟩ := fit_V h2
  exact c_u41q (x.op, x.num, x.txt, EX x.args, y.op, y.num, y.txt, EX y.args, EV vs) true (Differs_law hl hx hy)
end Go.Proofs.H12

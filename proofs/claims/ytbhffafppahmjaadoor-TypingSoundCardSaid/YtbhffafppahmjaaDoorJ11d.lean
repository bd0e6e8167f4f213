/- Chapter 11: from the machine to the rows. -/
import Derived.Test.YtbhffafppahmjaaDoorX11dL
import Derived.Test.YtbhffafppahmjaaDoorG11d
import Derived.Test.YtbhffafppahmjaaDoorE3
set_option linter.unusedVariables false
set_option linter.unusedSimpArgs false
set_option linter.unnecessarySimpa false
namespace Go.Proofs.H11d
open Go Go.Eng Go.Tk Go.Shelf
set_option maxRecDepth 100000
theorem shT3 : shT Tryd.prog 3 = [.int .i64] := by kernel_rfl
theorem shT40 : shT Tryd.prog 40 = [.str, .int .i64] := by kernel_rfl
abbrev shX : List Sh := [.int .i64, .int .i64, .str, .slice 4 true 29]
theorem shT29 : shT Tryd.prog 29 = shX := by kernel_rfl
theorem fit_V {d : Nat} {x : AV} (h : Fit maxLen (shT Tryd.prog) d (.slice 2 true 40) x) : ∃ vs : List Va, x = .view 2 (EV vs) ∧ vs.length ≤ big := by
  obtain ⟨l, hl, h1, _⟩ := fit_list (av := Va.av) (p := fun _ => True) h fun d xs hx => by
    rw [shT40] at hx
    obtain ⟨_, _, rfl, h0, _, _, rfl, h1, rfl⟩ := hx
    obtain ⟨a, rfl, _⟩ := fit_str h0
    obtain ⟨b, rfl, _⟩ := fit_int h1
    exact ⟨⟨a, b⟩, rfl, trivial⟩
  exact ⟨l, hl, h1⟩
theorem fit_I {d : Nat} {x : AV} (h : Fit maxLen (shT Tryd.prog) d (.slice 1 false 3) x) : ∃ l : List Int, x = .view 1 (EI l) ∧ l.length ≤ big := by
  cases d with
  | zero => exact h.elim
  | succ d =>
    obtain ⟨es, rfl, hl, hall⟩ := h
    obtain ⟨m, rfl, _⟩ := list_of (f := fun n : Int => AV.int .i64 n) (p := fun _ => True) (l := es) fun e he => by
      have hf := hall e he
      rw [shT3] at hf
      obtain ⟨_, _, h1, h2, h3⟩ := hf
      cases h1
      obtain ⟨n, rfl, _⟩ := fit_int h2
      exact ⟨n, rfl, trivial⟩
    exact ⟨m, rfl, Nat.le_trans (by simpa using hl) (by decide)⟩
theorem fit_X : ∀ {d : Nat} {xs : List AV}, FitW (Fit maxLen (shT Tryd.prog) d) shX xs → ∃ e : Ex, xs = [.int .i64 e.op, .int .i64 e.num, .str e.txt, .view 4 (EX e.args)] ∧ Wd e := by
  intro d
  induction d with
  | zero =>
    intro xs h
    obtain ⟨_, _, rfl, h0, _⟩ := h
    exact h0.elim
  | succ d ih =>
    intro xs h
    obtain ⟨_, _, rfl, h0, _, _, rfl, h1, _, _, rfl, h2, _, _, rfl, h3, rfl⟩ := h
    obtain ⟨a, rfl, _⟩ := fit_int h0
    obtain ⟨b, rfl, _⟩ := fit_int h1
    obtain ⟨c, rfl, _⟩ := fit_str h2
    obtain ⟨es, rfl, hlen, hall⟩ := h3
    obtain ⟨l, rfl, hl⟩ := list_of (f := Ex.av) (p := Wd) (l := es) fun e he => by
      obtain ⟨xs, rfl, hf⟩ := hall e he
      rw [shT29] at hf
      obtain ⟨y, rfl, hy⟩ := ih hf
      exact ⟨y, (av_eq y).symm, hy⟩
    refine ⟨.mk a b c l, rfl, ?_⟩
    rw [Wd, Ex.allX_eq, Bool.and_eq_true, List.all_eq_true]
    exact ⟨decide_eq_true (Nat.le_trans (show l.length ≤ maxLen by simpa using hlen) (by decide)), hl⟩
theorem law3 {d : Nat} {avs : List AV} (h : FitP (Fit maxLen (shT Tryd.prog) d) [(false, [.int .i64]), (false, [.slice 1 false 3])] avs) : callO IP 3 avs [] = some (.ret (.bool true), []) := by
  obtain ⟨y, r, rfl, ⟨_, _, e1, h1, rfl⟩, z, r', rfl, ⟨_, _, e2, h2, rfl⟩, rfl⟩ := h
  cases e1; cases e2
  obtain ⟨n, rfl, _⟩ := fit_int h1
  obtain ⟨l, rfl, hl⟩ := fit_I h2
  exact c_u14q (n, EI l) true (Results_law hl n)
theorem law4 {d : Nat} {avs : List AV} (h : FitP (Fit maxLen (shT Tryd.prog) d) [(true, shX), (false, [.slice 2 true 40]), (false, [.int .u8])] avs) : callO IP 4 avs [] = some (.ret (.bool true), []) := by
  obtain ⟨xs, r, rfl, h0, y, r', rfl, ⟨_, _, e1, h1, rfl⟩, z, r'', rfl, ⟨_, _, e2, h2, rfl⟩, rfl⟩ := h
  cases e1; cases e2
  obtain ⟨e, rfl, hw⟩ := fit_X h0
  obtain ⟨vs, rfl, hl⟩ := fit_V h1
  obtain ⟨n, rfl, hn⟩ := fit_int h2
  have h3 : 0 ≤ n ∧ n ≤ 255 := by
    have : (decide (0 ≤ n) && decide (n ≤ 255)) = true := hn
    simpa using this
  exact c_u20q (e.op, e.num, e.txt, EX e.args, EV vs, n) true (Sound_law hl hw h3.1 h3.2)
end Go.Proofs.H11d

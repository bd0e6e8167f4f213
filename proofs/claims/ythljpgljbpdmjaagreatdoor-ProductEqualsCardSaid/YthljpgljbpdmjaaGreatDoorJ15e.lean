/- Chapter 15: from the machine to the rows. -/
import Derived.Test.YthljpgljbpdmjaaGreatDoorX15eL
import Derived.Test.YthljpgljbpdmjaaGreatDoorG15e
import Derived.Test.YthljpgljbpdmjaaGreatDoorE3
set_option linter.unusedVariables false
set_option linter.unusedSimpArgs false
set_option linter.unnecessarySimpa false
namespace Go.Proofs.H15e
open Go Go.Eng Go.Tk Go.Shelf
set_option maxRecDepth 100000
abbrev shX : List Sh := [.int .i64, .int .i64, .str, .slice 4 true 60]
theorem shT60 : shT Tryz.prog 60 = shX := by kernel_rfl
theorem shT80 : shT Tryz.prog 80 = [.int .i64, .int .i64] := by kernel_rfl
theorem shT62 : shT Tryz.prog 62 = [.str, .int .i64, .int .i64, .int .i64, .str, .slice 4 true 60, .int .i64, .int .i64, .str, .slice 4 true 60] := by kernel_rfl
theorem shT64 : shT Tryz.prog 64 = [.str, .int .i64, .int .i64, .int .i64, .str, .slice 4 true 60] := by kernel_rfl
abbrev shP : List Sh := [.str, .str, .str, .int .i64, .int .i64, .int .i64, .int .i64, .slice 2 true 80, .bool, .int .i64, .int .i64, .bool, .slice 2 true 80, .bool, .int .i64, .int .i64, .bool, .slice 10 true 62, .slice 6 true 64]
theorem fit_X : ∀ {d : Nat} {xs : List AV}, FitW (Fit maxLen (shT Tryz.prog) d) shX xs → ∃ e : Ex, xs = [.int .i64 e.op, .int .i64 e.num, .str e.txt, .view 4 (EX e.args)] := by
  intro d
  induction d with
  | zero =>
    intro xs h
    obtain ⟨_, _, rfl, h0, _⟩ := h
    exact h0.elim
  | succ d ih =>
    intro xs h
    obtain ⟨_, _, rfl, h0, _, _, rfl, h1, _, _, rfl, h2, _, _, rfl, h3, rfl⟩ := h
    obtain ⟨a, rfl, _⟩ := fit_int h0
    obtain ⟨b, rfl, _⟩ := fit_int h1
    obtain ⟨c, rfl, _⟩ := fit_str h2
    obtain ⟨es, rfl, hlen, hall⟩ := h3
    obtain ⟨l, rfl, hl⟩ := list_of (f := Ex.av) (p := fun _ => True) (l := es) fun e he => by
      obtain ⟨xs, rfl, hf⟩ := hall e he
      rw [shT60] at hf
      obtain ⟨y, rfl⟩ := ih hf
      exact ⟨y, (av_eq y).symm, trivial⟩
    exact ⟨.mk a b c l, rfl⟩
theorem fit_A {d : Nat} {x : AV} (h : Fit maxLen (shT Tryz.prog) d (.slice 4 true 60) x) : ∃ l : List Ex, x = .view 4 (EX l) := by
  obtain ⟨l, hl, _, _⟩ := fit_list (av := Ex.av) (p := fun _ => True) h fun d xs hx => by
    rw [shT60] at hx
    obtain ⟨y, rfl⟩ := fit_X hx
    exact ⟨y, (av_eq y).symm, trivial⟩
  exact ⟨l, hl⟩
theorem fit_T {d : Nat} {x : AV} (h : Fit maxLen (shT Tryz.prog) d (.slice 2 true 80) x) : ∃ l : List Tr, x = .view 2 (ETr l) := by
  obtain ⟨l, hl, _, _⟩ := fit_list (av := Tr.av) (p := fun _ => True) h fun d xs hx => by
    rw [shT80] at hx
    obtain ⟨_, _, rfl, h0, _, _, rfl, h1, rfl⟩ := hx
    obtain ⟨a, rfl, _⟩ := fit_int h0
    obtain ⟨b, rfl, _⟩ := fit_int h1
    exact ⟨⟨a, b⟩, rfl, trivial⟩
  exact ⟨l, hl⟩
theorem fit_F {d : Nat} {x : AV} (h : Fit maxLen (shT Tryz.prog) d (.slice 10 true 62) x) : ∃ l : List Fe, x = .view 10 (EF l) := by
  obtain ⟨l, hl, _, _⟩ := fit_list (av := Fe.av) (p := fun _ => True) h fun d xs hx => by
    rw [shT62] at hx
    obtain ⟨_, _, rfl, h0, _, _, rfl, h1, _, _, rfl, h2, _, _, rfl, h3, _, _, rfl, h4, _, _, rfl, h5, _, _, rfl, h6, _, _, rfl, h7, _, _, rfl, h8, _, _, rfl, h9, rfl⟩ := hx
    obtain ⟨a0, rfl, _⟩ := fit_str h0
    obtain ⟨a1, rfl, _⟩ := fit_int h1
    obtain ⟨a2, rfl, _⟩ := fit_int h2
    obtain ⟨a3, rfl, _⟩ := fit_int h3
    obtain ⟨a4, rfl, _⟩ := fit_str h4
    obtain ⟨a5, rfl⟩ := fit_A h5
    obtain ⟨a6, rfl, _⟩ := fit_int h6
    obtain ⟨a7, rfl, _⟩ := fit_int h7
    obtain ⟨a8, rfl, _⟩ := fit_str h8
    obtain ⟨a9, rfl⟩ := fit_A h9
    exact ⟨⟨a0, a1, .mk a2 a3 a4 a5, .mk a6 a7 a8 a9⟩, rfl, trivial⟩
  exact ⟨l, hl⟩
theorem fit_R {d : Nat} {x : AV} (h : Fit maxLen (shT Tryz.prog) d (.slice 6 true 64) x) : ∃ l : List Ru, x = .view 6 (ER l) := by
  obtain ⟨l, hl, _, _⟩ := fit_list (av := Ru.av) (p := fun _ => True) h fun d xs hx => by
    rw [shT64] at hx
    obtain ⟨_, _, rfl, h0, _, _, rfl, h1, _, _, rfl, h2, _, _, rfl, h3, _, _, rfl, h4, _, _, rfl, h5, rfl⟩ := hx
    obtain ⟨a0, rfl, _⟩ := fit_str h0
    obtain ⟨a1, rfl, _⟩ := fit_int h1
    obtain ⟨a2, rfl, _⟩ := fit_int h2
    obtain ⟨a3, rfl, _⟩ := fit_int h3
    obtain ⟨a4, rfl, _⟩ := fit_str h4
    obtain ⟨a5, rfl⟩ := fit_A h5
    exact ⟨⟨a0, a1, .mk a2 a3 a4 a5⟩, rfl, trivial⟩
  exact ⟨l, hl⟩
def prA (p : Pr) : List AV := [.str p.name, .str p.cur, .str p.cal, .int .i64 p.from_, .int .i64 p.every, .int .i64 p.over, .int .i64 p.tax, .view 2 (ETr p.cr.tiers), .bool p.cr.marg, .int .i64 p.cr.basis, .int .i64 p.cr.mode, .bool p.cr.keep, .view 2 (ETr p.de.tiers), .bool p.de.marg, .int .i64 p.de.basis, .int .i64 p.de.mode, .bool p.de.keep, .view 10 (EF p.fees), .view 6 (ER p.rules)]
theorem fit_P {d : Nat} {xs : List AV} (h : FitW (Fit maxLen (shT Tryz.prog) d) shP xs) : ∃ p : Pr, xs = prA p := by
  obtain ⟨_, _, rfl, h0, _, _, rfl, h1, _, _, rfl, h2, _, _, rfl, h3, _, _, rfl, h4, _, _, rfl, h5, _, _, rfl, h6, _, _, rfl, h7, _, _, rfl, h8, _, _, rfl, h9, _, _, rfl, h10, _, _, rfl, h11, _, _, rfl, h12, _, _, rfl, h13, _, _, rfl, h14, _, _, rfl, h15, _, _, rfl, h16, _, _, rfl, h17, _, _, rfl, h18, rfl⟩ := h
  obtain ⟨a0, rfl, _⟩ := fit_str h0
  obtain ⟨a1, rfl, _⟩ := fit_str h1
  obtain ⟨a2, rfl, _⟩ := fit_str h2
  obtain ⟨a3, rfl, _⟩ := fit_int h3
  obtain ⟨a4, rfl, _⟩ := fit_int h4
  obtain ⟨a5, rfl, _⟩ := fit_int h5
  obtain ⟨a6, rfl, _⟩ := fit_int h6
  obtain ⟨a7, rfl⟩ := fit_T h7
  obtain ⟨a8, rfl⟩ := fit_bool h8
  obtain ⟨a9, rfl, _⟩ := fit_int h9
  obtain ⟨a10, rfl, _⟩ := fit_int h10
  obtain ⟨a11, rfl⟩ := fit_bool h11
  obtain ⟨a12, rfl⟩ := fit_T h12
  obtain ⟨a13, rfl⟩ := fit_bool h13
  obtain ⟨a14, rfl, _⟩ := fit_int h14
  obtain ⟨a15, rfl, _⟩ := fit_int h15
  obtain ⟨a16, rfl⟩ := fit_bool h16
  obtain ⟨a17, rfl⟩ := fit_F h17
  obtain ⟨a18, rfl⟩ := fit_R h18
  exact ⟨⟨a0, a1, a2, a3, a4, a5, a6, ⟨a7, a8, a9, a10, a11⟩, ⟨a12, a13, a14, a15, a16⟩, a17, a18⟩, rfl⟩
set_option maxHeartbeats 4000000 in
theorem law6 {d : Nat} {avs : List AV} (h : FitP (Fit maxLen (shT Tryz.prog) d) [(true, shP), (true, shP)] avs) : callO IP 6 avs [] = some (.ret (.bool true), []) := by
  obtain ⟨xs, r, rfl, h0, ys, r', rfl, h1, rfl⟩ := h
  obtain ⟨p, rfl⟩ := fit_P h0
  obtain ⟨q, rfl⟩ := fit_P h1
  have h := c_u27q (p.name, p.cur, p.cal, p.from_, p.every, p.over, p.tax, ETr p.cr.tiers, p.cr.marg, p.cr.basis, p.cr.mode, p.cr.keep, ETr p.de.tiers, p.de.marg, p.de.basis, p.de.mode, p.de.keep, EF p.fees, ER p.rules,
    q.name, q.cur, q.cal, q.from_, q.every, q.over, q.tax, ETr q.cr.tiers, q.cr.marg, q.cr.basis, q.cr.mode, q.cr.keep, ETr q.de.tiers, q.de.marg, q.de.basis, q.de.mode, q.de.keep, EF q.fees, ER q.rules) true (Equals_law p q)
  have e : (aE p_u27q (p.name, p.cur, p.cal, p.from_, p.every, p.over, p.tax, ETr p.cr.tiers, p.cr.marg, p.cr.basis, p.cr.mode, p.cr.keep, ETr p.de.tiers, p.de.marg, p.de.basis, p.de.mode, p.de.keep, EF p.fees, ER p.rules,
    q.name, q.cur, q.cal, q.from_, q.every, q.over, q.tax, ETr q.cr.tiers, q.cr.marg, q.cr.basis, q.cr.mode, q.cr.keep, ETr q.de.tiers, q.de.marg, q.de.basis, q.de.mode, q.de.keep, EF q.fees, ER q.rules)) = [.agg (prA p), .agg (prA q)] := by kernel_rfl
  rw [e] at h
  exact h
end Go.Proofs.H15e

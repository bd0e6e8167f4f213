/- Chapter 15: from the machine to the rows. -/
import Derived.Test.YthljpgljbpdmjaaGreatDoorX15cPrc
import Derived.Test.YthljpgljbpdmjaaGreatDoorG15c
import Derived.Test.YthljpgljbpdmjaaGreatDoorE4
set_option linter.unusedVariables false
set_option linter.unusedSimpArgs false
set_option linter.unnecessarySimpa false
namespace Go.Proofs.H15c
open Go Go.Eng Go.Tk Go.Shelf
set_option maxRecDepth 100000
abbrev shX : List Sh := [.int .i64, .int .i64, .str, .slice 4 true 60]
theorem qQx : shT Tryz.prog 60 = shX := by kernel_rfl
theorem qUg : shT Tryz.prog 80 = [.int .i64, .int .i64] := by kernel_rfl
theorem qUc : shT Tryz.prog 50 = [.str, .int .i64] := by kernel_rfl
theorem qUd : shT Tryz.prog 53 = [.str, .slice 1 false 3, .slice 1 false 3] := by kernel_rfl
theorem qUe : shT Tryz.prog 62 = [.str, .int .i64, .int .i64, .int .i64, .str, .slice 4 true 60, .int .i64, .int .i64, .str, .slice 4 true 60] := by kernel_rfl
theorem qUf : shT Tryz.prog 64 = [.str, .int .i64, .int .i64, .int .i64, .str, .slice 4 true 60] := by kernel_rfl
abbrev shP : List Sh := [.str, .str, .str, .int .i64, .int .i64, .int .i64, .int .i64, .slice 2 true 80, .bool, .int .i64, .int .i64, .bool, .slice 2 true 80, .bool, .int .i64, .int .i64, .bool, .slice 10 true 62, .slice 6 true 64]
theorem qS8 : ∀ {d : Nat} {xs : List AV}, qfa (Fit 1048576 (shT Tryz.prog) d) shX xs → ∃ e : Ex, xs = [.int .i64 e.op, .int .i64 e.num, .str e.txt, .view 4 (EX e.args)] := by
 intro d
 induction d with
 | zero =>
  intro xs h
  obtain ⟨_, _, rfl, h0, _⟩ := h
  exact h0.elim
 | succ d ih =>
  intro xs h
  obtain ⟨_, _, rfl, h0, _, _, rfl, h1, _, _, rfl, h2, _, _, rfl, h3, rfl⟩ := h
  obtain ⟨a, rfl, _⟩ := qaT h0
  obtain ⟨b, rfl, _⟩ := qaT h1
  obtain ⟨c, rfl, _⟩ := qb0 h2
  obtain ⟨es, rfl, hlen, hall⟩ := h3
  obtain ⟨l, rfl, hl⟩ := qub (f := Ex.av) (p := fun _ => True) (l := es) fun e he => by
   obtain ⟨xs, rfl, hf⟩ := hall e he
   rw [qQx] at hf
   obtain ⟨y, rfl⟩ := ih hf
   exact ⟨y, (qgN y).symm, trivial⟩
  exact ⟨.mk a b c l, rfl⟩
theorem qMN {d : Nat} {x : AV} (h : Fit 1048576 (shT Tryz.prog) d (.slice 4 true 60) x) : ∃ l : List Ex, x = .view 4 (EX l) := by
 obtain ⟨l, hl, _, _⟩ := qdH (av := Ex.av) (p := fun _ => True) h fun d xs hx => by
  rw [qQx] at hx
  obtain ⟨y, rfl⟩ := qS8 hx
  exact ⟨y, (qgN y).symm, trivial⟩
 exact ⟨l, hl⟩
theorem qPN {d : Nat} {x : AV} (h : Fit 1048576 (shT Tryz.prog) d (.slice 2 true 80) x) : ∃ l : List Tr, x = .view 2 (ETr l) := by
 obtain ⟨l, hl, _, _⟩ := qdH (av := Tr.av) (p := fun _ => True) h fun d xs hx => by
  rw [qUg] at hx
  obtain ⟨_, _, rfl, h0, _, _, rfl, h1, rfl⟩ := hx
  obtain ⟨a, rfl, _⟩ := qaT h0
  obtain ⟨b, rfl, _⟩ := qaT h1
  exact ⟨⟨a, b⟩, rfl, trivial⟩
 exact ⟨l, hl⟩
theorem qS4 {d : Nat} {x : AV} (h : Fit 1048576 (shT Tryz.prog) d (.slice 10 true 62) x) : ∃ l : List Fe, x = .view 10 (EF l) ∧ ∀ y ∈ l, y.name.length ≤ big := by
 obtain ⟨l, hl, _, hp⟩ := qdH (av := Fe.av) (p := fun y => y.name.length ≤ big) h fun d xs hx => by
  rw [qUe] at hx
  obtain ⟨_, _, rfl, h0, _, _, rfl, h1, _, _, rfl, h2, _, _, rfl, h3, _, _, rfl, h4, _, _, rfl, h5, _, _, rfl, h6, _, _, rfl, h7, _, _, rfl, h8, _, _, rfl, h9, rfl⟩ := hx
  obtain ⟨a0, rfl, hn⟩ := qb0 h0
  obtain ⟨a1, rfl, _⟩ := qaT h1
  obtain ⟨a2, rfl, _⟩ := qaT h2
  obtain ⟨a3, rfl, _⟩ := qaT h3
  obtain ⟨a4, rfl, _⟩ := qb0 h4
  obtain ⟨a5, rfl⟩ := qMN h5
  obtain ⟨a6, rfl, _⟩ := qaT h6
  obtain ⟨a7, rfl, _⟩ := qaT h7
  obtain ⟨a8, rfl, _⟩ := qb0 h8
  obtain ⟨a9, rfl⟩ := qMN h9
  exact ⟨⟨a0, a1, .mk a2 a3 a4 a5, .mk a6 a7 a8 a9⟩, rfl, Nat.le_trans hn (by decide)⟩
 exact ⟨l, hl, hp⟩
theorem qS7 {d : Nat} {x : AV} (h : Fit 1048576 (shT Tryz.prog) d (.slice 6 true 64) x) : ∃ l : List Ru, x = .view 6 (ER l) ∧ ∀ y ∈ l, y.name.length ≤ big := by
 obtain ⟨l, hl, _, hp⟩ := qdH (av := Ru.av) (p := fun y => y.name.length ≤ big) h fun d xs hx => by
  rw [qUf] at hx
  obtain ⟨_, _, rfl, h0, _, _, rfl, h1, _, _, rfl, h2, _, _, rfl, h3, _, _, rfl, h4, _, _, rfl, h5, rfl⟩ := hx
  obtain ⟨a0, rfl, hn⟩ := qb0 h0
  obtain ⟨a1, rfl, _⟩ := qaT h1
  obtain ⟨a2, rfl, _⟩ := qaT h2
  obtain ⟨a3, rfl, _⟩ := qaT h3
  obtain ⟨a4, rfl, _⟩ := qb0 h4
  obtain ⟨a5, rfl⟩ := qMN h5
  exact ⟨⟨a0, a1, .mk a2 a3 a4 a5⟩, rfl, Nat.le_trans hn (by decide)⟩
 exact ⟨l, hl, hp⟩
def prA (p : Pr) : List AV := [.str p.name, .str p.cur, .str p.cal, .int .i64 p.from_, .int .i64 p.every, .int .i64 p.over, .int .i64 p.tax, .view 2 (ETr p.cr.tiers), .bool p.cr.marg, .int .i64 p.cr.basis, .int .i64 p.cr.mode, .bool p.cr.keep, .view 2 (ETr p.de.tiers), .bool p.de.marg, .int .i64 p.de.basis, .int .i64 p.de.mode, .bool p.de.keep, .view 10 (EF p.fees), .view 6 (ER p.rules)]
theorem qS6 {d : Nat} {xs : List AV} (h : qfa (Fit 1048576 (shT Tryz.prog) d) shP xs) : ∃ p : Pr, xs = prA p ∧ p.name.length ≤ big ∧ (∀ y ∈ p.fees, y.name.length ≤ big) ∧ ∀ y ∈ p.rules, y.name.length ≤ big := by
 obtain ⟨_, _, rfl, h0, _, _, rfl, h1, _, _, rfl, h2, _, _, rfl, h3, _, _, rfl, h4, _, _, rfl, h5, _, _, rfl, h6, _, _, rfl, h7, _, _, rfl, h8, _, _, rfl, h9, _, _, rfl, h10, _, _, rfl, h11, _, _, rfl, h12, _, _, rfl, h13, _, _, rfl, h14, _, _, rfl, h15, _, _, rfl, h16, _, _, rfl, h17, _, _, rfl, h18, rfl⟩ := h
 obtain ⟨a0, rfl, hn⟩ := qb0 h0
 obtain ⟨a1, rfl, _⟩ := qb0 h1
 obtain ⟨a2, rfl, _⟩ := qb0 h2
 obtain ⟨a3, rfl, _⟩ := qaT h3
 obtain ⟨a4, rfl, _⟩ := qaT h4
 obtain ⟨a5, rfl, _⟩ := qaT h5
 obtain ⟨a6, rfl, _⟩ := qaT h6
 obtain ⟨a7, rfl⟩ := qPN h7
 obtain ⟨a8, rfl⟩ := qgY h8
 obtain ⟨a9, rfl, _⟩ := qaT h9
 obtain ⟨a10, rfl, _⟩ := qaT h10
 obtain ⟨a11, rfl⟩ := qgY h11
 obtain ⟨a12, rfl⟩ := qPN h12
 obtain ⟨a13, rfl⟩ := qgY h13
 obtain ⟨a14, rfl, _⟩ := qaT h14
 obtain ⟨a15, rfl, _⟩ := qaT h15
 obtain ⟨a16, rfl⟩ := qgY h16
 obtain ⟨a17, rfl, hf⟩ := qS4 h17
 obtain ⟨a18, rfl, hr⟩ := qS7 h18
 exact ⟨⟨a0, a1, a2, a3, a4, a5, a6, ⟨a7, a8, a9, a10, a11⟩, ⟨a12, a13, a14, a15, a16⟩, a17, a18⟩, rfl, Nat.le_trans hn (by decide), hf, hr⟩
theorem qS3 {d : Nat} {x : AV} (h : Fit 1048576 (shT Tryz.prog) d (.slice 2 true 50) x) : ∃ l : List Cu, x = .view 2 (EC l) ∧ l.length ≤ big := by
 obtain ⟨l, hl, h1, _⟩ := qdH (av := Cu.av) (p := fun _ => True) h fun d xs hx => by
  rw [qUc] at hx
  obtain ⟨_, _, rfl, h0, _, _, rfl, h1, rfl⟩ := hx
  obtain ⟨a, rfl, _⟩ := qb0 h0
  obtain ⟨b, rfl, _⟩ := qaT h1
  exact ⟨⟨a, b⟩, rfl, trivial⟩
 exact ⟨l, hl, Nat.le_trans h1 (by decide)⟩
theorem qS5 {d : Nat} {x : AV} (h : Fit 1048576 (shT Tryz.prog) d (.slice 3 true 53) x) : ∃ l : List Cal, x = .view 3 (Tk.EK l) ∧ l.length ≤ big ∧ ∀ y ∈ l, qv7 y := by
 obtain ⟨l, hl, h1, h2⟩ := qdH (av := Cal.av) (p := qv7) h fun d xs hx => by
  rw [qUd] at hx
  obtain ⟨_, _, rfl, h0, _, _, rfl, h1, _, _, rfl, h2, rfl⟩ := hx
  obtain ⟨a, rfl, _⟩ := qb0 h0
  obtain ⟨b, rfl, hb⟩ := qq4 h1
  obtain ⟨c, rfl, hc⟩ := qq4 h2
  refine ⟨⟨a, b, c⟩, rfl, ?_, ?_⟩
  ·exact Nat.le_trans (Nat.mul_le_mul_right 8 hb) (by decide)
  ·exact Nat.le_trans (Nat.mul_le_mul_right 8 hc) (by decide)
 exact ⟨l, hl, Nat.le_trans h1 (by decide), h2⟩
set_option maxHeartbeats 4000000 in
theorem law4 {d : Nat} {avs : List AV} (h : qLF (Fit 1048576 (shT Tryz.prog) d) [(true, shP), (false, [.slice 2 true 50]), (false, [.slice 3 true 53])] avs) : qcX IP 4 avs [] = some (.ret (.bool true), []) := by
 obtain ⟨xs, r, rfl, h0, y, r', rfl, ⟨_, _, e1, h1, rfl⟩, z, r'', rfl, ⟨_, _, e2, h2, rfl⟩, rfl⟩ := h
 cases e1; cases e2
 obtain ⟨p, rfl, hn, hf, hr⟩ := qS6 h0
 obtain ⟨l, rfl, hl⟩ := qS3 h1
 obtain ⟨c, rfl, hc, hk⟩ := qS5 h2
 have h := qJu (p.name, p.cur, p.cal, p.from_, p.every, p.over, p.tax, ETr p.cr.tiers, p.cr.marg, p.cr.basis, p.cr.mode, p.cr.keep, ETr p.de.tiers, p.de.marg, p.de.basis, p.de.mode, p.de.keep, EF p.fees, ER p.rules, EC l, Tk.EK c) true (qv8 hn hf hr hl hc hk)
 have e : (aE qDz (p.name, p.cur, p.cal, p.from_, p.every, p.over, p.tax, ETr p.cr.tiers, p.cr.marg, p.cr.basis, p.cr.mode, p.cr.keep, ETr p.de.tiers, p.de.marg, p.de.basis, p.de.mode, p.de.keep, EF p.fees, ER p.rules, EC l, Tk.EK c)) = [.agg (prA p), .view 2 (EC l), .view 3 (Tk.EK c)] := by kernel_rfl
 rw [e] at h
 exact h
end Go.Proofs.H15c

/- Chapter 13: from the machine to the rows. -/
import Derived.Test.YtigchhcddgibhaaGreatDoorX13M
import Derived.Test.YtigchhcddgibhaaGreatDoorG13
import Derived.Test.YtigchhcddgibhaaGreatDoorE3
set_option linter.unusedVariables false
set_option linter.unusedSimpArgs false
set_option linter.unnecessarySimpa false
namespace Go.Proofs.H13
open Go Go.Eng Go.Tk Go.Shelf
set_option maxRecDepth 100000
abbrev shC : List Sh := [.int .i64, .slice 2 true 50, .slice 3 true 75]
abbrev shV : List Sh := [.int .i64, .int .i64]
theorem q8d : shT Tryz.prog 50 = [.str, .int .i64] := by kernel_rfl
theorem q8b : shT Tryz.prog 25 = shV := by kernel_rfl
theorem q8e : shT Tryz.prog 75 = [.int .i64, .int .i64, .int .i64] := by kernel_rfl
theorem wf_i64 {c : Int} (hc : Lit.wf (.int .i64 c) = true) : qa6 c = true := by
 simp only [Lit.wf, Bool.and_eq_true, decide_eq_true_eq] at hc
 obtain ⟨h1, h2⟩ := hc
 simp [IntKind.max, IntKind.min, IntKind.signed, IntKind.bits] at h1 h2
 rw [qdF]
 omega
theorem q1l {d : Nat} {x : AV} (h : Fit maxLen (shT Tryz.prog) d (.slice 2 true 50) x) : ∃ vs : List Va, x = .view 2 (EV vs) /\ vs.length <= big := by
 obtain ⟨l, hl, h1, _⟩ := qsL (av := Va.av) (p := fun _ => True) h fun d xs hx => by
  rw [q8d] at hx
  obtain ⟨_, _, rfl, h0, _, _, rfl, h1, rfl⟩ := hx
  obtain ⟨a, rfl, _⟩ := qMN h0
  obtain ⟨b, rfl, _⟩ := qcy h1
  exact ⟨⟨a, b⟩, rfl, trivial⟩
 exact ⟨l, hl, h1⟩
theorem qV2 {d : Nat} {x : AV} (h : Fit maxLen (shT Tryz.prog) d (.slice 2 true 25) x) : ∃ l : List Vl, x = .view 2 (EL l) /\ l.length <= big /\ ∀ y ∈ l, qa6 y.n = true := by
 obtain ⟨l, hl, h1, h2⟩ := qsL (av := Vl.av) (p := fun y => qa6 y.n = true) h fun d xs hx => by
  rw [q8b] at hx
  obtain ⟨_, _, rfl, h0, _, _, rfl, h1, rfl⟩ := hx
  obtain ⟨a, rfl, _⟩ := qcy h0
  obtain ⟨b, rfl, hb⟩ := qcy h1
  exact ⟨⟨a, b⟩, rfl, wf_i64 hb⟩
 exact ⟨l, hl, h1, h2⟩
theorem q6x {d : Nat} {x : AV} (h : Fit maxLen (shT Tryz.prog) d (.slice 3 true 75) x) : ∃ l : List In, x = .view 3 (EN l) /\ ∀ y ∈ l, qa6 y.n = true := by
 obtain ⟨l, hl, _, h2⟩ := qsL (av := In.av) (p := fun y => qa6 y.n = true) h fun d xs hx => by
  rw [q8e] at hx
  obtain ⟨_, _, rfl, h0, _, _, rfl, h1, _, _, rfl, h2, rfl⟩ := hx
  obtain ⟨a, rfl, _⟩ := qcy h0
  obtain ⟨b, rfl, _⟩ := qcy h1
  obtain ⟨c, rfl, hc⟩ := qcy h2
  exact ⟨⟨a, b, c⟩, rfl, wf_i64 hc⟩
 exact ⟨l, hl, h2⟩
theorem q6w {d : Nat} {xs : List AV} (h : qoL (Fit maxLen (shT Tryz.prog) d) shC xs) : ∃ c : Cd, xs = [.int .i64 c.ty, .view 2 (EV c.vars), .view 3 (EN c.ins)] /\ ∀ y ∈ c.ins, qa6 y.n = true := by
 obtain ⟨_, _, rfl, h0, _, _, rfl, h1, _, _, rfl, h2, rfl⟩ := h
 obtain ⟨a, rfl, _⟩ := qcy h0
 obtain ⟨b, rfl, _⟩ := q1l h1
 obtain ⟨c, rfl, hc⟩ := q6x h2
 exact ⟨⟨a, b, c⟩, rfl, hc⟩
theorem law5 {d : Nat} {avs : List AV} (h : qMd (Fit maxLen (shT Tryz.prog) d) [(true, shC), (false, [.slice 2 true 25]), (false, [.int .i64])] avs) : qfw IP 5 avs [] = some (.ret (.bool true), []) := by
 obtain ⟨xs, r, rfl, h0, y, r', rfl, ⟨_, _, e1, h1, rfl⟩, z, r'', rfl, ⟨_, _, e2, h2, rfl⟩, rfl⟩ := h
 cases e1; cases e2
 obtain ⟨c, rfl, hc⟩ := q6w h0
 obtain ⟨l, rfl, _, h64⟩ := qV2 h1
 obtain ⟨f, rfl, hf⟩ := qcy h2
 exact qQF (c.ty, EV c.vars, EN c.ins, EL l, f) true (qMh hc h64 (wf_i64 hf))
end Go.Proofs.H13

/- Chapter 09: from the machine to the rows. -/
import Derived.Test.YtoeknkhpjdomhaaGreatDoorX09L
import Derived.Test.YtoeknkhpjdomhaaGreatDoorG09
import Derived.Test.YtoeknkhpjdomhaaGreatDoorE3
set_option linter.unusedVariables false
set_option linter.unusedSimpArgs false
set_option linter.unnecessarySimpa false
namespace Go.Proofs.H09
open Go Go.Eng Go.Tk Go.Shelf
set_option maxRecDepth 100000
theorem qDO : Eng.shT Tryz.prog 40 = [.int .i64, .int .i64, .str] := by kernel_rfl
theorem qA2 {d : Nat} {x : AV} (h : Fit maxLen (Eng.shT Tryz.prog) d (.slice 3 true 40) x) : ∃ l : List Tok, x = .view 3 (ET l) ∧ qCP l := by
 obtain ⟨l, hl, h1, h2⟩ := qtQ (av := Tok.av) (p := fun y => -9223372036854775808 ≤ y.line ∧ y.line ≤ 9223372036854775807) h fun d xs hx => by
  rw [qDO] at hx
  obtain ⟨_, _, rfl, h0, _, _, rfl, h1, _, _, rfl, h2, rfl⟩ := hx
  obtain ⟨a, rfl, _⟩ := qmF h0
  obtain ⟨b, rfl, hb⟩ := qmF h1
  obtain ⟨c, rfl, _⟩ := qfw h2
  refine ⟨⟨a, b, c⟩, rfl, ?_⟩
  simp only [Lit.wf, Bool.and_eq_true, decide_eq_true_eq] at hb
  have h1 := hb.1
  have h2 := hb.2
  simp [IntKind.max, IntKind.min, IntKind.signed, IntKind.bits] at h1 h2
  show -9223372036854775808 ≤ b ∧ b ≤ _
  omega
 exact ⟨l, hl, h1, h2⟩
theorem qFk {d : Nat} {avs : List AV} (h : qn4 (Fit maxLen (Eng.shT Tryz.prog) d) [(false, [.str])] avs) : qa3 IP 3 avs [] = some (.ret (.bool true), []) := by
 obtain ⟨y, r, rfl, ⟨_, _, e1, h1, rfl⟩, rfl⟩ := h
 cases e1
 obtain ⟨s, rfl, _⟩ := qfw h1
 exact qwL s true (qpZ s)
theorem qE9 {d : Nat} {avs : List AV} (h : qn4 (Fit maxLen (Eng.shT Tryz.prog) d) [(false, [.str])] avs) : qa3 IP 4 avs [] = some (.ret (.bool true), []) := by
 obtain ⟨y, r, rfl, ⟨_, _, e1, h1, rfl⟩, rfl⟩ := h
 cases e1
 obtain ⟨s, rfl, _⟩ := qfw h1
 exact qwK s true (qpG s)
theorem qFa {d : Nat} {avs : List AV} (h : qn4 (Fit maxLen (Eng.shT Tryz.prog) d) [(false, [.slice 3 true 40])] avs) : qa3 IP 5 avs [] = some (.ret (.bool true), []) := by
 obtain ⟨y, r, rfl, ⟨_, _, e1, h1, rfl⟩, rfl⟩ := h
 cases e1
 obtain ⟨l, rfl, hl⟩ := qA2 h1
 exact qwI (ET l) true (qpC hl)
theorem qFb {d : Nat} {avs : List AV} (h : qn4 (Fit maxLen (Eng.shT Tryz.prog) d) [(false, [.slice 3 true 40]), (false, [.str])] avs) : qa3 IP 6 avs [] = some (.ret (.bool true), []) := by
 obtain ⟨y, r, rfl, ⟨_, _, e1, h1, rfl⟩, z, r', rfl, ⟨_, _, e2, h2, rfl⟩, rfl⟩ := h
 cases e1; cases e2
 obtain ⟨l, rfl, hl⟩ := qA2 h1
 obtain ⟨s, rfl, _⟩ := qfw h2
 exact qAY (ET l, s) true (qib hl s)
theorem qFc {d : Nat} {avs : List AV} (h : qn4 (Fit maxLen (Eng.shT Tryz.prog) d) [(false, [.str])] avs) : qa3 IP 7 avs [] = some (.ret (.bool true), []) := by
 obtain ⟨y, r, rfl, ⟨_, _, e1, h1, rfl⟩, rfl⟩ := h
 cases e1
 obtain ⟨s, rfl, _⟩ := qfw h1
 exact qwJ s true (qpF s)
theorem qFd {d : Nat} {avs : List AV} (h : qn4 (Fit maxLen (Eng.shT Tryz.prog) d) [(false, [.int .i64])] avs) : qa3 IP 8 avs [] = some (.ret (.bool true), []) := by
 obtain ⟨y, r, rfl, ⟨_, _, e1, h1, rfl⟩, rfl⟩ := h
 cases e1
 obtain ⟨n, rfl, _⟩ := qmF h1
 exact qwG n true (qkO n)
theorem law9 {d : Nat} {avs : List AV} (h : qn4 (Fit maxLen (Eng.shT Tryz.prog) d) [(false, [.str])] avs) : qa3 IP 9 avs [] = some (.ret (.bool true), []) := by
 obtain ⟨y, r, rfl, ⟨_, _, e1, h1, rfl⟩, rfl⟩ := h
 cases e1
 obtain ⟨s, rfl, _⟩ := qfw h1
 exact qwH s true (qn3 s)
end Go.Proofs.H09

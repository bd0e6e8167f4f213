/- Chapter 13: from the machine to the rows. -/
import Derived.Test.YtigchhcddgibhaaGreatDoorX13M
import Derived.Test.YtigchhcddgibhaaGreatDoorG13
import Derived.Test.YtigchhcddgibhaaGreatDoorE3
set_option linter.unusedVariables false
set_option linter.unusedSimpArgs false
set_option linter.unnecessarySimpa false
namespace Go.Proofs.H13
open Go Go.Eng Go.Tk Go.Shelf
set_option maxRecDepth 100000
abbrev shX : List Sh := [.int .i64, .int .i64, .str, .slice 4 true 32]
abbrev shK : List Sh := [.int .i64, .int .i64, .str, .slice 4 true 32, .slice 2 true 50, .slice 2 true 25]
abbrev shC : List Sh := [.int .i64, .slice 2 true 50, .slice 3 true 75]
abbrev shV : List Sh := [.int .i64, .int .i64]
theorem q8c : shT Tryz.prog 32 = shX := by kernel_rfl
theorem q8d : shT Tryz.prog 50 = [.str, .int .i64] := by kernel_rfl
theorem q8b : shT Tryz.prog 25 = shV := by kernel_rfl
theorem wf_i64 {c : Int} (hc : Lit.wf (.int .i64 c) = true) : qa6 c = true := by
 simp only [Lit.wf, Bool.and_eq_true, decide_eq_true_eq] at hc
 obtain ⟨h1, h2⟩ := hc
 simp [IntKind.max, IntKind.min, IntKind.signed, IntKind.bits] at h1 h2
 rw [qdF]
 omega
theorem q1l {d : Nat} {x : AV} (h : Fit maxLen (shT Tryz.prog) d (.slice 2 true 50) x) : ∃ vs : List Va, x = .view 2 (EV vs) /\ vs.length <= big := by
 obtain ⟨l, hl, h1, _⟩ := qsL (av := Va.av) (p := fun _ => True) h fun d xs hx => by
  rw [q8d] at hx
  obtain ⟨_, _, rfl, h0, _, _, rfl, h1, rfl⟩ := hx
  obtain ⟨a, rfl, _⟩ := qMN h0
  obtain ⟨b, rfl, _⟩ := qcy h1
  exact ⟨⟨a, b⟩, rfl, trivial⟩
 exact ⟨l, hl, h1⟩
theorem qV2 {d : Nat} {x : AV} (h : Fit maxLen (shT Tryz.prog) d (.slice 2 true 25) x) : ∃ l : List Vl, x = .view 2 (EL l) /\ l.length <= big /\ ∀ y ∈ l, qa6 y.n = true := by
 obtain ⟨l, hl, h1, h2⟩ := qsL (av := Vl.av) (p := fun y => qa6 y.n = true) h fun d xs hx => by
  rw [q8b] at hx
  obtain ⟨_, _, rfl, h0, _, _, rfl, h1, rfl⟩ := hx
  obtain ⟨a, rfl, _⟩ := qcy h0
  obtain ⟨b, rfl, hb⟩ := qcy h1
  exact ⟨⟨a, b⟩, rfl, wf_i64 hb⟩
 exact ⟨l, hl, h1, h2⟩
theorem q6y : ∀ {d : Nat} {xs : List AV}, qoL (Fit maxLen (shT Tryz.prog) d) shX xs -> ∃ e : Ex, xs = [.int .i64 e.op, .int .i64 e.num, .str e.txt, .view 4 (EX e.args)] /\ Wd e := by
 intro d
 induction d with
 | zero =>
  intro xs h
  obtain ⟨_, _, rfl, h0, _⟩ := h
  exact h0.elim
 | succ d ih =>
  intro xs h
  obtain ⟨_, _, rfl, h0, _, _, rfl, h1, _, _, rfl, h2, _, _, rfl, h3, rfl⟩ := h
  obtain ⟨a, rfl, _⟩ := qcy h0
  obtain ⟨b, rfl, _⟩ := qcy h1
  obtain ⟨c, rfl, _⟩ := qMN h2
  obtain ⟨es, rfl, hlen, hall⟩ := h3
  obtain ⟨l, rfl, hl⟩ := qMW (f := Ex.av) (p := Wd) (l := es) fun e he => by
   obtain ⟨xs, rfl, hf⟩ := hall e he
   rw [q8c] at hf
   obtain ⟨y, rfl, hy⟩ := ih hf
   exact ⟨y, (qT4 y).symm, hy⟩
  refine ⟨.mk a b c l, rfl, ?_⟩
  rw [Wd, Ex.allX_eq, Bool.and_eq_true, List.all_eq_true]
  exact ⟨decide_eq_true (Nat.le_trans (show l.length <= maxLen by simpa using hlen) (by decide)), hl⟩
theorem qV1 {d : Nat} {xs : List AV} (h : qoL (Fit maxLen (shT Tryz.prog) d) shK xs) : ∃ (e : Ex) (vs : List Va) (env : List Vl), xs = [.int .i64 e.op, .int .i64 e.num, .str e.txt, .view 4 (EX e.args), .view 2 (EV vs), .view 2 (EL env)] /\ Wd e /\ vs.length <= big /\ env.length <= big /\ ∀ y ∈ env, qa6 y.n = true := by
 obtain ⟨x0, _, rfl, h0, x1, _, rfl, h1, x2, _, rfl, h2, x3, _, rfl, h3, _, _, rfl, h4, _, _, rfl, h5, rfl⟩ := h
 obtain ⟨e, he, hw⟩ := q6y (d := d) (xs := [x0, x1, x2, x3]) ⟨_, _, rfl, h0, _, _, rfl, h1, _, _, rfl, h2, _, _, rfl, h3, rfl⟩
 obtain ⟨vs, rfl, hv⟩ := q1l h4
 obtain ⟨env, rfl, hl, h64⟩ := qV2 h5
 simp only [List.cons.injEq, and_true] at he
 obtain ⟨rfl, rfl, rfl, rfl⟩ := he
 exact ⟨e, vs, env, rfl, hw, hv, hl, h64⟩
theorem law3 {d : Nat} {avs : List AV} (h : qMd (Fit maxLen (shT Tryz.prog) d) [(false, [.int .i64]), (false, [.slice 2 true 25])] avs) : qfw IP 3 avs [] = some (.ret (.bool true), []) := by
 obtain ⟨y, r, rfl, ⟨_, _, e1, h0, rfl⟩, z, r', rfl, ⟨_, _, e2, h1, rfl⟩, rfl⟩ := h
 cases e1; cases e2
 obtain ⟨o, rfl, _⟩ := qcy h0
 obtain ⟨l, rfl, _, h64⟩ := qV2 h1
 exact qQA (o, EL l) true (qtn h64)
theorem zdQ {d : Nat} {avs : List AV} (h : qMd (Fit maxLen (shT Tryz.prog) d) [(true, shK)] avs) : qfw IP 4 avs [] = some (.ret (.bool true), []) := by
 obtain ⟨xs, r, rfl, h0, rfl⟩ := h
 obtain ⟨e, vs, env, rfl, hw, hv, hl, h64⟩ := qV1 h0
 exact qQD (e.op, e.num, e.txt, EX e.args, EV vs, EL env) true (qDu hv hl h64 hw)
end Go.Proofs.H13

/- Chapter 13: from the machine to the rows. -/
import Derived.Test.YtigchhcddgibhaaGreatDoorX13L
import Derived.Test.YtigchhcddgibhaaGreatDoorX13Wid
import Derived.Test.YtigchhcddgibhaaGreatDoorX13Evb
import Derived.Test.YtigchhcddgibhaaGreatDoorX13Run
import Derived.Test.YtigchhcddgibhaaGreatDoorX13Cdc
import Derived.Test.YtigchhcddgibhaaGreatDoorG13
import Derived.Test.YtigchhcddgibhaaGreatDoorE3
set_option linter.unusedVariables false
set_option linter.unusedSimpArgs false
set_option linter.unnecessarySimpa false
namespace Go.Proofs.H13
open Go Go.Eng Go.Tk Go.Shelf
set_option maxRecDepth 100000
abbrev shX : List Sh := [.int .i64, .int .i64, .str, .slice 4 true 32]
abbrev shK : List Sh := [.int .i64, .int .i64, .str, .slice 4 true 32, .slice 2 true 50, .slice 2 true 25]
abbrev shC : List Sh := [.int .i64, .slice 2 true 50, .slice 3 true 75]
abbrev shV : List Sh := [.int .i64, .int .i64]
theorem zad : shT Tryz.prog 32 = shX := by kernel_rfl
theorem zae : shT Tryz.prog 50 = [.str, .int .i64] := by kernel_rfl
theorem zac : shT Tryz.prog 25 = shV := by kernel_rfl
theorem wf_i64 {c : Int} (hc : Lit.wf (.int .i64 c) = true) : qbd c = true := by
 simp only [Lit.wf, Bool.and_eq_true, decide_eq_true_eq] at hc
 obtain ⟨h1, h2⟩ := hc
 simp [IntKind.max, IntKind.min, IntKind.signed, IntKind.bits] at h1 h2
 rw [qdr]
 omega
theorem q4O {d : Nat} {x : AV} (h : Fit maxLen (shT Tryz.prog) d (.slice 2 true 50) x) : ∃ vs : List Va, x = .view 2 (EV vs) ∧ vs.length ≤ big := by
 obtain ⟨l, hl, h1, _⟩ := qtH (av := Va.av) (p := fun _ => True) h fun d xs hx => by
  rw [zae] at hx
  obtain ⟨_, _, rfl, h0, _, _, rfl, h1, rfl⟩ := hx
  obtain ⟨a, rfl, _⟩ := qKq h0
  obtain ⟨b, rfl, _⟩ := qc9 h1
  exact ⟨⟨a, b⟩, rfl, trivial⟩
 exact ⟨l, hl, h1⟩
theorem q0m {d : Nat} {x : AV} (h : Fit maxLen (shT Tryz.prog) d (.slice 2 true 25) x) : ∃ l : List Vl, x = .view 2 (EL l) ∧ l.length ≤ big ∧ ∀ y ∈ l, qbd y.n = true := by
 obtain ⟨l, hl, h1, h2⟩ := qtH (av := Vl.av) (p := fun y => qbd y.n = true) h fun d xs hx => by
  rw [zac] at hx
  obtain ⟨_, _, rfl, h0, _, _, rfl, h1, rfl⟩ := hx
  obtain ⟨a, rfl, _⟩ := qc9 h0
  obtain ⟨b, rfl, hb⟩ := qc9 h1
  exact ⟨⟨a, b⟩, rfl, wf_i64 hb⟩
 exact ⟨l, hl, h1, h2⟩
theorem q8x : ∀ {d : Nat} {xs : List AV}, qgL (Fit maxLen (shT Tryz.prog) d) shX xs → ∃ e : Ex, xs = [.int .i64 e.op, .int .i64 e.num, .str e.txt, .view 4 (EX e.args)] ∧ Wd e := by
 intro d
 induction d with
 | zero =>
  intro xs h
  obtain ⟨_, _, rfl, h0, _⟩ := h
  exact h0.elim
 | succ d ih =>
  intro xs h
  obtain ⟨_, _, rfl, h0, _, _, rfl, h1, _, _, rfl, h2, _, _, rfl, h3, rfl⟩ := h
  obtain ⟨a, rfl, _⟩ := qc9 h0
  obtain ⟨b, rfl, _⟩ := qc9 h1
  obtain ⟨c, rfl, _⟩ := qKq h2
  obtain ⟨es, rfl, hlen, hall⟩ := h3
  obtain ⟨l, rfl, hl⟩ := qz4 (f := Ex.av) (p := Wd) (l := es) fun e he => by
   obtain ⟨xs, rfl, hf⟩ := hall e he
   rw [zad] at hf
   obtain ⟨y, rfl, hy⟩ := ih hf
   exact ⟨y, (qCW y).symm, hy⟩
  refine ⟨.mk a b c l, rfl, ?_⟩
  rw [Wd, Ex.allX_eq, Bool.and_eq_true, List.all_eq_true]
  exact ⟨decide_eq_true (Nat.le_trans (show l.length ≤ maxLen by simpa using hlen) (by decide)), hl⟩
theorem q0l {d : Nat} {xs : List AV} (h : qgL (Fit maxLen (shT Tryz.prog) d) shK xs) : ∃ (e : Ex) (vs : List Va) (env : List Vl), xs = [.int .i64 e.op, .int .i64 e.num, .str e.txt, .view 4 (EX e.args), .view 2 (EV vs), .view 2 (EL env)] ∧ Wd e ∧ vs.length ≤ big ∧ env.length ≤ big ∧ ∀ y ∈ env, qbd y.n = true := by
 obtain ⟨x0, _, rfl, h0, x1, _, rfl, h1, x2, _, rfl, h2, x3, _, rfl, h3, _, _, rfl, h4, _, _, rfl, h5, rfl⟩ := h
 obtain ⟨e, he, hw⟩ := q8x (d := d) (xs := [x0, x1, x2, x3]) ⟨_, _, rfl, h0, _, _, rfl, h1, _, _, rfl, h2, _, _, rfl, h3, rfl⟩
 obtain ⟨vs, rfl, hv⟩ := q4O h4
 obtain ⟨env, rfl, hl, h64⟩ := q0m h5
 simp only [List.cons.injEq, and_true] at he
 obtain ⟨rfl, rfl, rfl, rfl⟩ := he
 exact ⟨e, vs, env, rfl, hw, hv, hl, h64⟩
theorem q4P {d : Nat} {xs : List AV} (h : qgL (Fit maxLen (shT Tryz.prog) d) shV xs) : ∃ v : Vl, xs = [.int .i64 v.ty, .int .i64 v.n] ∧ qbd v.n = true := by
 obtain ⟨_, _, rfl, h0, _, _, rfl, h1, rfl⟩ := h
 obtain ⟨a, rfl, _⟩ := qc9 h0
 obtain ⟨b, rfl, hb⟩ := qc9 h1
 exact ⟨⟨a, b⟩, rfl, wf_i64 hb⟩
theorem law6 {d : Nat} {avs : List AV} (h : qFR (Fit maxLen (shT Tryz.prog) d) [(true, shK)] avs) : qcW IP 6 avs [] = some (.ret (.bool true), []) := by
 obtain ⟨xs, r, rfl, h0, rfl⟩ := h
 obtain ⟨e, vs, env, rfl, hw, hv, hl, h64⟩ := q0l h0
 exact qVw (e.op, e.num, e.txt, EX e.args, EV vs, EL env) true (qCM hv hl h64 hw)
theorem zdT {d : Nat} {avs : List AV} (h : qFR (Fit maxLen (shT Tryz.prog) d) [(true, shK)] avs) : qcW IP 7 avs [] = some (.ret (.bool true), []) := by
 obtain ⟨xs, r, rfl, h0, rfl⟩ := h
 obtain ⟨e, vs, env, rfl, hw, hv, hl, h64⟩ := q0l h0
 exact qVx (e.op, e.num, e.txt, EX e.args, EV vs, EL env) true (qHu hv hl h64 hw)
theorem zdY {d : Nat} {avs : List AV} (h : qFR (Fit maxLen (shT Tryz.prog) d) [(true, shV), (true, shV)] avs) : qcW IP 8 avs [] = some (.ret (.bool true), []) := by
 obtain ⟨xs, r, rfl, h0, ys, r', rfl, h1, rfl⟩ := h
 obtain ⟨a, rfl, ha⟩ := q4P h0
 obtain ⟨b, rfl, hb⟩ := q4P h1
 exact qVz (a.ty, a.n, b.ty, b.n) true (qRf ha hb)
end Go.Proofs.H13

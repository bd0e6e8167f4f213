/- Chapter 11: from the machine to the rows. -/
import Derived.Test.YtbhffafppahmjaaGreatDoorX11L
import Derived.Test.YtbhffafppahmjaaGreatDoorIrOk11
import Derived.Test.YtbhffafppahmjaaGreatDoorSh11
import Derived.Test.YtbhffafppahmjaaGreatDoorE3
import Derived.Test.YtbhffafppahmjaaGreatDoorE4
import Derived.MakeChecks
import Derived.Test.YtbhffafppahmjaaGreatDoorRows
set_option linter.unusedVariables false
set_option linter.unusedSimpArgs false
set_option linter.unnecessarySimpa false
namespace Go.Proofs.H11
open Go Go.Eng Go.Tk Go.Shelf
set_option maxRecDepth 100000
theorem progOk : ProgOk Tryz.prog IP := by
  refine ⟨fun f F h => tab_ok tab tab_all f F h, fun f g _ hs => ?_⟩
  have hs' : specs f = some g := hs
  unfold specs at hs'
  split at hs'
  · rename_i hf; subst hf; cases hs'
    exact count_spec (ρ := Tryz.lays138_ren) Tryz.lays138 (by exact ⟨_, Tryz.func54, by kernel_rfl, by kernel_rfl⟩)
  split at hs'
  · rename_i hf; subst hf; cases hs'
    exact fields_spec (ρ := Tryz.lays157_ren) Tryz.lays157 (by kernel_rfl) (by exact ⟨_, Tryz.func76, by kernel_rfl, by kernel_rfl⟩) rfl
  split at hs'
  · rename_i hf; subst hf; cases hs'
    exact idx_spec (ρ := Tryz.lays217_ren) Tryz.lays217 (by exact ⟨_, Tryz.func78, by kernel_rfl, by kernel_rfl⟩)
  split at hs'
  · rename_i hf; subst hf; cases hs'
    exact parse_spec (ρ := Tryz.laysC174_ren) Tryz.laysC174 (by exact ⟨_, Tryz.func74, by kernel_rfl, by kernel_rfl⟩) (t1 := 129) (x1 := .ptr []) (t2 := 129) (x2 := .ptr []) rfl rfl
  split at hs'
  · rename_i hf; subst hf; cases hs'
    exact atoi_spec (ρ := Tryz.laysC172_ren) Tryz.laysC172 (by exact ⟨_, Tryz.func87, by kernel_rfl, by kernel_rfl⟩) (t1 := 129) (x1 := .ptr []) (t2 := 129) (x2 := .ptr []) rfl rfl
  · cases hs'
theorem shT39 : shT Tryz.prog 39 = [.str, .int .i64] := by kernel_rfl
abbrev shX : List Sh := [.int .i64, .int .i64, .str, .slice 4 true 29]
theorem shT29 : shT Tryz.prog 29 = shX := by kernel_rfl
theorem fit_V {d : Nat} {x : AV} (h : Fit maxLen (shT Tryz.prog) d (.slice 2 true 39) x) : ∃ vs : List Va, x = .view 2 (EV vs) ∧ vs.length ≤ big := by
  obtain ⟨l, hl, h1, _⟩ := fit_list (av := Va.av) (p := fun _ => True) h fun d xs hx => by
    rw [shT39] at hx
    obtain ⟨_, _, rfl, h0, _, _, rfl, h1, rfl⟩ := hx
    obtain ⟨a, rfl, _⟩ := fit_str h0
    obtain ⟨b, rfl, _⟩ := fit_int h1
    exact ⟨⟨a, b⟩, rfl, trivial⟩
  exact ⟨l, hl, h1⟩
theorem fit_X : ∀ {d : Nat} {xs : List AV}, FitW (Fit maxLen (shT Tryz.prog) d) shX xs → ∃ e : Ex, xs = [.int .i64 e.op, .int .i64 e.num, .str e.txt, .view 4 (EX e.args)] ∧ Wd e := by
  intro d
  induction d with
  | zero =>
    intro xs h
    obtain ⟨_, _, rfl, h0, _⟩ := h
    exact h0.elim
  | succ d ih =>
    intro xs h
    obtain ⟨_, _, rfl, h0, _, _, rfl, h1, _, _, rfl, h2, _, _, rfl, h3, rfl⟩ := h
    obtain ⟨a, rfl, _⟩ := fit_int h0
    obtain ⟨b, rfl, _⟩ := fit_int h1
    obtain ⟨c, rfl, _⟩ := fit_str h2
    obtain ⟨es, rfl, hlen, hall⟩ := h3
    obtain ⟨l, rfl, hl⟩ := list_of (f := Ex.av) (p := Wd) (l := es) fun e he => by
      obtain ⟨xs, rfl, hf⟩ := hall e he
      rw [shT29] at hf
      obtain ⟨y, rfl, hy⟩ := ih hf
      exact ⟨y, (av_eq y).symm, hy⟩
    refine ⟨.mk a b c l, rfl, ?_⟩
    rw [Wd, Ex.allX_eq, Bool.and_eq_true, List.all_eq_true]
    exact ⟨decide_eq_true (Nat.le_trans (show l.length ≤ maxLen by simpa using hlen) (by decide)), hl⟩
theorem law3 {d : Nat} {avs : List AV} (h : FitP (Fit maxLen (shT Tryz.prog) d) [(false, [.slice 2 true 39])] avs) : callO IP 3 avs [] = some (.ret (.bool true), []) := by
  obtain ⟨y, r, rfl, ⟨_, _, e1, h1, rfl⟩, rfl⟩ := h
  cases e1
  obtain ⟨vs, rfl, hl⟩ := fit_V h1
  exact c_u28q (EV vs) true (Vars_law hl)
theorem law4 {d : Nat} {avs : List AV} (h : FitP (Fit maxLen (shT Tryz.prog) d) [(true, shX), (false, [.slice 2 true 39])] avs) : callO IP 4 avs [] = some (.ret (.bool true), []) := by
  obtain ⟨xs, r, rfl, h0, y, r', rfl, ⟨_, _, e1, h1, rfl⟩, rfl⟩ := h
  cases e1
  obtain ⟨e, rfl, hw⟩ := fit_X h0
  obtain ⟨vs, rfl, hl⟩ := fit_V h1
  exact c_u22q (e.op, e.num, e.txt, EX e.args, EV vs) true (Parts_law hl hw)
theorem law5 {d : Nat} {avs : List AV} (h : FitP (Fit maxLen (shT Tryz.prog) d) [(true, shX), (false, [.slice 2 true 39])] avs) : callO IP 5 avs [] = some (.ret (.bool true), []) := by
  obtain ⟨xs, r, rfl, h0, y, r', rfl, ⟨_, _, e1, h1, rfl⟩, rfl⟩ := h
  cases e1
  obtain ⟨e, rfl, hw⟩ := fit_X h0
  obtain ⟨vs, rfl, hl⟩ := fit_V h1
  exact c_u21q (e.op, e.num, e.txt, EX e.args, EV vs) true (Order_law hl hw)
theorem law6 {d : Nat} {avs : List AV} (h : FitP (Fit maxLen (shT Tryz.prog) d) [(true, shX), (false, [.slice 2 true 39]), (false, [.int .i64])] avs) : callO IP 6 avs [] = some (.ret (.bool true), []) := by
  obtain ⟨xs, r, rfl, h0, y, r', rfl, ⟨_, _, e1, h1, rfl⟩, z, r'', rfl, ⟨_, _, e2, h2, rfl⟩, rfl⟩ := h
  cases e1; cases e2
  obtain ⟨e, rfl, hw⟩ := fit_X h0
  obtain ⟨vs, rfl, hl⟩ := fit_V h1
  obtain ⟨n, rfl, _⟩ := fit_int h2
  exact c_u46q (e.op, e.num, e.txt, EX e.args, EV vs, n) true (Of_law hl hw n)
theorem star : "*" ++ "errors.errorString" = "*errors.errorString" := by decide
theorem rowErr (u : TypeId) (h : Tryz.prog.typeName? 3 u = some "*errors.errorString") : u = 129 :=
  typeName_ptr_named (nm := "errors.errorString") (by rw [star]; kernel_rfl) (by kernel_rfl) (by decide) u (by rw [star]; exact h)
theorem globs_of {W : World} {I0 : Imm} (h : laidMetH Tryz.prog YtbhffafppahmjaaGreatDoor.Rows.typingVarsRow.laid W) : ∀ g cs, Globs.g g = some cs → GlobIs W (fun b o => I0 b o ∨ ∃ cs, Globs.g b = some cs ∧ o < cs.length) g cs := by
  rw [MakeChecks.laidMetH_plain _ _ _ (by kernel_rfl)] at h
  intro g cs hg
  have hg' : (if g = 1 then some asciiCs else if g = 3 then some [errV 129] else if g = 4 then some [errV 129] else none) = some cs := hg
  split at hg'
  · rename_i hh; subst hh; cases hg'
    exact glob_tab_is h.tail.tail.tail.tail.tail.tail (by kernel_rfl) (by kernel_rfl) (t := 93) (e := 5) (m := 256) (by kernel_rfl) (by kernel_rfl) (by kernel_rfl) (by kernel_rfl) (by decide)
  split at hg'
  · rename_i hh; subst hh; cases hg'
    exact glob_err_is h.tail.tail.tail.tail (ti := 79) (te := 131) (ts := 9) (by kernel_rfl) (by kernel_rfl) Tryz.underlying79 rowErr Tryz.underlying129 Tryz.underlying131 rfl rfl Tryz.underlying9 (by kernel_rfl) (by kernel_rfl)
  split at hg'
  · rename_i hh; subst hh; cases hg'
    exact glob_err_is h.tail.tail.tail (ti := 79) (te := 131) (ts := 9) (by kernel_rfl) (by kernel_rfl) Tryz.underlying79 rowErr Tryz.underlying129 Tryz.underlying131 rfl rfl Tryz.underlying9 (by kernel_rfl) (by kernel_rfl)
  · cases hg'
end Go.Proofs.H11

/- What the package's variables say when the call begins. -/
import Derived.Test.YtoeknkhpjdomhaaGreatDoorP09
import Derived.Test.YtoeknkhpjdomhaaGreatDoorE4
import Derived.MakeChecks
import Derived.Test.YtoeknkhpjdomhaaGreatDoorRows
set_option linter.unusedVariables false
set_option linter.unusedSimpArgs false
set_option linter.unnecessarySimpa false
namespace Go.Proofs.H09
open Go Go.Eng Go.Shelf
set_option maxRecDepth 100000
theorem star : "*" ++ "errors.errorString" = "*errors.errorString" := by decide
theorem qyH (u : TypeId) (h : Tryz.prog.typeName? 3 u = some "*errors.errorString") : u = 141 :=
 typeName_ptr_named (nm := "errors.errorString") (by rw [star]; kernel_rfl) (by kernel_rfl) (by decide) u (by rw [star]; exact h)
theorem globs_of {W : World} {I0 : Imm} (h : laidMetH Tryz.prog YtoeknkhpjdomhaaGreatDoor.Rows.tokenWordsRow.laid W) : ∀ g cs, Globs.g g = some cs → qkM W (fun b o => I0 b o ∨ ∃ cs, Globs.g b = some cs ∧ o < cs.length) g cs := by
 rw [MakeChecks.laidMetH_plain _ _ _ (by kernel_rfl)] at h
 intro g cs hg
 have hg' : (if g = 0 then some qjq else if g = 3 then some [qqq 141] else if g = 4 then some [qqq 141] else if g = 5 then some (Lib.pow10Tab.map (.int .u64)) else none) = some cs := hg
 split at hg'
 ·rename_i hh; subst hh; cases hg'
  exact qgW h.tail.tail.tail.tail.tail.tail.tail (by kernel_rfl) (by kernel_rfl) (t := 89) (e := 5) (m := 256) (by kernel_rfl) (by kernel_rfl) (by kernel_rfl) (by kernel_rfl) (by decide)
 split at hg'
 ·rename_i hh; subst hh; cases hg'
  exact qgV h.tail.tail.tail.tail.tail (ti := 53) (te := 143) (ts := 9) (by kernel_rfl) (by kernel_rfl) Tryz.underlying53 qyH Tryz.underlying141 Tryz.underlying143 rfl rfl Tryz.underlying9 (by kernel_rfl) (by kernel_rfl)
 split at hg'
 ·rename_i hh; subst hh; cases hg'
  exact qgV h.tail.tail.tail.tail (ti := 53) (te := 143) (ts := 9) (by kernel_rfl) (by kernel_rfl) Tryz.underlying53 qyH Tryz.underlying141 Tryz.underlying143 rfl rfl Tryz.underlying9 (by kernel_rfl) (by kernel_rfl)
 split at hg'
 ·rename_i hh; subst hh; cases hg'
  exact qgW h.tail.tail (by kernel_rfl) (by kernel_rfl) (t := 145) (e := 98) (m := 20) (by kernel_rfl) (by kernel_rfl) (by kernel_rfl) (by kernel_rfl) (by decide)
 ·cases hg'
end Go.Proofs.H09

/- What the package's variables say when the call begins. -/
import Derived.Test.YtlgbnjnkcoiceaaGreatDoorP12
import Derived.Test.YtlgbnjnkcoiceaaGreatDoorE4
import Derived.MakeChecks
import Derived.Test.YtlgbnjnkcoiceaaGreatDoorRows
set_option linter.unusedVariables false
set_option linter.unusedSimpArgs false
set_option linter.unnecessarySimpa false
namespace Go.Proofs.H12
open Go Go.Eng Go.Shelf
set_option maxRecDepth 100000
theorem star : "*" ++ "errors.errorString" = "*errors.errorString" := by decide
theorem rowErr (u : TypeId) (h : Tryz.prog.typeName? 3 u = some "*errors.errorString") : u = 194 :=
  typeName_ptr_named (nm := "errors.errorString") (by rw [star]; kernel_rfl) (by kernel_rfl) (by decide) u (by rw [star]; exact h)
theorem globs_of {W : World} {I0 : Imm} (h : laidMetH Tryz.prog YtlgbnjnkcoiceaaGreatDoor.Rows.codeCompilesRow.laid W) : ∀ g cs, Globs.g g = some cs → GlobIs W (fun b o => I0 b o ∨ ∃ cs, Globs.g b = some cs ∧ o < cs.length) g cs := by
  rw [MakeChecks.laidMetH_plain _ _ _ (by kernel_rfl)] at h
  intro g cs hg
  have hg' : (if g = 4 then some asciiCs else if g = 6 then some [errV 194] else if g = 7 then some [errV 194] else if g = 0 then some (Lib.pow10Tab.map (.int .u64)) else none) = some cs := hg
  split at hg'
  · rename_i hh; subst hh; cases hg'
    exact glob_tab_is h.tail.tail.tail.tail.tail.tail (by kernel_rfl) (by kernel_rfl) (t := 162) (e := 5) (m := 256) (by kernel_rfl) (by kernel_rfl) (by kernel_rfl) (by kernel_rfl) (by decide)
  split at hg'
  · rename_i hh; subst hh; cases hg'
    exact glob_err_is h.tail.tail.tail.tail (ti := 147) (te := 196) (ts := 9) (by kernel_rfl) (by kernel_rfl) Tryz.underlying147 rowErr Tryz.underlying194 Tryz.underlying196 rfl rfl Tryz.underlying9 (by kernel_rfl) (by kernel_rfl)
  split at hg'
  · rename_i hh; subst hh; cases hg'
    exact glob_err_is h.tail.tail.tail (ti := 147) (te := 196) (ts := 9) (by kernel_rfl) (by kernel_rfl) Tryz.underlying147 rowErr Tryz.underlying194 Tryz.underlying196 rfl rfl Tryz.underlying9 (by kernel_rfl) (by kernel_rfl)
  split at hg'
  · rename_i hh; subst hh; cases hg'
    exact glob_tab_is h.tail.tail (by kernel_rfl) (by kernel_rfl) (t := 135) (e := 122) (m := 20) (by kernel_rfl) (by kernel_rfl) (by kernel_rfl) (by kernel_rfl) (by decide)
  · cases hg'
end Go.Proofs.H12

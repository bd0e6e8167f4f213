/- What the package's variables say when the call begins. -/
import Derived.Test.YtigchhcddgibhaaGreatDoorP13
import Derived.Test.YtigchhcddgibhaaGreatDoorE4
import Derived.MakeChecks
import Derived.Test.YtigchhcddgibhaaGreatDoorRows
namespace Go.Proofs.H13
open Go Go.Eng Go.Shelf
set_option maxRecDepth 100000
theorem star : "*" ++ "errors.errorString" = "*errors.errorString" := by decide
theorem qTq (u : TypeId) (h : Tryz.prog.typeName? 3 u = some "*errors.errorString") : u = 253 :=
 typeName_ptr_named (nm := "errors.errorString") (by rw [star]; kernel_rfl) (by kernel_rfl) (by decide) u (by rw [star]; exact h)
theorem globs_of {W : World} {I0 : Imm} (h : laidMetH Tryz.prog YtigchhcddgibhaaGreatDoor.Rows.evalAppliesRow.laid W) : ∀ g cs, Globs.g g = some cs -> qLg W (fun b o => I0 b o \/ ∃ cs, Globs.g b = some cs /\ o < cs.length) g cs := by
 rw [MakeChecks.laidMetH_plain _ _ _ (by kernel_rfl)] at h
 intro g cs hg
 have hg' : (if g = 4 then some qxo else if g = 6 then some [qVZ 253] else if g = 7 then some [qVZ 253] else if g = 8 then some (Lib.pow10Tab.map (.int .u64)) else none) = some cs := hg
 split at hg'
 ·rename_i hh; subst hh; cases hg'
  exact qpv h.tail.tail.tail.tail.tail.tail.tail (by kernel_rfl) (by kernel_rfl) (t := 218) (e := 5) (m := 256) (by kernel_rfl) (by kernel_rfl) (by kernel_rfl) (by kernel_rfl) (by decide)
 split at hg'
 ·rename_i hh; subst hh; cases hg'
  exact qpu h.tail.tail.tail.tail.tail (ti := 203) (te := 255) (ts := 9) (by kernel_rfl) (by kernel_rfl) Tryz.underlying203 qTq Tryz.underlying253 Tryz.underlying255 rfl rfl Tryz.underlying9 (by kernel_rfl) (by kernel_rfl)
 split at hg'
 ·rename_i hh; subst hh; cases hg'
  exact qpu h.tail.tail.tail.tail (ti := 203) (te := 255) (ts := 9) (by kernel_rfl) (by kernel_rfl) Tryz.underlying203 qTq Tryz.underlying253 Tryz.underlying255 rfl rfl Tryz.underlying9 (by kernel_rfl) (by kernel_rfl)
 split at hg'
 ·rename_i hh; subst hh; cases hg'
  exact qpv h.tail.tail.tail (by kernel_rfl) (by kernel_rfl) (t := 263) (e := 59) (m := 20) (by kernel_rfl) (by kernel_rfl) (by kernel_rfl) (by kernel_rfl) (by decide)
 ·cases hg'
end Go.Proofs.H13

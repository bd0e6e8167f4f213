/- What the package's variables say when the call begins. -/
import Derived.Test.YtgpbobelbcbcaaaGreatDoorP10
import Derived.Test.YtgpbobelbcbcaaaGreatDoorE4
import Derived.MakeChecks
import Derived.Test.YtgpbobelbcbcaaaGreatDoorRows
set_option linter.unusedVariables false
set_option linter.unusedSimpArgs false
set_option linter.unnecessarySimpa false
namespace Go.Proofs.H10
open Go Go.Eng Go.Shelf
set_option maxRecDepth 100000
theorem star : "*" ++ "errors.errorString" = "*errors.errorString" := by decide
theorem qQt (u:TypeId) (h:Tryz.prog.typeName? 3 u = some "*errors.errorString"):u = 211:=
 typeName_ptr_named (nm := "errors.errorString") (by rw [star]; kernel_rfl) (by kernel_rfl) (by decide) u (by rw [star]; exact h)
theorem globs_of {W:World} {I0:Imm} (h:laidMetH Tryz.prog YtgpbobelbcbcaaaGreatDoor.Rows.exprParsesRow.laid W):∀ g cs,Globs.g g = some cs -> qs2 W (fun b o=>I0 b o \/ ∃ cs,Globs.g b = some cs /\ o < cs.length) g cs:=by
 rw [MakeChecks.laidMetH_plain _ _ _ (by kernel_rfl)] at h
 intro g cs hg
 have hg':(if g = 1 then some qqN else if g = 8 then some [qDV 211] else if g = 9 then some [qDV 211] else if g = 0 then some (Lib.pow10Tab.map (.int .u64)) else none) = some cs:=hg
 split at hg'
 ·rename_i hh; subst hh; cases hg'
  exact qm7 h.tail.tail.tail.tail.tail.tail.tail (by kernel_rfl) (by kernel_rfl) (t:=168) (e:=5) (m:=256) (by kernel_rfl) (by kernel_rfl) (by kernel_rfl) (by kernel_rfl) (by decide)
 split at hg'
 ·rename_i hh; subst hh; cases hg'
  exact qm6 h.tail.tail.tail.tail.tail (ti:=157) (te:=213) (ts:=9) (by kernel_rfl) (by kernel_rfl) Tryz.underlying157 qQt Tryz.underlying211 Tryz.underlying213 rfl rfl Tryz.underlying9 (by kernel_rfl) (by kernel_rfl)
 split at hg'
 ·rename_i hh; subst hh; cases hg'
  exact qm6 h.tail.tail.tail.tail (ti:=157) (te:=213) (ts:=9) (by kernel_rfl) (by kernel_rfl) Tryz.underlying157 qQt Tryz.underlying211 Tryz.underlying213 rfl rfl Tryz.underlying9 (by kernel_rfl) (by kernel_rfl)
 split at hg'
 ·rename_i hh; subst hh; cases hg'
  exact qm7 h.tail.tail (by kernel_rfl) (by kernel_rfl) (t:=165) (e:=116) (m:=20) (by kernel_rfl) (by kernel_rfl) (by kernel_rfl) (by kernel_rfl) (by decide)
 ·cases hg'
end Go.Proofs.H10

/- What the package's variables say when the call begins. -/
import Derived.Test.YthljpgljbpdmjaaGreatDoorP15p
import Derived.Test.YthljpgljbpdmjaaGreatDoorE4
import Derived.MakeChecks
import Derived.Test.YthljpgljbpdmjaaGreatDoorRows
set_option linter.unusedVariables false
set_option linter.unusedSimpArgs false
set_option linter.unnecessarySimpa false
namespace Go.Proofs.H15p
open Go Go.Eng Go.Shelf
set_option maxRecDepth 100000
theorem star : "*" ++ "errors.errorString" = "*errors.errorString" := by decide
theorem qXh (u:TypeId) (h:Tryz.prog.typeName? 3 u = some "*errors.errorString"):u = 250:=
 typeName_ptr_named (nm := "errors.errorString") (by rw [star]; kernel_rfl) (by kernel_rfl) (by decide) u (by rw [star]; exact h)
theorem globs_of {W:World} {I0:Imm} (h:laidMetH Tryz.prog YthljpgljbpdmjaaGreatDoor.Rows.productTotalRow.laid W):∀ g cs,Globs.g g = some cs -> qvF W (fun b o=>I0 b o \/ ∃ cs,Globs.g b = some cs /\ o < cs.length) g cs:=by
 rw [MakeChecks.laidMetH_plain _ _ _ (by kernel_rfl)] at h
 intro g cs hg
 have hg':(if g = 2 then some qtx else if g = 6 then some [qI9 250] else if g = 7 then some [qI9 250] else if g = 8 then some (Lib.pow10Tab.map (.int .u64)) else none) = some cs:=hg
 split at hg'
 ·rename_i hh; subst hh; cases hg'
  exact qoM h.tail.tail.tail.tail.tail.tail.tail (by kernel_rfl) (by kernel_rfl) (t:=214) (e:=5) (m:=256) (by kernel_rfl) (by kernel_rfl) (by kernel_rfl) (by kernel_rfl) (by decide)
 split at hg'
 ·rename_i hh; subst hh; cases hg'
  exact qoL h.tail.tail.tail.tail.tail (ti:=201) (te:=252) (ts:=9) (by kernel_rfl) (by kernel_rfl) Tryz.underlying201 qXh Tryz.underlying250 Tryz.underlying252 rfl rfl Tryz.underlying9 (by kernel_rfl) (by kernel_rfl)
 split at hg'
 ·rename_i hh; subst hh; cases hg'
  exact qoL h.tail.tail.tail.tail (ti:=201) (te:=252) (ts:=9) (by kernel_rfl) (by kernel_rfl) Tryz.underlying201 qXh Tryz.underlying250 Tryz.underlying252 rfl rfl Tryz.underlying9 (by kernel_rfl) (by kernel_rfl)
 split at hg'
 ·rename_i hh; subst hh; cases hg'
  exact qoM h.tail.tail.tail (by kernel_rfl) (by kernel_rfl) (t:=260) (e:=119) (m:=20) (by kernel_rfl) (by kernel_rfl) (by kernel_rfl) (by kernel_rfl) (by decide)
 ·cases hg'
end Go.Proofs.H15p

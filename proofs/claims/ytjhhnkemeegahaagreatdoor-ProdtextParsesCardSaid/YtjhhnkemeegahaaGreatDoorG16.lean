/- What the package's variables say when the call begins. -/
import Derived.Test.YtjhhnkemeegahaaGreatDoorP16
import Derived.MakeChecks
import Derived.Test.YtjhhnkemeegahaaGreatDoorRows
set_option linter.all false
namespace Go.Proofs.H16
open Go Go.Eng Go.Shelf
set_option maxRecDepth 100000
theorem star : "*" ++ "errors.errorString" = "*errors.errorString" := by decide
theorem q9N(u:TypeId)(h:Tryz.prog.typeName? 3 u=some "*errors.errorString"):u=280:=
 typeName_ptr_named (nm := "errors.errorString") (by rw[star];kernel_rfl) (by kernel_rfl) (by decide) u (by rw[star];exact h)
theorem globs_of{W:World}{I0:Imm}(h:laidMetH Tryz.prog YtjhhnkemeegahaaGreatDoor.Rows.prodtextPrintsRow.laid W):∀g cs,Globs.g g=some cs->qAB W (fun b o=>I0 b o\/ ∃cs,Globs.g b=some cs/\o<cs.length) g cs:=by
 rw[MakeChecks.laidMetH_plain _ _ _ (by kernel_rfl)]at h;intro g cs hg;have hg':(if g=0 then some qxu else if g=4 then some [qR7 280]else if g=5 then some [qR7 280]else if g=8 then some (Lib.pow10Tab.map (.int .u64))else none)=some cs:=hg;split at hg'
 ·rename_i hh;subst hh;cases hg';exact qsM h.tail.tail.tail.tail.tail.tail.tail (by kernel_rfl) (by kernel_rfl) (t:=141) (e:=5) (m:=256) (by kernel_rfl) (by kernel_rfl) (by kernel_rfl) (by kernel_rfl) (by decide)
 split at hg'
 ·rename_i hh;subst hh;cases hg';exact qsL h.tail.tail.tail.tail.tail (ti:=104) (te:=282) (ts:=9) (by kernel_rfl) (by kernel_rfl) Tryz.underlying104 q9N Tryz.underlying280 Tryz.underlying282 rfl rfl Tryz.underlying9 (by kernel_rfl) (by kernel_rfl)
 split at hg'
 ·rename_i hh;subst hh;cases hg';exact qsL h.tail.tail.tail.tail (ti:=104) (te:=282) (ts:=9) (by kernel_rfl) (by kernel_rfl) Tryz.underlying104 q9N Tryz.underlying280 Tryz.underlying282 rfl rfl Tryz.underlying9 (by kernel_rfl) (by kernel_rfl)
 split at hg'
 ·rename_i hh;subst hh;cases hg';exact qsM h.tail.tail (by kernel_rfl) (by kernel_rfl) (t:=276) (e:=155) (m:=20) (by kernel_rfl) (by kernel_rfl) (by kernel_rfl) (by kernel_rfl) (by decide)
 ·cases hg'
end Go.Proofs.H16

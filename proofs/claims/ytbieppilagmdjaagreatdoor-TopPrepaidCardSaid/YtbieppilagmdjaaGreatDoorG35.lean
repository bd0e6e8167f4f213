/- What the package's variables say when the call begins. -/
import Derived.Test.YtbieppilagmdjaaGreatDoorP35
import Derived.Test.YtbieppilagmdjaaGreatDoorE4
import Derived.MakeChecks
import Derived.Test.YtbieppilagmdjaaGreatDoorRows
set_option linter.unusedVariables false
set_option linter.unusedSimpArgs false
set_option linter.unnecessarySimpa false
namespace Go.Proofs.H35
open Go Go.Eng Go.Shelf
set_option maxRecDepth 100000
theorem globs_of {W:World} {I0:Imm} (h:laidMetH Tryz.prog YtbieppilagmdjaaGreatDoor.Rows.topPrepaidRow.laid W):∀ g cs,Globs.g g = some cs -> qpk W (fun b o=>I0 b o \/ ∃ cs,Globs.g b = some cs /\ o < cs.length) g cs:=by
 rw [MakeChecks.laidMetH_plain _ _ _ (by kernel_rfl)] at h
 intro g cs hg
 have hg':(if g = 0 then some [.int .i64 0,.int .i64 0,.int .i64 1,.int .i64 0,.int .i64 0,.int .i64 1,.int .i64 0,.int .i64 0,.int .i64 1,.int .i64 1] else if g = 3 then some (Lib.pow10Tab.map (.int .u64)) else none) = some cs:=hg
 split at hg'
 ·rename_i hh; subst hh; cases hg'
  exact qnq (zs:=[(0,0),(1,0),(0,1),(0,0),(1,1)]) h.tail.tail (t:=287) (e:=286) (ti:=3) (m:=5) (by kernel_rfl) (by kernel_rfl) Tryz.underlying287 Tryz.underlying286 rfl rfl rfl rfl (by kernel_rfl) (by kernel_rfl) (by kernel_rfl) (by kernel_rfl) (by decide)
 split at hg'
 ·rename_i hh; subst hh; cases hg'
  exact qsK h.tail.tail.tail (by kernel_rfl) (by kernel_rfl) (t:=351) (e:=97) (m:=20) (by kernel_rfl) (by kernel_rfl) (by kernel_rfl) (by kernel_rfl) (by decide)
 ·cases hg'
end Go.Proofs.H35

/- What the machine says holds of the program. -/
import Derived.Test.YtjhhnkemeegahaaGreatDoorIrOk16
import Derived.Test.YtjhhnkemeegahaaGreatDoorSh16
import Derived.Test.YtjhhnkemeegahaaGreatDoorW16
import Derived.Test.YtjhhnkemeegahaaGreatDoorWp16
set_option linter.all false
namespace Go.Proofs.H16
open Go Go.Eng Go.Shelf Go.Tk
set_option maxRecDepth 100000
theorem znK:Builder.Extra Tryz.prog Tryz.lays158_ren where
 sizeBuilder:=by kernel_rfl
 liesBuilder:=by kernel_rfl
 t5:=Tryz.underlying5
 a5:=Tryz.isAgg5
 z5:=Tryz.sizeOf5
 v5:=Tryz.zeroValue5
 infoByte:=by kernel_rfl
 cellsByte:=by kernel_rfl
 sizeByte:=by kernel_rfl
 neB5:=by decide
theorem znL:Builder.Extra Tryz.prog Tryz.lays159_ren where
 sizeBuilder:=by kernel_rfl
 liesBuilder:=by kernel_rfl
 t5:=Tryz.underlying5
 a5:=Tryz.isAgg5
 z5:=Tryz.sizeOf5
 v5:=Tryz.zeroValue5
 infoByte:=by kernel_rfl
 cellsByte:=by kernel_rfl
 sizeByte:=by kernel_rfl
 neB5:=by decide
theorem progOk:qP4 Tryz.prog IP:=by
 refine⟨fun _ _ h=>tab_all.look h,fun f g _ hs=>?_,fun f s _ _ hs=>?_⟩
 rotate_left
 ·have hs':(if f=24 then some (qml 66)else if f=157 then some (qnW 209 56 202)else none)=some s:=hs;split at hs'
  ·rename_i hf;subst hf;cases hs';exact zdE
  split at hs'
  ·rename_i hf;subst hf;cases hs';exact q3M
  ·cases hs'
 have hs':zer f=some g:=hs;simp only[zer]at hs';split at hs'
 ·rename_i hf;subst hf;cases hs';exact qK1 (ρ:=Tryz.lays138_ren) Tryz.lays138 (by exact⟨_,Tryz.func87,by kernel_rfl,by kernel_rfl⟩)
 split at hs'
 ·rename_i hf;subst hf;cases hs';exact qFh (ρ:=Tryz.lays157_ren) Tryz.lays157 (by kernel_rfl) (by exact⟨_,Tryz.func62,by kernel_rfl,by kernel_rfl⟩) rfl
 split at hs'
 ·rename_i hf;subst hf;cases hs';exact q3g (ρ:=Tryz.lays217_ren) Tryz.lays217 (by exact⟨_,Tryz.func227,by kernel_rfl,by kernel_rfl⟩)
 split at hs'
 ·rename_i hf;subst hf;cases hs';exact qNi (ρ:=Tryz.laysC174_ren) Tryz.laysC174 (by exact⟨_,Tryz.func201,by kernel_rfl,by kernel_rfl⟩) (t1:=280) (x1:=.ptr []) (t2:=280) (x2:=.ptr []) rfl rfl
 split at hs'
 ·rename_i hf;subst hf;cases hs';exact qRw (ρ:=Tryz.laysC172_ren) Tryz.laysC172 (by exact⟨_,Tryz.func155,by kernel_rfl,by kernel_rfl⟩) (t1:=280) (x1:=.ptr []) (t2:=280) (x2:=.ptr []) rfl rfl
 split at hs'
 ·rename_i hf;subst hf;cases hs';exact qMM (ρ:=Tryz.laysM171_ren) Tryz.laysM171 (by exact⟨_,Tryz.func120,by kernel_rfl,by kernel_rfl⟩) (g:=8) (by kernel_rfl) rfl
 split at hs'
 ·rename_i hf;subst hf;cases hs';exact quU (ρ:=Tryz.lays162_ren) Tryz.lays162 (by exact⟨_,Tryz.func178,by kernel_rfl,by kernel_rfl⟩)
 split at hs'
 ·rename_i hf;subst hf;cases hs';exact q3v (ρ:=Tryz.lays159_ren) Tryz.lays159 znL (by exact⟨_,Tryz.func112,by kernel_rfl,by kernel_rfl⟩)
 split at hs'
 ·rename_i hf;subst hf;cases hs';exact qRJ (ρ:=Tryz.lays150_ren) Tryz.lays150 (by kernel_rfl) (by exact⟨_,Tryz.func152,by kernel_rfl,by kernel_rfl⟩)
 split at hs'
 ·rename_i hf;subst hf;cases hs';exact zfs (ρ:=Tryz.lays158_ren) Tryz.lays158 znK (by exact⟨_,Tryz.func153,by kernel_rfl,by kernel_rfl⟩)
 split at hs'
 ·rename_i hf;subst hf;cases hs';exact zfu (qKZ ztB zn0 zn1 zn2)
 ·cases hs'
end Go.Proofs.H16

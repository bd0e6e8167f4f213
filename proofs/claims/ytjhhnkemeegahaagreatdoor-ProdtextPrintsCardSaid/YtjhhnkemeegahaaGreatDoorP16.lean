/- What the machine says holds of the program. -/
import Derived.Test.YtjhhnkemeegahaaGreatDoorIP16
import Derived.Test.YtjhhnkemeegahaaGreatDoorIrOk16
import Derived.Test.YtjhhnkemeegahaaGreatDoorSh16
import Derived.Test.YtjhhnkemeegahaaGreatDoorW16
import Derived.Test.YtjhhnkemeegahaaGreatDoorWp16
import Derived.Test.YtjhhnkemeegahaaGreatDoorX16a
set_option linter.all false
namespace Go.Proofs.H16
open Go Go.Eng Go.Shelf Go.Tk
set_option maxRecDepth 100000
theorem zp9:Builder.Extra Tryz.prog Tryz.lays158_ren where
 sizeBuilder:=by kernel_rfl
 liesBuilder:=by kernel_rfl
 t5:=Tryz.underlying5
 a5:=Tryz.isAgg5
 z5:=Tryz.sizeOf5
 v5:=Tryz.zeroValue5
 infoByte:=by kernel_rfl
 cellsByte:=by kernel_rfl
 sizeByte:=by kernel_rfl
 neB5:=by decide
theorem zqa:Builder.Extra Tryz.prog Tryz.lays159_ren where
 sizeBuilder:=by kernel_rfl
 liesBuilder:=by kernel_rfl
 t5:=Tryz.underlying5
 a5:=Tryz.isAgg5
 z5:=Tryz.sizeOf5
 v5:=Tryz.zeroValue5
 infoByte:=by kernel_rfl
 cellsByte:=by kernel_rfl
 sizeByte:=by kernel_rfl
 neB5:=by decide
theorem progOk:qC8 Tryz.prog IP:=by
 refine⟨fun _ _ h=>tab_all.look h,fun f g _ hs=>?_,fun f s _ _ hs=>?_⟩
 rotate_left
 ·have hs':(if f=24 then some (qns 66)else if f=157 then some (qpn 209 56 202)else none)=some s:=hs;split at hs'
  ·rename_i hf;subst hf;cases hs';exact zgw
  split at hs'
  ·rename_i hf;subst hf;cases hs';exact q6B
  ·cases hs'
 have hs':qFk f=some g:=hs;by_cases h22:f=22
 ·subst h22;have e:qFk 22=some (gOf putE):=by kernel_rfl
  rw[e]at hs';cases hs';exact H16a.put_ok
 simp only[qFk,jAm h22]at hs';split at hs'
 ·rename_i hf;subst hf;cases hs';exact qNM (ρ:=Tryz.lays138_ren) Tryz.lays138 (by exact⟨_,Tryz.func87,by kernel_rfl,by kernel_rfl⟩)
 split at hs'
 ·rename_i hf;subst hf;cases hs';exact quL (ρ:=Tryz.lays157_ren) Tryz.lays157 (by kernel_rfl) (by exact⟨_,Tryz.func62,by kernel_rfl,by kernel_rfl⟩) rfl
 split at hs'
 ·rename_i hf;subst hf;cases hs';exact q53 (ρ:=Tryz.lays217_ren) Tryz.lays217 (by exact⟨_,Tryz.func227,by kernel_rfl,by kernel_rfl⟩)
 split at hs'
 ·rename_i hf;subst hf;cases hs';exact qQg (ρ:=Tryz.laysC174_ren) Tryz.laysC174 (by exact⟨_,Tryz.func201,by kernel_rfl,by kernel_rfl⟩) (t1:=280) (x1:=.ptr []) (t2:=280) (x2:=.ptr []) rfl rfl
 split at hs'
 ·rename_i hf;subst hf;cases hs';exact qUg (ρ:=Tryz.laysC172_ren) Tryz.laysC172 (by exact⟨_,Tryz.func155,by kernel_rfl,by kernel_rfl⟩) (t1:=280) (x1:=.ptr []) (t2:=280) (x2:=.ptr []) rfl rfl
 split at hs'
 ·rename_i hf;subst hf;cases hs';exact qPU (ρ:=Tryz.laysM171_ren) Tryz.laysM171 (by exact⟨_,Tryz.func120,by kernel_rfl,by kernel_rfl⟩) (g:=8) (by kernel_rfl) rfl
 split at hs'
 ·rename_i hf;subst hf;cases hs';exact qxg (ρ:=Tryz.lays162_ren) Tryz.lays162 (by exact⟨_,Tryz.func178,by kernel_rfl,by kernel_rfl⟩)
 split at hs'
 ·rename_i hf;subst hf;cases hs';exact q6j (ρ:=Tryz.lays159_ren) Tryz.lays159 zqa (by exact⟨_,Tryz.func112,by kernel_rfl,by kernel_rfl⟩)
 split at hs'
 ·rename_i hf;subst hf;cases hs';exact qUv (ρ:=Tryz.lays150_ren) Tryz.lays150 (by kernel_rfl) (by exact⟨_,Tryz.func152,by kernel_rfl,by kernel_rfl⟩)
 split at hs'
 ·rename_i hf;subst hf;cases hs';exact ziv (ρ:=Tryz.lays158_ren) Tryz.lays158 zp9 (by exact⟨_,Tryz.func153,by kernel_rfl,by kernel_rfl⟩)
 split at hs'
 ·rename_i hf;subst hf;cases hs';exact zix (qNK zwd zqo zqp zqq)
 ·cases hs'
end Go.Proofs.H16

/- It is the program's code. -/
import Derived.KernelRfl
import Derived.Test.YtjhhnkemeegahaaGreatDoorIr16a
set_option linter.all false
namespace Go.Proofs.H16a
open Go Go.Eng Tryz
set_option maxRecDepth 1000000
abbrev FK:=qas Tryz.prog
theorem oe{i:Nat}{fn:Func}{hs:List (Nat×Nat)}{ks:List (List Nat)}(hf:Tryz.prog.funcs[i]? = some fn)(h:(znP Tryz.prog hs ks fn).isSome&& !(fn.name== "runtime.NumGoroutine")=true:=by kernel_rfl):FK i (fC hs ks fn):=qae hf h
theorem zvv:FK 22 F22:=by unfold F22;exact oe func22
theorem zr2:FK 65 F65:=by unfold F65;exact oe func65
theorem zr1:FK 64 F64:=by unfold F64;exact oe func64
theorem zfw:FK 126 zbY:=by unfold zbY;exact oe func126
theorem zfv:FK 125 zbX:=by unfold zbX;exact oe func125
theorem zfx:FK 186 qMA:=by unfold qMA;exact oe func186
theorem tab_all:TabF Tryz.prog tab:=⟨zvv,zr2,zr1,zfw,zfv,zfx,trivial⟩
end Go.Proofs.H16a

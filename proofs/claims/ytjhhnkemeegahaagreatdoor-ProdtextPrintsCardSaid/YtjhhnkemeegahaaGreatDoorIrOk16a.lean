/- It is the program's code. -/
import Derived.KernelRfl
import Derived.Test.YtjhhnkemeegahaaGreatDoorIr16a
set_option linter.all false
namespace Go.Proofs.H16a
open Go Go.Eng Tryz
set_option maxRecDepth 1000000
abbrev FK:=qC6 Tryz.prog
theorem oe{i:Nat}{fn:Func}{hs:List (Nat×Nat)}{ks:List (List Nat)}(hf:Tryz.prog.funcs[i]? = some fn)(h:(zjL Tryz.prog hs ks fn).isSome&& !(fn.name== "runtime.NumGoroutine")=true:=by kernel_rfl):FK i (fC hs ks fn):=qV6 hf h
theorem zvW:FK 22 F22:=by unfold F22;exact oe func22
theorem zsG:FK 65 F65:=by unfold F65;exact oe func65
theorem zsF:FK 64 F64:=by unfold F64;exact oe func64
theorem zgR:FK 126 q5d:=by unfold q5d;exact oe func126
theorem zgQ:FK 125 q5c:=by unfold q5c;exact oe func125
theorem zgS:FK 186 qGb:=by unfold qGb;exact oe func186
theorem tab_all:TabF Tryz.prog tab:=⟨zvW,zsG,zsF,zgR,zgQ,zgS,trivial⟩
end Go.Proofs.H16a

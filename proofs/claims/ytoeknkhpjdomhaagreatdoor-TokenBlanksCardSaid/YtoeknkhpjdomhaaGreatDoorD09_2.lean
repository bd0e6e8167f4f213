/- Functions over plain data. Printed by a program of mine. -/
import Derived.Test.YtoeknkhpjdomhaaGreatDoorD09_1
import Derived.KernelRfl
set_option linter.unusedVariables false
set_option linter.unusedSimpArgs false
set_option linter.unnecessarySimpa false
namespace Go.Proofs.H09
open Go Go.Eng
set_option maxRecDepth 100000
noncomputable section
abbrev qpA : Type := List AV × Int × Int
def qxg : PArgs := ⟨[.str], []⟩
def qx2 : List PRes := [⟨false, .tup [.view 3, .int .i64, .int .i64], []⟩]
def qj9 (x0 : List UInt8) : DT qpA :=
 .br (decide ((x0.length : Int) > 2048))
 (.at (([], 0, 5)))
 (.bi (pj 0 (qf6 (Sum.inl (x0, 1)))) (fun y0 =>
 .at (([], 0, 0)))
 (.bi (pj 1 (qf6 (Sum.inl (x0, 1)))) (fun y0 =>
 .at (([], IntKind.i64.wrap ((sl y0).2 + ((Lib.countByte (List.take (gv (qbG (sl y0).1)).toNat (sl y0).1) 10) : Int)), (gv (qdw (List.drop (gv (qbG (sl y0).1)).toNat (sl y0).1))).2.2.2)))
 (.bi (pj 2 (qf6 (Sum.inl (x0, 1)))) (fun y0 =>
 .at (((sr y0).2.2, 0, 0)))
 (.bi (pj 3 (qf6 (Sum.inl (x0, 1)))) (fun y0 =>
 .at (([], IntKind.i64.wrap ((sr y0).2.1 + ((Lib.countByte (List.take (gv (qbG (sr y0).1)).toNat (sr y0).1) 10) : Int)), (gv (qdw (List.drop (gv (qbG (sr y0).1)).toNat (sr y0).1))).2.2.2)))
 (.no)))))
def qb3 (x0 : List UInt8) : Option qpA := qaZ (qj9 x0).ev
theorem qqz (x0 : List UInt8) : qb3 x0 = (qj9 x0).ev := qab _
theorem qAl : FH IP 14 qxg qx2 qb3 := qap (F := F14) (L := [(1001400, qrY)]) (t := qj9) qpM (qaf (l := [qae F14 0]) (by kernel_rfl) ⟨qaL (by kernel_rfl) qBW, trivial⟩) (by kernel_rfl) (fun v => by kernel_rfl) (fun _ => qab _)
def T28 : Tab := (14, FE qxg qx2 qb3) :: T27
theorem qwo : qaz IP T28 := ⟨qaG qAl, qpM⟩
abbrev qvA : Type := List UInt8 × Int
def qxj : PArgs := ⟨[.int .i64], []⟩
def qx5 : List PRes := [⟨false, .tup [.str, .int .i64], []⟩]
def qkc (x0 : Int) : DT qvA :=
 .bi (br (decide (x0 < 0)) (some true) (some (decide (x0 > 1000000)))) (fun y0 =>
 .br (y0)
 (.at ((([] : List UInt8), 1)))
 (.br (decide (-9223372036854775808 ≤ IntKind.i64.wrap (10000 + x0.tmod 10000)) && decide (IntKind.i64.wrap (10000 + x0.tmod 10000) ≤ 9223372036854775807))
 (.br (leB 1 (Lib.itoa (IntKind.i64.wrap (10000 + x0.tmod 10000))).length)
 (.br (decide ((List.drop 1 (Lib.itoa (IntKind.i64.wrap (10000 + x0.tmod 10000)))).length ≤ 9223372036854775807))
 (.br (decide (-9223372036854775808 ≤ IntKind.i64.wrap (x0.tdiv 10000)) && decide (IntKind.i64.wrap (x0.tdiv 10000) ≤ 9223372036854775807))
 (.br (!Lib.trimRightB (List.drop 1 (Lib.itoa (IntKind.i64.wrap (10000 + x0.tmod 10000)))) 48 == ([] : List UInt8))
 (.br (decide (1 + (Lib.trimRightB (List.drop 1 (Lib.itoa (IntKind.i64.wrap (10000 + x0.tmod 10000)))) 48).length ≤ 4611686018427387904))
 (.br (decide
 ((Lib.itoa (IntKind.i64.wrap (x0.tdiv 10000))).length +
 (([46] : List UInt8) ++ Lib.trimRightB (List.drop 1 (Lib.itoa (IntKind.i64.wrap (10000 + x0.tmod 10000)))) 48).length ≤
 4611686018427387904))
 (.br (decide
 ((Lib.itoa (IntKind.i64.wrap (x0.tdiv 10000)) ++
 (([46] : List UInt8) ++ Lib.trimRightB (List.drop 1 (Lib.itoa (IntKind.i64.wrap (10000 + x0.tmod 10000)))) 48)).length +
 1 ≤
 4611686018427387904))
 (.at ((Lib.itoa (IntKind.i64.wrap (x0.tdiv 10000)) ++ (([46] : List UInt8) ++ Lib.trimRightB (List.drop 1 (Lib.itoa (IntKind.i64.wrap (10000 + x0.tmod 10000)))) 48) ++
 ([37] : List UInt8), 0)))
 (.no))
 (.no))
 (.no))
 (.br (decide ((Lib.itoa (IntKind.i64.wrap (x0.tdiv 10000))).length + 1 ≤ 4611686018427387904))
 (.at ((Lib.itoa (IntKind.i64.wrap (x0.tdiv 10000)) ++ ([37] : List UInt8), 0)))
 (.no)))
 (.no))
 (.no))
 (.no))
 (.no)))
 (.no)
def qgI (x0 : Int) : Option qvA := qaZ (qkc x0).ev
theorem qqC (x0 : Int) : qgI x0 = (qkc x0).ev := qab _
theorem qAo : FH IP 22 qxj qx5 qgI := qap (F := F22) (L := []) (t := qkc) qwo (qaf (l := []) (by kernel_rfl) trivial) (by kernel_rfl) (fun v => by kernel_rfl) (fun _ => qab _)
def T29 : Tab := (22, FE qxj qx5 qgI) :: T28
theorem qpN : qaz IP T29 := ⟨qaG qAo, qwo⟩
abbrev qda : Type := List AV × List AV × Int
def qrJ : List PSt := [⟨[(1001600, .junk), (0, .view 3), (1, .view 3), (5, .int .i64)], [], 0, 0⟩]
def qvg (x0 x1 : List AV) (x2 : Int) : X × St := (X.ret, ⟨[(4, AV.bool false)], [], 0, 0⟩)
def qvh (x0 x1 : List AV) (x2 : Int) : X × St := (X.exit 0, ⟨[(4, AV.junk)], [], 0, 0⟩)
def qCK : List (qda → X × St) := [(k3 qvg), (k3 qvh)]
def qhR (x0 x1 : List AV) (x2 : Int) : DT (Rd qda) :=
 .br (decide (x2 < (x0.length : Int)))
 (.br (qdP [CS.int IntKind.i64, CS.int IntKind.i64, CS.str] x0 x2)
 (.br (qdP [CS.int IntKind.i64, CS.int IntKind.i64, CS.str] x1 x2)
 (.br (if true = true then
 !(intOf (cellAt x0 x2 0) == intOf (cellAt x1 x2 0) && (intOf (cellAt x0 x2 1) == intOf (cellAt x1 x2 1) && (strOf (cellAt x0 x2 2) == strOf (cellAt x1 x2 2) && true)))
 else intOf (cellAt x0 x2 0) == intOf (cellAt x1 x2 0) && (intOf (cellAt x0 x2 1) == intOf (cellAt x1 x2 1) && (strOf (cellAt x0 x2 2) == strOf (cellAt x1 x2 2) && true)))
 (.at (.done 0))
 (.at (.next ((x0, x1, IntKind.i64.wrap (x2 + 1))))))
 (.no))
 (.no))
 (.at (.done 1))
def qfW : qda → DT (Rd qda) := (fun v => qhR v.1 v.2.1 v.2.2)
def qly (v : qda) : Option (Nat × qda) := qaZ (qav (fun v => (qfW v).ev) v)
theorem qlz (v : qda) : qly v = qav (fun v => (qfW v).ev) v := qab _
def qsh : qeo := LE (τ := qda) (hD qrJ) (qly) qCK
theorem qCf : Go.Eng.Told IP (qae F16 0).1 (qae F16 0).2 (qsh) := qaK (inferInstance : Inhabited qda) (hs := qrJ) (st := qfW) (L := []) qpN (qaf (l := []) (by kernel_rfl) trivial) (qlz) (fun v => by kernel_rfl) (fun v => by kernel_rfl)
abbrev qv4 : Type := Bool
def qxO : PArgs := ⟨[.view 3, .view 3], []⟩
def qyA : List PRes := [⟨false, .bool, []⟩]
def qkG (x0 x1 : List AV) : DT qv4 :=
 .br ((x0.length : Int) != (x1.length : Int))
 (.at (false))
 (.bi (pj 0 (qly (x0, x1, 0))) (fun y0 =>
 .at (false))
 (.bi (pj 1 (qly (x0, x1, 0))) (fun y0 =>
 .at (true))
 (.no)))
def qct (x0 x1 : List AV) : Option qv4 := qaZ (qkG x0 x1).ev
theorem qra (x0 x1 : List AV) : qct x0 x1 = (qkG x0 x1).ev := qab _
theorem qAS : FH IP 16 qxO qyA (k2 qct) := qap (F := F16) (L := [(1001600, qsh)]) (t := (k2 qkG)) qpN (qaf (l := [qae F16 0]) (by kernel_rfl) ⟨qaL (by kernel_rfl) qCf, trivial⟩) (by kernel_rfl) (fun v => by kernel_rfl) (fun _ => qab _)
def T30 : Tab := (16, FE qxO qyA (k2 qct)) :: T29
theorem qwp : qaz IP T30 := ⟨qaG qAS, qpN⟩
abbrev qvV : Type := Bool
def qxF : PArgs := ⟨[], []⟩
def qyr : List PRes := [⟨false, .bool, []⟩]
def qkx : DT qvV :=
 .bi (qb3 ([102, 101, 101, 32, 32, 120, 49, 32, 35, 32, 111, 110, 101, 10, 60, 61, 32, 49, 50, 32, 49, 46, 53, 37] : List UInt8)) (fun y0 =>
 .br (Tk.jB IP 18 y0.1)
 (.bi (qb3 ([97, 10, 48, 49] : List UInt8)) (fun y1 =>
 .bi (qf4 ([48, 46, 48, 48, 48, 49, 37] : List UInt8)) (fun y2 =>
 .bi (qgI 1000000) (fun y3 =>
 .bi (qct y0.1
 [AV.agg [AV.int IntKind.i64 5, AV.int IntKind.i64 1, AV.str ([102, 101, 101] : List UInt8)],
 AV.agg [AV.int IntKind.i64 1, AV.int IntKind.i64 1, AV.str ([120, 49] : List UInt8)],
 AV.agg [AV.int IntKind.i64 4, AV.int IntKind.i64 2, AV.str ([60, 61] : List UInt8)],
 AV.agg [AV.int IntKind.i64 2, AV.int IntKind.i64 2, AV.str ([49, 50] : List UInt8)],
 AV.agg [AV.int IntKind.i64 3, AV.int IntKind.i64 2, AV.str ([49, 46, 53, 37] : List UInt8)]]) (fun y4 =>
 .bi (br y4 (some (y0.2.1 == 0)) (some false)) (fun y5 =>
 .bi (br y5 (some (y0.2.2 == 0)) (some false)) (fun y6 =>
 .bi (br y6 (some (Tk.jS IP 18 y0.1 == ([102, 101, 101, 32, 120, 49, 10, 60, 61, 32, 49, 50, 32, 49, 46, 53, 37] : List UInt8))) (some false)) (fun y7 =>
 .bi (br y7 (some (Tk.jN IP 18 y0.1 == 0)) (some false)) (fun y8 =>
 .bi (br y8 (some (y1.2.1 == 2)) (some false)) (fun y9 =>
 .bi (br y9 (some (y1.2.2 == 2)) (some false)) (fun y10 =>
 .bi (br y10 (some (y2.1 == 1)) (some false)) (fun y11 =>
 .bi (br y11 (some (y2.2 == 0)) (some false)) (fun y12 =>
 .bi (br y12 (some (y3.1 == ([49, 48, 48, 37] : List UInt8))) (some false)) (fun y13 =>
 .bi (br y13 (some (y3.2 == 0)) (some false)) (fun y14 =>
 .bi (br y14
 (br (sm (qeT ([104, 97, 108, 102, 95, 101, 118, 101, 110] : List UInt8)))
 (some (gv (qeT ([104, 97, 108, 102, 95, 101, 118, 101, 110] : List UInt8)))) none)
 (some false)) (fun y15 =>
 .at (y15))
 (.no))
 (.no))
 (.no))
 (.no))
 (.no))
 (.no))
 (.no))
 (.no))
 (.no))
 (.no))
 (.no))
 (.no))
 (.no))
 (.no))
 (.no))
 (.no))
 (.no)
def qaN : Option qvV := qaZ (qkx).ev
theorem qq1 : qaN = (qkx).ev := qab _
theorem qAJ : FH IP 10 qxF qyr (fun _ => qaN) := qap (F := F10) (L := []) (t := (fun _ => qkx)) qwp (qaf (l := []) (by kernel_rfl) trivial) (by kernel_rfl) (fun v => by kernel_rfl) (fun _ => qab _)
def T31 : Tab := (10, FE qxF qyr (fun _ => qaN)) :: T30
theorem qwq : qaz IP T31 := ⟨qaG qAJ, qwp⟩
abbrev qvY : Type := List AV
def qxI : PArgs := ⟨[], []⟩
def qyu : List PRes := [⟨false, .view 1, []⟩]
def qkA : DT qvY :=
 .at ([AV.str ([112, 114, 111, 100, 117, 99, 116] : List UInt8), AV.str ([99, 117, 114, 114, 101, 110, 99, 121] : List UInt8),
 AV.str ([99, 97, 108, 101, 110, 100, 97, 114] : List UInt8), AV.str ([102, 114, 111, 109] : List UInt8),
 AV.str ([101, 118, 101, 114, 121] : List UInt8), AV.str ([111, 118, 101, 114, 100, 114, 97, 102, 116] : List UInt8),
 AV.str ([116, 97, 120] : List UInt8), AV.str ([99, 114, 101, 100, 105, 116] : List UInt8), AV.str ([100, 101, 98, 105, 116] : List UInt8),
 AV.str ([109, 97, 114, 103, 105, 110, 97, 108] : List UInt8), AV.str ([119, 104, 111, 108, 101] : List UInt8),
 AV.str ([97, 99, 116, 51, 54, 48] : List UInt8), AV.str ([97, 99, 116, 51, 54, 53] : List UInt8), AV.str ([97, 99, 116, 117, 97, 108] : List UInt8),
 AV.str ([116, 104, 105, 114, 116, 121] : List UInt8), AV.str ([100, 111, 119, 110] : List UInt8), AV.str ([117, 112] : List UInt8),
 AV.str ([102, 108, 111, 111, 114] : List UInt8), AV.str ([99, 101, 105, 108] : List UInt8), AV.str ([104, 97, 108, 102, 95, 117, 112] : List UInt8),
 AV.str ([104, 97, 108, 102, 95, 101, 118, 101, 110] : List UInt8), AV.str ([107, 101, 101, 112] : List UInt8),
 AV.str ([100, 114, 111, 112] : List UInt8), AV.str ([102, 101, 101] : List UInt8), AV.str ([108, 105, 109, 105, 116] : List UInt8),
 AV.str ([119, 104, 101, 110] : List UInt8), AV.str ([97, 109, 111, 117, 110, 116, 95, 111, 102] : List UInt8),
 AV.str ([115, 105, 110, 103, 108, 101] : List UInt8), AV.str ([100, 97, 105, 108, 121] : List UInt8),
 AV.str ([109, 111, 110, 116, 104, 108, 121] : List UInt8), AV.str ([109, 111, 110, 116, 104] : List UInt8),
 AV.str ([114, 101, 116, 117, 114, 110] : List UInt8), AV.str ([99, 108, 111, 115, 101] : List UInt8),
 AV.str ([101, 118, 101, 110, 116] : List UInt8), AV.str ([105, 102] : List UInt8), AV.str ([116, 104, 101, 110] : List UInt8),
 AV.str ([101, 108, 115, 101] : List UInt8), AV.str ([97, 110, 100] : List UInt8), AV.str ([111, 114] : List UInt8),
 AV.str ([110, 111, 116] : List UInt8), AV.str ([109, 105, 110] : List UInt8), AV.str ([109, 97, 120] : List UInt8)])
def qiC : Option qvY := qaZ (qkA).ev
theorem qq4 : qiC = (qkA).ev := qab _
theorem qAM : FH IP 11 qxI qyu (fun _ => qiC) := qap (F := F11) (L := []) (t := (fun _ => qkA)) qwq (qaf (l := []) (by kernel_rfl) trivial) (by kernel_rfl) (fun v => by kernel_rfl) (fun _ => qab _)
def T32 : Tab := (11, FE qxI qyu (fun _ => qiC)) :: T31
theorem qm1 : qaz IP T32 := ⟨qaG qAM, qwq⟩
abbrev qcB : Type := List UInt8 × List AV × Int
def qrp : List PSt := [⟨[(1000300, .junk), (0, .str), (3, .view 1), (4, .int .i64)], [], 0, 0⟩]
def quH (x0 : List UInt8) (x1 : List AV) (x2 : Int) : X × St := (X.ret, ⟨[(0, AV.str x0), (2, AV.bool false)], [], 0, 0⟩)
def quI (x0 : List UInt8) (x1 : List AV) (x2 : Int) : X × St := (X.exit 0, ⟨[(0, AV.str x0), (2, AV.junk)], [], 0, 0⟩)
def qCq : List (qcB → X × St) := [(k3 quH), (k3 quI)]
def qhr (x0 : List UInt8) (x1 : List AV) (x2 : Int) : DT (Rd qcB) :=
 .br (decide (x2 < (x1.length : Int)))
 (.br (qdP [CS.str] x1 x2)
 (.bi (qeT (strOf (cellAt x1 x2 0))) (fun y0 =>
 .br (!y0) (.at (.done 0)) (.at (.next ((x0, x1, IntKind.i64.wrap (x2 + 1))))))
 (.no))
 (.no))
 (.at (.done 1))
def qfO : qcB → DT (Rd qcB) := (fun v => qhr v.1 v.2.1 v.2.2)
def qll (v : qcB) : Option (Nat × qcB) := qaZ (qav (fun v => (qfO v).ev) v)
theorem qlm (v : qcB) : qll v = qav (fun v => (qfO v).ev) v := qab _
def qrX : qeo := LE (τ := qcB) (hD qrp) (qll) qCq
theorem qBV : Go.Eng.Told IP (qae F3 0).1 (qae F3 0).2 (qrX) := qaK (inferInstance : Inhabited qcB) (hs := qrp) (st := qfO) (L := []) qm1 (qaf (l := []) (by kernel_rfl) trivial) (qlm) (fun v => by kernel_rfl) (fun v => by kernel_rfl)
abbrev qdb : Type := List UInt8 × List AV × Int
def qrK : List PSt := [⟨[(1001300, .junk), (0, .str), (3, .view 1), (4, .int .i64)], [], 0, 0⟩]
def qvi (x0 : List UInt8) (x1 : List AV) (x2 : Int) : X × St := (X.ret, ⟨[(2, AV.bool true)], [], 0, 0⟩)
def qvj (x0 : List UInt8) (x1 : List AV) (x2 : Int) : X × St := (X.exit 0, ⟨[(2, AV.junk)], [], 0, 0⟩)
def qCL : List (qdb → X × St) := [(k3 qvi), (k3 qvj)]
def qhT (x0 : List UInt8) (x1 : List AV) (x2 : Int) : DT (Rd qdb) :=
 .br (decide (x2 < (x1.length : Int)))
 (.br (qdP [CS.str] x1 x2)
 (.br (strOf (cellAt x1 x2 0) == x0) (.at (.done 0)) (.at (.next ((x0, x1, IntKind.i64.wrap (x2 + 1))))))
 (.no))
 (.at (.done 1))
def qhS : qdb → DT (Rd qdb) := (fun v => qhT v.1 v.2.1 v.2.2)
def qlA (v : qdb) : Option (Nat × qdb) := qaZ (qav (fun v => (qhS v).ev) v)
theorem qlB (v : qdb) : qlA v = qav (fun v => (qhS v).ev) v := qab _
def qsi : qeo := LE (τ := qdb) (hD qrK) (qlA) qCL
theorem qCg : Go.Eng.Told IP (qae F13 0).1 (qae F13 0).2 (qsi) := qaK (inferInstance : Inhabited qdb) (hs := qrK) (st := qhS) (L := []) qm1 (qaf (l := []) (by kernel_rfl) trivial) (qlB) (fun v => by kernel_rfl) (fun v => by kernel_rfl)
abbrev qv5 : Type := Bool
def qxP : PArgs := ⟨[.str], []⟩
def qyB : List PRes := [⟨false, .bool, []⟩]
def qkH (x0 : List UInt8) : DT qv5 :=
 .bi (qiC) (fun y0 =>
 .bi (pj 0 (qlA (x0, y0, 0))) (fun y1 =>
 .at (true))
 (.bi (pj 1 (qlA (x0, y0, 0))) (fun y1 =>
 .at (false))
 (.no)))
 (.no)
def qiH (x0 : List UInt8) : Option qv5 := qaZ (qkH x0).ev
theorem qrb (x0 : List UInt8) : qiH x0 = (qkH x0).ev := qab _
theorem qAT : FH IP 13 qxP qyB qiH := qap (F := F13) (L := [(1001300, qsi)]) (t := qkH) qm1 (qaf (l := [qae F13 0]) (by kernel_rfl) ⟨qaL (by kernel_rfl) qCg, trivial⟩) (by kernel_rfl) (fun v => by kernel_rfl) (fun _ => qab _)
def T33 : Tab := (13, FE qxP qyB qiH) :: T32
theorem qwr : qaz IP T33 := ⟨qaG qAT, qm1⟩
abbrev qvx : Type := Bool
def qxf : PArgs := ⟨[.str], []⟩
def qx1 : List PRes := [⟨false, .bool, []⟩]
def qj8 (x0 : List UInt8) : DT qvx :=
 .br (decide ((x0.length : Int) > 100))
 (.bi (qaN) (fun y0 =>
 .at (y0))
 (.no))
 (.bi (qiC) (fun y0 =>
 .bi (pj 0 (qll (x0, y0, 0))) (fun y1 =>
 .at (false))
 (.bi (pj 1 (qll (x0, y0, 0))) (fun y1 =>
 .bi (qeT y1.1) (fun y2 =>
 .bi (qiH y1.1) (fun y3 =>
 .bi (br (if false = true then !y2 == y3 else y2 == y3) (br (sm qaN) (some (gv qaN)) none) (some false)) (fun y4 =>
 .at (y4))
 (.no))
 (.no))
 (.no))
 (.no)))
 (.no))
def qng (x0 : List UInt8) : Option qvx := qaZ (qj8 x0).ev
theorem qqy (x0 : List UInt8) : qng x0 = (qj8 x0).ev := qab _
theorem qwL : FH IP 3 qxf qx1 qng := qap (F := F3) (L := [(1000300, qrX)]) (t := qj8) qwr (qaf (l := [qae F3 0]) (by kernel_rfl) ⟨qaL (by kernel_rfl) qBV, trivial⟩) (by kernel_rfl) (fun v => by kernel_rfl) (fun _ => qab _)
def T34 : Tab := (3, FE qxf qx1 qng) :: T33
theorem qpO : qaz IP T34 := ⟨qaG qwL, qwr⟩
abbrev qbX : Type := (List UInt8 × Int × Int) ⊕ (List UInt8 × Int × Int × List AV)
def qrv : List PSt := [⟨[(1001501, .junk), (0, .str), (5, .nils 3), (6, .int .i64), (7, .int .i64)], [], 0, 0⟩, ⟨[(1001501, .junk), (0, .str), (5, .own 0 0), (6, .int .i64), (7, .int .i64)], [(0, .arr 3 false)], 1, 0⟩]
def quU (x0 : List UInt8) (x1 x2 : Int) : X × St := (X.exit 3, ⟨[(0, AV.str x0), (5, AV.nils ⟨3, NKd.nil⟩), (6, AV.int IntKind.i64 x1), (7, AV.int IntKind.i64 x2)], [], 0, 0⟩)
def quV (x0 : List UInt8) (x1 x2 : Int) (x3 : List AV) : X × St := (X.exit 3, ⟨[(0, AV.str x0), (5, AV.own 0 0 none), (6, AV.int IntKind.i64 x1), (7, AV.int IntKind.i64 x2)], [(0, Blk.arr 3 x3 false)], 1, 0⟩)
def qCw : List (qbX → X × St) := [fun w => (k3 quU) ((sl w)), fun w => (k4 quV) ((sr w))]
def qhy (x0 : List UInt8) (x1 x2 : Int) : DT (Rd qbX) :=
 .bi (br (decide (x2 < (x0.length : Int))) (br (inB x0.length x2) (some (qad x0 x2 != 10)) none) (some false)) (fun y0 =>
 .br (y0) (.at (.next ((.inl (x0, x1, IntKind.i64.wrap (x2 + 1)))))) (.at (.done 0)))
 (.no)
def qhz (x0 : List UInt8) (x1 x2 : Int) (x3 : List AV) : DT (Rd qbX) :=
 .bi (br (decide (x2 < (x0.length : Int))) (br (inB x0.length x2) (some (qad x0 x2 != 10)) none) (some false)) (fun y0 =>
 .br (y0) (.at (.next ((.inr (x0, x1, IntKind.i64.wrap (x2 + 1), x3))))) (.at (.done 1)))
 (.no)
def qeD : qbX → DT (Rd qbX) := (Sum.elim (fun v => qhy v.1 v.2.1 v.2.2) (fun v => qhz v.1 v.2.1 v.2.2.1 v.2.2.2))
def qdy (v : qbX) : Option (Nat × qbX) := qaZ (qav (fun v => (qeD v).ev) v)
theorem qg4 (v : qbX) : qdy v = qav (fun v => (qeD v).ev) v := qab _
def qr3 : qeo := LE (τ := qbX) (hD qrv) (qdy) qCw
theorem qB1 : Go.Eng.Told IP (qae F15 1).1 (qae F15 1).2 (qr3) := qaK (inferInstance : Inhabited qbX) (hs := qrv) (st := qeD) (L := []) qpO (qaf (l := []) (by kernel_rfl) trivial) (qg4) (fun v => match v with | (.inl v) => by kernel_rfl | (.inr v) => by kernel_rfl) (fun v => match v with | (.inl v) => by kernel_rfl | (.inr v) => by kernel_rfl)
abbrev qvR : Type := Bool
def qxB : PArgs := ⟨[.int .u8], []⟩
def qyn : List PRes := [⟨false, .bool, []⟩]
def qkt (x0 : Int) : DT qvR :=
 .bi (br (decide (x0 ≥ 97)) (some (decide (x0 ≤ 122))) (some false)) (fun y0 =>
 .at (y0))
 (.no)
def qgN (x0 : Int) : Option qvR := qaZ (qkt x0).ev
theorem qqX (x0 : Int) : qgN x0 = (qkt x0).ev := qab _
theorem qAF : FH IP 61 qxB qyn qgN := qap (F := F61) (L := []) (t := qkt) qpO (qaf (l := []) (by kernel_rfl) trivial) (by kernel_rfl) (fun v => by kernel_rfl) (fun _ => qab _)
def T35 : Tab := (61, FE qxB qyn qgN) :: T34
theorem qws : qaz IP T35 := ⟨qaG qAF, qpO⟩
abbrev qvZ : Type := Bool
def qxJ : PArgs := ⟨[.int .u8], []⟩
def qyv : List PRes := [⟨false, .bool, []⟩]
def qkB (x0 : Int) : DT qvZ :=
 .bi (br (decide (x0 ≥ 48)) (some (decide (x0 ≤ 57))) (some false)) (fun y0 =>
 .at (y0))
 (.no)
def qdI (x0 : Int) : Option qvZ := qaZ (qkB x0).ev
theorem qq5 (x0 : Int) : qdI x0 = (qkB x0).ev := qab _
theorem qAN : FH IP 45 qxJ qyv qdI := qap (F := F45) (L := []) (t := qkB) qws (qaf (l := []) (by kernel_rfl) trivial) (by kernel_rfl) (fun v => by kernel_rfl) (fun _ => qab _)
def T36 : Tab := (45, FE qxJ qyv qdI) :: T35
theorem qpP : qaz IP T36 := ⟨qaG qAN, qws⟩
abbrev qde : Type := List UInt8 × Int × Bool
def qrN : List PSt := [⟨[(1006200, .junk), (0, .str), (1, .int .i64), (2, .bool)], [], 0, 0⟩]
def qvo (x0 : List UInt8) (x1 : Int) (x2 : Bool) : X × St := (X.exit 0, ⟨[(1, AV.int IntKind.i64 x1)], [], 0, 0⟩)
def qCO : List (qde → X × St) := [(k3 qvo)]
def qhX (x0 : List UInt8) (x1 : Int) (x2 : Bool) : DT (Rd qde) :=
 .bi (br (decide (x1 < (x0.length : Int)))
 (br (inB x0.length x1)
 (br (sm (qgN (qad x0 x1)))
 (br (gv (qgN (qad x0 x1))) (some true)
 (br (inB x0.length x1)
 (br (sm (qdI (qad x0 x1)))
 (br (gv (qdI (qad x0 x1))) (some true)
 (br (inB x0.length x1)
 (br (qad x0 x1 == 95) (some true)
 (br x2 (br (inB x0.length x1) (br (qad x0 x1 == 46) (some true) (br (inB x0.length x1) (some (qad x0 x1 == 37)) none)) none) (some false)))
 none))
 none)
 none))
 none)
 none)
 (some false)) (fun y0 =>
 .br (y0) (.at (.next ((x0, IntKind.i64.wrap (x1 + 1), x2)))) (.at (.done 0)))
 (.no)
def qhW : qde → DT (Rd qde) := (fun v => qhX v.1 v.2.1 v.2.2)
def qnt (v : qde) : Option (Nat × qde) := qaZ (qav (fun v => (qhW v).ev) v)
theorem qlF (v : qde) : qnt v = qav (fun v => (qhW v).ev) v := qab _
def qsl : qeo := LE (τ := qde) (hD qrN) (qnt) qCO
theorem qCj : Go.Eng.Told IP (qae F62 0).1 (qae F62 0).2 (qsl) := qaK (inferInstance : Inhabited qde) (hs := qrN) (st := qhW) (L := []) qpP (qaf (l := []) (by kernel_rfl) trivial) (qlF) (fun v => by kernel_rfl) (fun v => by kernel_rfl)
abbrev qv9 : Type := Int
def qxT : PArgs := ⟨[.str, .int .i64, .bool], []⟩
def qyF : List PRes := [⟨false, .int .i64, []⟩]
def qkL (x0 : List UInt8) (x1 : Int) (x2 : Bool) : DT qv9 :=
 .bi (pj 0 (qnt (x0, x1, x2))) (fun y0 =>
 .at (y0.2.1))
 (.no)
def qiL (x0 : List UInt8) (x1 : Int) (x2 : Bool) : Option qv9 := qaZ (qkL x0 x1 x2).ev
theorem qrf (x0 : List UInt8) (x1 : Int) (x2 : Bool) : qiL x0 x1 x2 = (qkL x0 x1 x2).ev := qab _
theorem qAX : FH IP 62 qxT qyF (k3 qiL) := qap (F := F62) (L := [(1006200, qsl)]) (t := (k3 qkL)) qpP (qaf (l := [qae F62 0]) (by kernel_rfl) ⟨qaL (by kernel_rfl) qCj, trivial⟩) (by kernel_rfl) (fun v => by kernel_rfl) (fun _ => qab _)
def T37 : Tab := (62, FE qxT qyF (k3 qiL)) :: T36
theorem qpQ : qaz IP T37 := ⟨qaG qAX, qpP⟩
abbrev qc4 : Type := List UInt8 × Int
def qrD : List PSt := [⟨[(1004400, .junk), (0, .str), (3, .int .i64)], [], 0, 0⟩]
def qu6 (x0 : List UInt8) (x1 : Int) : X × St := (X.exit 0, ⟨[(0, AV.str x0), (3, AV.int IntKind.i64 x1)], [], 0, 0⟩)
def qCE : List (qc4 → X × St) := [(k2 qu6)]
def qhJ (x0 : List UInt8) (x1 : Int) : DT (Rd qc4) :=
 .bi (br (decide (x1 < (x0.length : Int))) (br (inB x0.length x1) (br (sm (qdI (qad x0 x1))) (some (gv (qdI (qad x0 x1)))) none) none) (some false)) (fun y0 =>
 .br (y0) (.at (.next ((x0, IntKind.i64.wrap (x1 + 1))))) (.at (.done 0)))
 (.no)
def qhI : qc4 → DT (Rd qc4) := (fun v => qhJ v.1 v.2)
def qnq (v : qc4) : Option (Nat × qc4) := qaZ (qav (fun v => (qhI v).ev) v)
theorem qlx (v : qc4) : qnq v = qav (fun v => (qhI v).ev) v := qab _
def qsb : qeo := LE (τ := qc4) (hD qrD) (qnq) qCE
theorem qB9 : Go.Eng.Told IP (qae F44 0).1 (qae F44 0).2 (qsb) := qaK (inferInstance : Inhabited qc4) (hs := qrD) (st := qhI) (L := []) qpQ (qaf (l := []) (by kernel_rfl) trivial) (qlx) (fun v => by kernel_rfl) (fun v => by kernel_rfl)
abbrev qv1 : Type := Int
def qxL : PArgs := ⟨[.str], []⟩
def qyx : List PRes := [⟨false, .int .i64, []⟩]
def qkD (x0 : List UInt8) : DT qv1 :=
 .bi (pj 0 (qnq (x0, 0))) (fun y0 =>
 .bi (br (decide (y0.2 > 1)) (br (inB y0.1.length 0) (some (qad y0.1 0 == 48)) none) (some false)) (fun y1 =>
 .br (y1) (.at (0)) (.at (y0.2)))
 (.no))
 (.no)
def qgO (x0 : List UInt8) : Option qv1 := qaZ (qkD x0).ev
theorem qq7 (x0 : List UInt8) : qgO x0 = (qkD x0).ev := qab _
theorem qAP : FH IP 44 qxL qyx qgO := qap (F := F44) (L := [(1004400, qsb)]) (t := qkD) qpQ (qaf (l := [qae F44 0]) (by kernel_rfl) ⟨qaL (by kernel_rfl) qB9, trivial⟩) (by kernel_rfl) (fun v => by kernel_rfl) (fun _ => qab _)
def T38 : Tab := (44, FE qxL qyx qgO) :: T37
theorem qwt : qaz IP T38 := ⟨qaG qAP, qpQ⟩
abbrev qv0 : Type := Bool
def qxK : PArgs := ⟨[.str], []⟩
def qyw : List PRes := [⟨false, .bool, []⟩]
def qkC (x0 : List UInt8) : DT qv0 :=
 .bi (br (decide ((x0.length : Int) > (19 : Int))) (some true)
 (br ((x0.length : Int) == (19 : Int))
 (some
 !(qa0 x0 ([57, 50, 50, 51, 51, 55, 50, 48, 51, 54, 56, 53, 52, 55, 55, 53, 56, 48, 55] : List UInt8) ||
 x0 == ([57, 50, 50, 51, 51, 55, 50, 48, 51, 54, 56, 53, 52, 55, 55, 53, 56, 48, 55] : List UInt8)))
 (some false))) (fun y0 =>
 .at (y0))
 (.no)
def qlf (x0 : List UInt8) : Option qv0 := qaZ (qkC x0).ev
theorem qq6 (x0 : List UInt8) : qlf x0 = (qkC x0).ev := qab _
theorem qAO : FH IP 63 qxK qyw qlf := qap (F := F63) (L := []) (t := qkC) qwt (qaf (l := []) (by kernel_rfl) trivial) (by kernel_rfl) (fun v => by kernel_rfl) (fun _ => qab _)
def T39 : Tab := (63, FE qxK qyw qlf) :: T38
theorem qpR : qaz IP T39 := ⟨qaG qAO, qwt⟩
abbrev qdc : Type := List UInt8 × Int
def qrL : List PSt := [⟨[(1004300, .junk), (0, .str), (4, .int .i64)], [], 0, 0⟩]
def qvk (x0 : List UInt8) (x1 : Int) : X × St := (X.ret, ⟨[(2, AV.bool false)], [], 0, 0⟩)
def qvl (x0 : List UInt8) (x1 : Int) : X × St := (X.exit 0, ⟨[(2, AV.junk)], [], 0, 0⟩)
def qCM : List (qdc → X × St) := [(k2 qvk), (k2 qvl)]
def qhU (x0 : List UInt8) (x1 : Int) : DT (Rd qdc) :=
 .br (decide (x1 < (x0.length : Int)))
 (.br (inB x0.length x1)
 (.bi (qdI (qad x0 x1)) (fun y0 =>
 .br (!y0) (.at (.done 0)) (.at (.next ((x0, IntKind.i64.wrap (x1 + 1))))))
 (.no))
 (.no))
 (.at (.done 1))
def qeF : qdc → DT (Rd qdc) := (fun v => qhU v.1 v.2)
def qiW (v : qdc) : Option (Nat × qdc) := qaZ (qav (fun v => (qeF v).ev) v)
theorem qlC (v : qdc) : qiW v = qav (fun v => (qeF v).ev) v := qab _
def qsj : qeo := LE (τ := qdc) (hD qrL) (qiW) qCM
theorem qCh : Go.Eng.Told IP (qae F43 0).1 (qae F43 0).2 (qsj) := qaK (inferInstance : Inhabited qdc) (hs := qrL) (st := qeF) (L := []) qpR (qaf (l := []) (by kernel_rfl) trivial) (qlC) (fun v => by kernel_rfl) (fun v => by kernel_rfl)
abbrev qv7 : Type := Bool
def qxR : PArgs := ⟨[.str], []⟩
def qyD : List PRes := [⟨false, .bool, []⟩]
def qkJ (x0 : List UInt8) : DT qv7 :=
 .bi (qgO x0) (fun y0 =>
 .bi (br (y0 == 0) (some true) (br (inB x0.length (IntKind.i64.wrap ((x0.length : Int) - 1))) (some (qad x0 (IntKind.i64.wrap ((x0.length : Int) - 1)) != 37)) none)) (fun y1 =>
 .br (y1)
 (.at (false))
 (.br (leB (IntKind.i64.wrap ((x0.length : Int) - 1)) x0.length && leB y0 (IntKind.i64.wrap ((x0.length : Int) - 1)).toNat)
 (.br (List.take ((IntKind.i64.wrap ((x0.length : Int) - 1)).toNat - y0.toNat) (List.drop y0.toNat x0) == ([] : List UInt8))
 (.at (true))
 (.bi (br (decide (((List.take ((IntKind.i64.wrap ((x0.length : Int) - 1)).toNat - y0.toNat) (List.drop y0.toNat x0)).length : Int) < 2)) (some true)
 (some (decide (((List.take ((IntKind.i64.wrap ((x0.length : Int) - 1)).toNat - y0.toNat) (List.drop y0.toNat x0)).length : Int) > 5)))) (fun y2 =>
 .bi (br y2 (some true)
 (br (inB (List.take ((IntKind.i64.wrap ((x0.length : Int) - 1)).toNat - y0.toNat) (List.drop y0.toNat x0)).length 0)
 (some (qad (List.take ((IntKind.i64.wrap ((x0.length : Int) - 1)).toNat - y0.toNat) (List.drop y0.toNat x0)) 0 != 46)) none)) (fun y3 =>
 .bi (br y3 (some true)
 (br
 (inB (List.take ((IntKind.i64.wrap ((x0.length : Int) - 1)).toNat - y0.toNat) (List.drop y0.toNat x0)).length
 (IntKind.i64.wrap (((List.take ((IntKind.i64.wrap ((x0.length : Int) - 1)).toNat - y0.toNat) (List.drop y0.toNat x0)).length : Int) - 1)))
 (some
 (qad (List.take ((IntKind.i64.wrap ((x0.length : Int) - 1)).toNat - y0.toNat) (List.drop y0.toNat x0))
 (IntKind.i64.wrap (((List.take ((IntKind.i64.wrap ((x0.length : Int) - 1)).toNat - y0.toNat) (List.drop y0.toNat x0)).length : Int) - 1)) ==
 48))
 none)) (fun y4 =>
 .br (y4)
 (.at (false))
 (.bi (pj 0 (qiW (List.take ((IntKind.i64.wrap ((x0.length : Int) - 1)).toNat - y0.toNat) (List.drop y0.toNat x0), 1))) (fun y5 =>
 .at (false))
 (.bi (pj 1 (qiW (List.take ((IntKind.i64.wrap ((x0.length : Int) - 1)).toNat - y0.toNat) (List.drop y0.toNat x0), 1))) (fun y5 =>
 .at (true))
 (.no))))
 (.no))
 (.no))
 (.no)))
 (.no)))
 (.no))
 (.no)
def qiJ (x0 : List UInt8) : Option qv7 := qaZ (qkJ x0).ev
theorem qrd (x0 : List UInt8) : qiJ x0 = (qkJ x0).ev := qab _
theorem qAV : FH IP 43 qxR qyD qiJ := qap (F := F43) (L := [(1004300, qsj)]) (t := qkJ) qpR (qaf (l := [qae F43 0]) (by kernel_rfl) ⟨qaL (by kernel_rfl) qCh, trivial⟩) (by kernel_rfl) (fun v => by kernel_rfl) (fun _ => qab _)
def T40 : Tab := (43, FE qxR qyD qiJ) :: T39
theorem qm2 : qaz IP T40 := ⟨qaG qAV, qpR⟩
abbrev qc8 : Type := List UInt8 × Int × Int × Int × Int
def qrH : List PSt := [⟨[(1002100, .junk), (0, .str), (4, .int .i64), (5, .int .i64), (6, .int .i64), (7, .int .i64)], [], 0, 0⟩]
def qvd (x0 : List UInt8) (x1 x2 : Int) (x3 x4 : Int) : X × St := (X.ret,
 ⟨[(2, AV.int IntKind.i64 0), (3, AV.int IntKind.i64 1),
 (5, AV.int IntKind.i64 (IntKind.i64.wrap (IntKind.i64.wrap (10 * x2) + IntKind.i64.wrap (IntKind.u8.wrap (qad x0 x4 - 48))))), (6, AV.int IntKind.i64 x3)], [], 0, 0⟩)
def qve (x0 : List UInt8) (x1 x2 : Int) (x3 x4 : Int) : X × St := (X.exit 0, ⟨[(2, AV.junk), (3, AV.junk), (5, AV.int IntKind.i64 x2), (6, AV.int IntKind.i64 x3)], [], 0, 0⟩)
def qCI : List (qc8 → X × St) := [(k5 qvd), (k5 qve)]
def qhO (x0 : List UInt8) (x1 x2 : Int) (x3 x4 : Int) : DT (Rd qc8) :=
 .br (decide (x4 < IntKind.i64.wrap ((x0.length : Int) - 1)))
 (.br (inB x0.length x4)
 (.bi (qdI (qad x0 x4)) (fun y0 =>
 .br (y0)
 (.br (inB x0.length x4)
 (.br (decide (IntKind.i64.wrap (IntKind.i64.wrap (10 * x2) + IntKind.i64.wrap (IntKind.u8.wrap (qad x0 x4 - 48))) > 1000000))
 (.at (.done 0))
 (.br (decide (x4 > x1))
 (.at (.next ((x0, x1, IntKind.i64.wrap (IntKind.i64.wrap (10 * x2) + IntKind.i64.wrap (IntKind.u8.wrap (qad x0 x4 - 48))), IntKind.i64.wrap (x3 + 1), IntKind.i64.wrap (x4 + 1)))))
 (.at (.next ((x0, x1, IntKind.i64.wrap (IntKind.i64.wrap (10 * x2) + IntKind.i64.wrap (IntKind.u8.wrap (qad x0 x4 - 48))), x3, IntKind.i64.wrap (x4 + 1)))))))
 (.no))
 (.at (.next ((x0, x1, x2, x3, IntKind.i64.wrap (x4 + 1))))))
 (.no))
 (.no))
 (.at (.done 1))
def qfV : qc8 → DT (Rd qc8) := (fun v => qhO v.1 v.2.1 v.2.2.1 v.2.2.2.1 v.2.2.2.2)
def qf8 (v : qc8) : Option (Nat × qc8) := qaZ (qav (fun v => (qfV v).ev) v)
theorem qdM (v : qc8) : qf8 v = qav (fun v => (qfV v).ev) v := qab _
def qsf : qeo := LE (τ := qc8) (hD qrH) (qf8) qCI
theorem qCd : Go.Eng.Told IP (qae F21 0).1 (qae F21 0).2 (qsf) := qaK (inferInstance : Inhabited qc8) (hs := qrH) (st := qfV) (L := []) qm2 (qaf (l := []) (by kernel_rfl) trivial) (qdM) (fun v => by kernel_rfl) (fun v => by kernel_rfl)
abbrev qc9 : Type := Int × Int
def qrI : List PSt := [⟨[(1002101, .junk), (5, .int .i64), (6, .int .i64)], [], 0, 0⟩]
def qvf (x0 x1 : Int) : X × St := (X.exit 2, ⟨[(5, AV.int IntKind.i64 x0)], [], 0, 0⟩)
def qCJ : List (qc9 → X × St) := [(k2 qvf)]
def qhQ (x0 x1 : Int) : DT (Rd qc9) :=
 .br (decide (x1 < 4)) (.at (.next ((IntKind.i64.wrap (10 * x0), IntKind.i64.wrap (x1 + 1))))) (.at (.done 0))
def qhP : qc9 → DT (Rd qc9) := (fun v => qhQ v.1 v.2)
def qns (v : qc9) : Option (Nat × qc9) := qaZ (qav (fun v => (qhP v).ev) v)
theorem qe2 (v : qc9) : qns v = qav (fun v => (qhP v).ev) v := qab _
def qsg : qeo := LE (τ := qc9) (hD qrI) (qns) qCJ
theorem qCe : Go.Eng.Told IP (qae F21 1).1 (qae F21 1).2 (qsg) := qaK (inferInstance : Inhabited qc9) (hs := qrI) (st := qhP) (L := []) qm2 (qaf (l := []) (by kernel_rfl) trivial) (qe2) (fun v => by kernel_rfl) (fun v => by kernel_rfl)
abbrev qv3 : Type := Int × Int
def qxN : PArgs := ⟨[.str], []⟩
def qyz : List PRes := [⟨false, .tup [.int .i64, .int .i64], []⟩]
def qkF (x0 : List UInt8) : DT qv3 :=
 .bi (qiJ x0) (fun y0 =>
 .br (!y0)
 (.at ((0, 2)))
 (.bi (qgO x0) (fun y1 =>
 .bi (pj 0 (qf8 (x0, y1, 0, 0, 0))) (fun y2 =>
 .at ((0, 1)))
 (.bi (pj 1 (qf8 (x0, y1, 0, 0, 0))) (fun y2 =>
 .bi (pj 0 (qns (y2.2.2.1, y2.2.2.2.1))) (fun y3 =>
 .br (decide (y3.1 > 1000000)) (.at ((0, 1))) (.at ((y3.1, 0))))
 (.no))
 (.no)))
 (.no)))
 (.no)
def qiE (x0 : List UInt8) : Option qv3 := qaZ (qkF x0).ev
theorem qq9 (x0 : List UInt8) : qiE x0 = (qkF x0).ev := qab _
theorem qAR : FH IP 21 qxN qyz qiE := qap (F := F21) (L := [(1002100, qsf), (1002101, qsg)]) (t := qkF) qm2 (qaf (l := [qae F21 0, qae F21 1]) (by kernel_rfl) ⟨qaL (by kernel_rfl) qCd, qaL (by kernel_rfl) qCe, trivial⟩) (by kernel_rfl) (fun v => by kernel_rfl) (fun _ => qab _)
def T41 : Tab := (21, FE qxN qyz qiE) :: T40
theorem qpS : qaz IP T41 := ⟨qaG qAR, qm2⟩
abbrev qdd : Type := List UInt8 × Int × List UInt8 × Int
def qrM : List PSt := [⟨[(1006400, .junk), (0, .str), (1, .int .i64), (5, .str), (6, .int .i64)], [], 0, 0⟩]
def qvm (x0 : List UInt8) (x1 : Int) (x2 : List UInt8) (x3 : Int) : X × St := (X.ret, ⟨[(4, AV.int IntKind.i64 1)], [], 0, 0⟩)
def qvn (x0 : List UInt8) (x1 : Int) (x2 : List UInt8) (x3 : Int) : X × St := (X.exit 0, ⟨[(4, AV.junk)], [], 0, 0⟩)
def qCN : List (qdd → X × St) := [(k4 qvm), (k4 qvn)]
def qhV (x0 : List UInt8) (x1 : Int) (x2 : List UInt8) (x3 : Int) : DT (Rd qdd) :=
 .br (decide (x3 < (x2.length : Int)))
 (.br (inB x2.length x3)
 (.br (inB x0.length x1)
 (.br (qad x2 x3 == qad x0 x1) (.at (.done 0)) (.at (.next ((x0, x1, x2, IntKind.i64.wrap (x3 + 1))))))
 (.no))
 (.no))
 (.at (.done 1))
def qfX : qdd → DT (Rd qdd) := (fun v => qhV v.1 v.2.1 v.2.2.1 v.2.2.2)
def qlD (v : qdd) : Option (Nat × qdd) := qaZ (qav (fun v => (qfX v).ev) v)
theorem qlE (v : qdd) : qlD v = qav (fun v => (qfX v).ev) v := qab _
def qsk : qeo := LE (τ := qdd) (hD qrM) (qlD) qCN
theorem qCi : Go.Eng.Told IP (qae F64 0).1 (qae F64 0).2 (qsk) := qaK (inferInstance : Inhabited qdd) (hs := qrM) (st := qfX) (L := []) qpS (qaf (l := []) (by kernel_rfl) trivial) (qlE) (fun v => by kernel_rfl) (fun v => by kernel_rfl)
abbrev qv8 : Type := Int
def qxS : PArgs := ⟨[.str, .int .i64], []⟩
def qyE : List PRes := [⟨false, .int .i64, []⟩]
def qkK (x0 : List UInt8) (x1 : Int) : DT qv8 :=
 .bi (br (decide (IntKind.i64.wrap (x1 + 1) < (x0.length : Int))) (br (inB x0.length (IntKind.i64.wrap (x1 + 1))) (some (qad x0 (IntKind.i64.wrap (x1 + 1)) == 61)) none) (some false)) (fun y0 =>
 .bi (br y0
 (br (inB x0.length x1)
 (br (qad x0 x1 == 61) (some true) (br (inB x0.length x1) (br (qad x0 x1 == 33) (some true) (br (inB x0.length x1) (some (qad x0 x1 == 60)) none)) none)) none)
 (some false)) (fun y1 =>
 .br (y1)
 (.at (2))
 (.bi (pj 0 (qlD (x0, x1, ([123, 125, 40, 41, 44, 59, 58, 36, 43, 45, 42, 47, 60] : List UInt8), 0))) (fun y2 =>
 .at (1))
 (.bi (pj 1 (qlD (x0, x1, ([123, 125, 40, 41, 44, 59, 58, 36, 43, 45, 42, 47, 60] : List UInt8), 0))) (fun y2 =>
 .at (0))
 (.no))))
 (.no))
 (.no)
def qli (x0 : List UInt8) (x1 : Int) : Option qv8 := qaZ (qkK x0 x1).ev
theorem qre (x0 : List UInt8) (x1 : Int) : qli x0 x1 = (qkK x0 x1).ev := qab _
theorem qAW : FH IP 64 qxS qyE (k2 qli) := qap (F := F64) (L := [(1006400, qsk)]) (t := (k2 qkK)) qpS (qaf (l := [qae F64 0]) (by kernel_rfl) ⟨qaL (by kernel_rfl) qCi, trivial⟩) (by kernel_rfl) (fun v => by kernel_rfl) (fun _ => qab _)
def T42 : Tab := (64, FE qxS qyE (k2 qli)) :: T41
theorem qwu : qaz IP T42 := ⟨qaG qAW, qpS⟩
abbrev qvX : Type := Int × Int × List UInt8 × Int
def qxH : PArgs := ⟨[.str, .int .i64], []⟩
def qyt : List PRes := [⟨false, .tup [.agg [.int .i64, .int .i64, .str], .int .i64], []⟩]
def qkz (x0 : List UInt8) (x1 : Int) : DT qvX :=
 .br (inB x0.length x1)
 (.bi (qgN (qad x0 x1)) (fun y0 =>
 .br (y0)
 (.bi (qiL x0 x1 false) (fun y1 =>
 .br (leB y1 x0.length && leB x1 y1.toNat)
 (.bi (qiH (List.take (y1.toNat - x1.toNat) (List.drop x1.toNat x0))) (fun y2 =>
 .br (y2)
 (.at ((5, 0, List.take (y1.toNat - x1.toNat) (List.drop x1.toNat x0), 0)))
 (.br (decide (((List.take (y1.toNat - x1.toNat) (List.drop x1.toNat x0)).length : Int) > 16))
 (.at ((1, 0, List.take (y1.toNat - x1.toNat) (List.drop x1.toNat x0), 4)))
 (.at ((1, 0, List.take (y1.toNat - x1.toNat) (List.drop x1.toNat x0), 0)))))
 (.no))
 (.no))
 (.no))
 (.br (inB x0.length x1)
 (.bi (qdI (qad x0 x1)) (fun y1 =>
 .br (y1)
 (.bi (qiL x0 x1 true) (fun y2 =>
 .br (leB y2 x0.length && leB x1 y2.toNat)
 (.bi (qgO (List.take (y2.toNat - x1.toNat) (List.drop x1.toNat x0))) (fun y3 =>
 .br (y3 == ((List.take (y2.toNat - x1.toNat) (List.drop x1.toNat x0)).length : Int))
 (.bi (qlf (List.take (y2.toNat - x1.toNat) (List.drop x1.toNat x0))) (fun y4 =>
 .br (y4) (.at ((2, 0, List.take (y2.toNat - x1.toNat) (List.drop x1.toNat x0), 6))) (.at ((2, 0, List.take (y2.toNat - x1.toNat) (List.drop x1.toNat x0), 0))))
 (.no))
 (.bi (qiJ (List.take (y2.toNat - x1.toNat) (List.drop x1.toNat x0))) (fun y4 =>
 .br (!y4)
 (.at ((3, 0, List.take (y2.toNat - x1.toNat) (List.drop x1.toNat x0), 2)))
 (.bi (qiE (List.take (y2.toNat - x1.toNat) (List.drop x1.toNat x0))) (fun y5 =>
 .br (y5.2 != 0) (.at ((3, 0, List.take (y2.toNat - x1.toNat) (List.drop x1.toNat x0), 6))) (.at ((3, 0, List.take (y2.toNat - x1.toNat) (List.drop x1.toNat x0), 0))))
 (.no)))
 (.no)))
 (.no))
 (.no))
 (.no))
 (.bi (qli x0 x1) (fun y2 =>
 .br (y2 == 0)
 (.at ((0, 0, ([] : List UInt8), 2)))
 (.br (leB (IntKind.i64.wrap (x1 + y2)) x0.length && leB x1 (IntKind.i64.wrap (x1 + y2)).toNat)
 (.at ((4, 0, List.take ((IntKind.i64.wrap (x1 + y2)).toNat - x1.toNat) (List.drop x1.toNat x0), 0)))
 (.no)))
 (.no)))
 (.no))
 (.no)))
 (.no))
 (.no)
def qcs (x0 : List UInt8) (x1 : Int) : Option qvX := qaZ (qkz x0 x1).ev
theorem qq3 (x0 : List UInt8) (x1 : Int) : qcs x0 x1 = (qkz x0 x1).ev := qab _
theorem qAL : FH IP 29 qxH qyt (k2 qcs) := qap (F := F29) (L := []) (t := (k2 qkz)) qwu (qaf (l := []) (by kernel_rfl) trivial) (by kernel_rfl) (fun v => by kernel_rfl) (fun _ => qab _)
def T43 : Tab := (29, FE qxH qyt (k2 qcs)) :: T42
theorem qpT : qaz IP T43 := ⟨qaG qAL, qwu⟩
abbrev qbW : Type := (List UInt8 × Int × Int) ⊕ (List UInt8 × Int × Int × List AV)
def qru : List PSt := [⟨[(1001500, .junk), (0, .str), (5, .nils 3), (6, .int .i64), (7, .int .i64)], [], 0, 0⟩, ⟨[(1001500, .junk), (0, .str), (5, .own 0 0), (6, .int .i64), (7, .int .i64)], [(0, .arr 3 false)], 1, 0⟩]
def quQ (x0 : List UInt8) (x1 x2 : Int) : X × St := (X.ret,
 ⟨[(2, AV.nils ⟨3, NKd.nil⟩), (3, AV.int IntKind.i64 x1), (4, AV.int IntKind.i64 (gv (qcs x0 x2)).2.2.2), (5, AV.nils ⟨3, NKd.nil⟩)], [], 0, 0⟩)
def quR (x0 : List UInt8) (x1 x2 : Int) : X × St := (X.exit 0, ⟨[(2, AV.junk), (3, AV.junk), (4, AV.junk), (5, AV.nils ⟨3, NKd.nil⟩)], [], 0, 0⟩)
def quS (x0 : List UInt8) (x1 x2 : Int) (x3 : List AV) : X × St := (X.ret,
 ⟨[(2, AV.nils ⟨3, NKd.nil⟩), (3, AV.int IntKind.i64 x1), (4, AV.int IntKind.i64 (gv (qcs x0 x2)).2.2.2), (5, AV.own 0 0 none)], [(0, Blk.arr 3 x3 false)], 1, 0⟩)
def quT (x0 : List UInt8) (x1 x2 : Int) (x3 : List AV) : X × St := (X.exit 0, ⟨[(2, AV.junk), (3, AV.junk), (4, AV.junk), (5, AV.own 0 0 none)], [(0, Blk.arr 3 x3 false)], 1, 0⟩)
def qCv : List (qbW → X × St) := [fun w => (k3 quQ) ((sl w)), fun w => (k3 quR) ((sl w)), fun w => (k4 quS) ((sr w)), fun w => (k4 quT) ((sr w))]
def qbT (x0 : List UInt8) (x1 x2 : Int) : DT (Rd qbW) :=
 .br (decide (x2 < (x0.length : Int)))
 (.br (inB x0.length x2)
 (.br (qad x0 x2 == 10)
 (.at (.next ((.inl (x0, IntKind.i64.wrap (x1 + 1), IntKind.i64.wrap (x2 + 1))))))
 (.br (qad x0 x2 == 32)
 (.br (qad x0 x2 == 32)
 (.at (.next ((.inl (x0, x1, IntKind.i64.wrap (x2 + 1))))))
 (.br (qad x0 x2 == 35)
 (.bi (pj 0 (qdy (Sum.inl (x0, x1, x2)))) (fun y0 =>
 .at (.next ((.inl ((sl y0).1, (sl y0).2.1, (sl y0).2.2)))))
 (.bi (pj 1 (qdy (Sum.inl (x0, x1, x2)))) (fun y0 =>
 .at (.next ((.inr ((sr y0).1, (sr y0).2.1, (sr y0).2.2.1, (sr y0).2.2.2)))))
 (.no)))
 (.bi (qcs x0 x2) (fun y0 =>
 .br (y0.2.2.2 != 0)
 (.at (.done 0))
 (.at (.next ((.inr (x0, x1, IntKind.i64.wrap (x2 + (y0.2.2.1.length : Int)), [AV.agg [AV.int IntKind.i64 y0.1, AV.int IntKind.i64 x1, AV.str y0.2.2.1]]))))))
 (.no))))
 (.br (qad x0 x2 == 9)
 (.at (.next ((.inl (x0, x1, IntKind.i64.wrap (x2 + 1))))))
 (.br (qad x0 x2 == 35)
 (.bi (pj 0 (qdy (Sum.inl (x0, x1, x2)))) (fun y0 =>
 .at (.next ((.inl ((sl y0).1, (sl y0).2.1, (sl y0).2.2)))))
 (.bi (pj 1 (qdy (Sum.inl (x0, x1, x2)))) (fun y0 =>
 .at (.next ((.inr ((sr y0).1, (sr y0).2.1, (sr y0).2.2.1, (sr y0).2.2.2)))))
 (.no)))
 (.bi (qcs x0 x2) (fun y0 =>
 .br (y0.2.2.2 != 0)
 (.at (.done 0))
 (.at (.next ((.inr (x0, x1, IntKind.i64.wrap (x2 + (y0.2.2.1.length : Int)), [AV.agg [AV.int IntKind.i64 y0.1, AV.int IntKind.i64 x1, AV.str y0.2.2.1]]))))))
 (.no))))))
 (.no))
 (.at (.done 1))
def qbU (x0 : List UInt8) (x1 x2 : Int) (x3 : List AV) : DT (Rd qbW) :=
 .br (decide (x2 < (x0.length : Int)))
 (.br (inB x0.length x2)
 (.br (qad x0 x2 == 10)
 (.at (.next ((.inr (x0, IntKind.i64.wrap (x1 + 1), IntKind.i64.wrap (x2 + 1), x3)))))
 (.br (qad x0 x2 == 32)
 (.br (qad x0 x2 == 32)
 (.at (.next ((.inr (x0, x1, IntKind.i64.wrap (x2 + 1), x3)))))
 (.br (qad x0 x2 == 35)
 (.bi (pj 0 (qdy (Sum.inr (x0, x1, x2, x3)))) (fun y0 =>
 .at (.next ((.inl ((sl y0).1, (sl y0).2.1, (sl y0).2.2)))))
 (.bi (pj 1 (qdy (Sum.inr (x0, x1, x2, x3)))) (fun y0 =>
 .at (.next ((.inr ((sr y0).1, (sr y0).2.1, (sr y0).2.2.1, (sr y0).2.2.2)))))
 (.no)))
 (.bi (qcs x0 x2) (fun y0 =>
 .br (y0.2.2.2 != 0)
 (.at (.done 2))
 (.br (room (x3.length + 1) 32)
 (.at (.next ((.inr (x0, x1, IntKind.i64.wrap (x2 + (y0.2.2.1.length : Int)), x3 ++ [AV.agg [AV.int IntKind.i64 y0.1, AV.int IntKind.i64 x1, AV.str y0.2.2.1]])))))
 (.no)))
 (.no))))
 (.br (qad x0 x2 == 9)
 (.at (.next ((.inr (x0, x1, IntKind.i64.wrap (x2 + 1), x3)))))
 (.br (qad x0 x2 == 35)
 (.bi (pj 0 (qdy (Sum.inr (x0, x1, x2, x3)))) (fun y0 =>
 .at (.next ((.inl ((sl y0).1, (sl y0).2.1, (sl y0).2.2)))))
 (.bi (pj 1 (qdy (Sum.inr (x0, x1, x2, x3)))) (fun y0 =>
 .at (.next ((.inr ((sr y0).1, (sr y0).2.1, (sr y0).2.2.1, (sr y0).2.2.2)))))
 (.no)))
 (.bi (qcs x0 x2) (fun y0 =>
 .br (y0.2.2.2 != 0)
 (.at (.done 2))
 (.br (room (x3.length + 1) 32)
 (.at (.next ((.inr (x0, x1, IntKind.i64.wrap (x2 + (y0.2.2.1.length : Int)), x3 ++ [AV.agg [AV.int IntKind.i64 y0.1, AV.int IntKind.i64 x1, AV.str y0.2.2.1]])))))
 (.no)))
 (.no))))))
 (.no))
 (.at (.done 3))
def qa8 : qbW → DT (Rd qbW) := (Sum.elim (fun v => qbT v.1 v.2.1 v.2.2) (fun v => qbU v.1 v.2.1 v.2.2.1 v.2.2.2))
def qf7 (v : qbW) : Option (Nat × qbW) := qaZ (qav (fun v => (qa8 v).ev) v)
theorem qg3 (v : qbW) : qf7 v = qav (fun v => (qa8 v).ev) v := qab _
def qr2 : qeo := LE (τ := qbW) (hD qru) (qf7) qCv
theorem qB0 : Go.Eng.Told IP (qae F15 0).1 (qae F15 0).2 (qr2) := qaK (inferInstance : Inhabited qbW) (hs := qru) (st := qa8) (L := [(1001501, qr3)]) qpT (qaf (l := [qae F15 1]) (by kernel_rfl) ⟨qaL (by kernel_rfl) qB1, trivial⟩) (qg3) (fun v => match v with | (.inl v) => by kernel_rfl | (.inr v) => by kernel_rfl) (fun v => match v with | (.inl v) => by kernel_rfl | (.inr v) => by kernel_rfl)
abbrev qpB : Type := List AV × Int × Int
def qxo : PArgs := ⟨[.str], []⟩
def qya : List PRes := [⟨false, .tup [.view 3, .int .i64, .int .i64], []⟩]
def qkh (x0 : List UInt8) : DT qpB :=
 .br (decide ((x0.length : Int) > 2048))
 (.at (([], 0, 5)))
 (.bi (pj 0 (qf7 (Sum.inl (x0, 1, 0)))) (fun y0 =>
 .at (([], (sl y0).2.1, (gv (qcs (sl y0).1 (sl y0).2.2)).2.2.2)))
 (.bi (pj 1 (qf7 (Sum.inl (x0, 1, 0)))) (fun y0 =>
 .at (([], 0, 0)))
 (.bi (pj 2 (qf7 (Sum.inl (x0, 1, 0)))) (fun y0 =>
 .at (([], (sr y0).2.1, (gv (qcs (sr y0).1 (sr y0).2.2.1)).2.2.2)))
 (.bi (pj 3 (qf7 (Sum.inl (x0, 1, 0)))) (fun y0 =>
 .at (((sr y0).2.2.2, 0, 0)))
 (.no)))))
def qit (x0 : List UInt8) : Option qpB := qaZ (qkh x0).ev
theorem qqH (x0 : List UInt8) : qit x0 = (qkh x0).ev := qab _
theorem qAt : FH IP 15 qxo qya qit := qap (F := F15) (L := [(1001500, qr2)]) (t := qkh) qpT (qaf (l := [qae F15 0, qae F15 1]) (by kernel_rfl) ⟨qaL (by kernel_rfl) qB0, qs1 (by kernel_rfl), trivial⟩) (by kernel_rfl) (fun v => by kernel_rfl) (fun _ => qab _)
def T44 : Tab := (15, FE qxo qya qit) :: T43
theorem qwv : qaz IP T44 := ⟨qaG qAt, qpT⟩
abbrev qvw : Type := Bool
def qxe : PArgs := ⟨[.str], []⟩
def qx0 : List PRes := [⟨false, .bool, []⟩]
def qj7 (x0 : List UInt8) : DT qvw :=
 .br (decide ((x0.length : Int) > 2100))
 (.bi (qaN) (fun y0 =>
 .at (y0))
 (.no))
 (.bi (qb3 x0) (fun y0 =>
 .bi (qit x0) (fun y1 =>
 .bi (qct y0.1 y1.1) (fun y2 =>
 .bi (br y2 (some (y0.2.1 == y1.2.1)) (some false)) (fun y3 =>
 .bi (br y3 (some (y0.2.2 == y1.2.2)) (some false)) (fun y4 =>
 .bi (br y4 (br (sm qaN) (some (gv qaN)) none) (some false)) (fun y5 =>
 .at (y5))
 (.no))
 (.no))
 (.no))
 (.no))
 (.no))
 (.no))
def qnf (x0 : List UInt8) : Option qvw := qaZ (qj7 x0).ev
theorem qqx (x0 : List UInt8) : qnf x0 = (qj7 x0).ev := qab _
theorem qwK : FH IP 4 qxe qx0 qnf := qap (F := F4) (L := []) (t := qj7) qwv (qaf (l := []) (by kernel_rfl) trivial) (by kernel_rfl) (fun v => by kernel_rfl) (fun _ => qab _)
def T45 : Tab := (4, FE qxe qx0 qnf) :: T44
theorem qpU : qaz IP T45 := ⟨qaG qwK, qwv⟩
end
end Go.Proofs.H09

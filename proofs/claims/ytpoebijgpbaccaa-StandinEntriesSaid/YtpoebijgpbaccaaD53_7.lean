/- Functions over plain data. Printed by a program of mine. -/
import Derived.Test.YtpoebijgpbaccaaD53_6
import Derived.KernelRfl
set_option linter.unusedVariables false
set_option linter.unusedSimpArgs false
set_option linter.unnecessarySimpa false
namespace Go.Proofs.H53
open Go Go.Eng
set_option maxRecDepth 100000

-- l17_0: loop 0 of function 17
abbrev TT17_0 : Type := (Int × Int × List AV × List AV × List AV × Int × Int × Int × Int × Int × Int × Int × Int × Int × Int × Int × Int × Int × Int × List AV × List AV × List AV × List AV × List AV × Int × List AV × List AV) ⊕ (Int × Int × List AV × List AV × List AV × Int × Int × Int × Int × Int × Int × Int × Int × Int × Int × Int × Int × Int × Int × List AV × List AV × List AV × List AV × List AV × Int × List AV × List AV × List AV)
def h17_0_0 (v : Int × Int × List AV × List AV × List AV × Int × Int × Int × Int × Int × Int × Int × Int × Int × Int × Int × Int × Int × Int × List AV × List AV × List AV × List AV × List AV × Int × List AV × List AV) : St := ⟨[(1001700, .junk), (2, .int .i64 v.1), (3, .ref 0 0 0), (4, .ref 1 0 0), (8, .nils 10), (9, .int .i64 v.2.1)], [(0, .box [.view 2 v.2.2.1, .view 3 v.2.2.2.1, .view 4 v.2.2.2.2.1, .int .i64 v.2.2.2.2.2.1, .int .i64 v.2.2.2.2.2.2.1, .int .i64 v.2.2.2.2.2.2.2.1, .int .i64 v.2.2.2.2.2.2.2.2.1, .int .i64 v.2.2.2.2.2.2.2.2.2.1, .int .i64 v.2.2.2.2.2.2.2.2.2.2.1, .int .i64 v.2.2.2.2.2.2.2.2.2.2.2.1, .int .i64 v.2.2.2.2.2.2.2.2.2.2.2.2.1, .int .i64 v.2.2.2.2.2.2.2.2.2.2.2.2.2.1, .int .i64 v.2.2.2.2.2.2.2.2.2.2.2.2.2.2.1, .int .i64 v.2.2.2.2.2.2.2.2.2.2.2.2.2.2.2.1, .int .i64 v.2.2.2.2.2.2.2.2.2.2.2.2.2.2.2.2.1, .int .i64 v.2.2.2.2.2.2.2.2.2.2.2.2.2.2.2.2.2.1, .int .i64 v.2.2.2.2.2.2.2.2.2.2.2.2.2.2.2.2.2.2.1, .view 19 v.2.2.2.2.2.2.2.2.2.2.2.2.2.2.2.2.2.2.2.1, .view 7 v.2.2.2.2.2.2.2.2.2.2.2.2.2.2.2.2.2.2.2.2.1, .view 10 v.2.2.2.2.2.2.2.2.2.2.2.2.2.2.2.2.2.2.2.2.2.1, .view 6 v.2.2.2.2.2.2.2.2.2.2.2.2.2.2.2.2.2.2.2.2.2.2.1, .view 7 v.2.2.2.2.2.2.2.2.2.2.2.2.2.2.2.2.2.2.2.2.2.2.2.1] false), (1, .box [.int .i64 v.2.2.2.2.2.2.2.2.2.2.2.2.2.2.2.2.2.2.2.2.2.2.2.2.1, .view 3 v.2.2.2.2.2.2.2.2.2.2.2.2.2.2.2.2.2.2.2.2.2.2.2.2.2.1, .view 3 v.2.2.2.2.2.2.2.2.2.2.2.2.2.2.2.2.2.2.2.2.2.2.2.2.2.2] false)], 2, 0⟩
def h17_0_1 (v : Int × Int × List AV × List AV × List AV × Int × Int × Int × Int × Int × Int × Int × Int × Int × Int × Int × Int × Int × Int × List AV × List AV × List AV × List AV × List AV × Int × List AV × List AV × List AV) : St := ⟨[(1001700, .junk), (2, .int .i64 v.1), (3, .ref 0 0 0), (4, .ref 1 0 0), (8, .own 2 0 none), (9, .int .i64 v.2.1)], [(0, .box [.view 2 v.2.2.1, .view 3 v.2.2.2.1, .view 4 v.2.2.2.2.1, .int .i64 v.2.2.2.2.2.1, .int .i64 v.2.2.2.2.2.2.1, .int .i64 v.2.2.2.2.2.2.2.1, .int .i64 v.2.2.2.2.2.2.2.2.1, .int .i64 v.2.2.2.2.2.2.2.2.2.1, .int .i64 v.2.2.2.2.2.2.2.2.2.2.1, .int .i64 v.2.2.2.2.2.2.2.2.2.2.2.1, .int .i64 v.2.2.2.2.2.2.2.2.2.2.2.2.1, .int .i64 v.2.2.2.2.2.2.2.2.2.2.2.2.2.1, .int .i64 v.2.2.2.2.2.2.2.2.2.2.2.2.2.2.1, .int .i64 v.2.2.2.2.2.2.2.2.2.2.2.2.2.2.2.1, .int .i64 v.2.2.2.2.2.2.2.2.2.2.2.2.2.2.2.2.1, .int .i64 v.2.2.2.2.2.2.2.2.2.2.2.2.2.2.2.2.2.1, .int .i64 v.2.2.2.2.2.2.2.2.2.2.2.2.2.2.2.2.2.2.1, .view 19 v.2.2.2.2.2.2.2.2.2.2.2.2.2.2.2.2.2.2.2.1, .view 7 v.2.2.2.2.2.2.2.2.2.2.2.2.2.2.2.2.2.2.2.2.1, .view 10 v.2.2.2.2.2.2.2.2.2.2.2.2.2.2.2.2.2.2.2.2.2.1, .view 6 v.2.2.2.2.2.2.2.2.2.2.2.2.2.2.2.2.2.2.2.2.2.2.1, .view 7 v.2.2.2.2.2.2.2.2.2.2.2.2.2.2.2.2.2.2.2.2.2.2.2.1] false), (1, .box [.int .i64 v.2.2.2.2.2.2.2.2.2.2.2.2.2.2.2.2.2.2.2.2.2.2.2.2.1, .view 3 v.2.2.2.2.2.2.2.2.2.2.2.2.2.2.2.2.2.2.2.2.2.2.2.2.2.1, .view 3 v.2.2.2.2.2.2.2.2.2.2.2.2.2.2.2.2.2.2.2.2.2.2.2.2.2.2.1] false), (2, .arr 10 v.2.2.2.2.2.2.2.2.2.2.2.2.2.2.2.2.2.2.2.2.2.2.2.2.2.2.2 false)], 3, 0⟩
def h17_0 : TT17_0 → St := (Sum.elim (fun v => h17_0_0 v) (fun v => h17_0_1 v))
def d17_0 : St → Option TT17_0 := sDec ⟨[(1001700, .junk), (2, .int .i64), (3, .ref 0 0 0), (4, .ref 1 0 0), (8, .nils 10), (9, .int .i64)], [(0, .box [.view 2, .view 3, .view 4, .int .i64, .int .i64, .int .i64, .int .i64, .int .i64, .int .i64, .int .i64, .int .i64, .int .i64, .int .i64, .int .i64, .int .i64, .int .i64, .int .i64, .view 19, .view 7, .view 10, .view 6, .view 7] false), (1, .box [.int .i64, .view 3, .view 3] false)], 2, 0⟩ (fun ls => eatI ls fun x0 ls => eatI ls fun x1 ls => eatL ls fun x2 ls => eatL ls fun x3 ls => eatL ls fun x4 ls => eatI ls fun x5 ls => eatI ls fun x6 ls => eatI ls fun x7 ls => eatI ls fun x8 ls => eatI ls fun x9 ls => eatI ls fun x10 ls => eatI ls fun x11 ls => eatI ls fun x12 ls => eatI ls fun x13 ls => eatI ls fun x14 ls => eatI ls fun x15 ls => eatI ls fun x16 ls => eatI ls fun x17 ls => eatI ls fun x18 ls => eatL ls fun x19 ls => eatL ls fun x20 ls => eatL ls fun x21 ls => eatL ls fun x22 ls => eatL ls fun x23 ls => eatI ls fun x24 ls => eatL ls fun x25 ls => eatL ls fun x26 ls => eat0 ls (.inl (x0, x1, x2, x3, x4, x5, x6, x7, x8, x9, x10, x11, x12, x13, x14, x15, x16, x17, x18, x19, x20, x21, x22, x23, x24, x25, x26))) (sDec ⟨[(1001700, .junk), (2, .int .i64), (3, .ref 0 0 0), (4, .ref 1 0 0), (8, .own 2 0), (9, .int .i64)], [(0, .box [.view 2, .view 3, .view 4, .int .i64, .int .i64, .int .i64, .int .i64, .int .i64, .int .i64, .int .i64, .int .i64, .int .i64, .int .i64, .int .i64, .int .i64, .int .i64, .int .i64, .view 19, .view 7, .view 10, .view 6, .view 7] false), (1, .box [.int .i64, .view 3, .view 3] false), (2, .arr 10 false)], 3, 0⟩ (fun ls => eatI ls fun x0 ls => eatI ls fun x1 ls => eatL ls fun x2 ls => eatL ls fun x3 ls => eatL ls fun x4 ls => eatI ls fun x5 ls => eatI ls fun x6 ls => eatI ls fun x7 ls => eatI ls fun x8 ls => eatI ls fun x9 ls => eatI ls fun x10 ls => eatI ls fun x11 ls => eatI ls fun x12 ls => eatI ls fun x13 ls => eatI ls fun x14 ls => eatI ls fun x15 ls => eatI ls fun x16 ls => eatI ls fun x17 ls => eatI ls fun x18 ls => eatL ls fun x19 ls => eatL ls fun x20 ls => eatL ls fun x21 ls => eatL ls fun x22 ls => eatL ls fun x23 ls => eatI ls fun x24 ls => eatL ls fun x25 ls => eatL ls fun x26 ls => eatL ls fun x27 ls => eat0 ls (.inr (x0, x1, x2, x3, x4, x5, x6, x7, x8, x9, x10, x11, x12, x13, x14, x15, x16, x17, x18, x19, x20, x21, x22, x23, x24, x25, x26, x27))) (sNo))
theorem d17_0_ok : ∀ s v, d17_0 s = some v → s = h17_0 v := sDec_ok (by
  intro ls v h0
  obtain ⟨x0, ls0, rfl, h1⟩ := eatI_some h0
  obtain ⟨x1, ls1, rfl, h2⟩ := eatI_some h1
  obtain ⟨x2, ls2, rfl, h3⟩ := eatL_some h2
  obtain ⟨x3, ls3, rfl, h4⟩ := eatL_some h3
  obtain ⟨x4, ls4, rfl, h5⟩ := eatL_some h4
  obtain ⟨x5, ls5, rfl, h6⟩ := eatI_some h5
  obtain ⟨x6, ls6, rfl, h7⟩ := eatI_some h6
  obtain ⟨x7, ls7, rfl, h8⟩ := eatI_some h7
  obtain ⟨x8, ls8, rfl, h9⟩ := eatI_some h8
  obtain ⟨x9, ls9, rfl, h10⟩ := eatI_some h9
  obtain ⟨x10, ls10, rfl, h11⟩ := eatI_some h10
  obtain ⟨x11, ls11, rfl, h12⟩ := eatI_some h11
  obtain ⟨x12, ls12, rfl, h13⟩ := eatI_some h12
  obtain ⟨x13, ls13, rfl, h14⟩ := eatI_some h13
  obtain ⟨x14, ls14, rfl, h15⟩ := eatI_some h14
  obtain ⟨x15, ls15, rfl, h16⟩ := eatI_some h15
  obtain ⟨x16, ls16, rfl, h17⟩ := eatI_some h16
  obtain ⟨x17, ls17, rfl, h18⟩ := eatI_some h17
  obtain ⟨x18, ls18, rfl, h19⟩ := eatI_some h18
  obtain ⟨x19, ls19, rfl, h20⟩ := eatL_some h19
  obtain ⟨x20, ls20, rfl, h21⟩ := eatL_some h20
  obtain ⟨x21, ls21, rfl, h22⟩ := eatL_some h21
  obtain ⟨x22, ls22, rfl, h23⟩ := eatL_some h22
  obtain ⟨x23, ls23, rfl, h24⟩ := eatL_some h23
  obtain ⟨x24, ls24, rfl, h25⟩ := eatI_some h24
  obtain ⟨x25, ls25, rfl, h26⟩ := eatL_some h25
  obtain ⟨x26, ls26, rfl, h27⟩ := eatL_some h26
  obtain ⟨rfl, rfl⟩ := eat0_some h27
  rfl
) (sDec_ok (by
  intro ls v h0
  obtain ⟨x0, ls0, rfl, h1⟩ := eatI_some h0
  obtain ⟨x1, ls1, rfl, h2⟩ := eatI_some h1
  obtain ⟨x2, ls2, rfl, h3⟩ := eatL_some h2
  obtain ⟨x3, ls3, rfl, h4⟩ := eatL_some h3
  obtain ⟨x4, ls4, rfl, h5⟩ := eatL_some h4
  obtain ⟨x5, ls5, rfl, h6⟩ := eatI_some h5
  obtain ⟨x6, ls6, rfl, h7⟩ := eatI_some h6
  obtain ⟨x7, ls7, rfl, h8⟩ := eatI_some h7
  obtain ⟨x8, ls8, rfl, h9⟩ := eatI_some h8
  obtain ⟨x9, ls9, rfl, h10⟩ := eatI_some h9
  obtain ⟨x10, ls10, rfl, h11⟩ := eatI_some h10
  obtain ⟨x11, ls11, rfl, h12⟩ := eatI_some h11
  obtain ⟨x12, ls12, rfl, h13⟩ := eatI_some h12
  obtain ⟨x13, ls13, rfl, h14⟩ := eatI_some h13
  obtain ⟨x14, ls14, rfl, h15⟩ := eatI_some h14
  obtain ⟨x15, ls15, rfl, h16⟩ := eatI_some h15
  obtain ⟨x16, ls16, rfl, h17⟩ := eatI_some h16
  obtain ⟨x17, ls17, rfl, h18⟩ := eatI_some h17
  obtain ⟨x18, ls18, rfl, h19⟩ := eatI_some h18
  obtain ⟨x19, ls19, rfl, h20⟩ := eatL_some h19
  obtain ⟨x20, ls20, rfl, h21⟩ := eatL_some h20
  obtain ⟨x21, ls21, rfl, h22⟩ := eatL_some h21
  obtain ⟨x22, ls22, rfl, h23⟩ := eatL_some h22
  obtain ⟨x23, ls23, rfl, h24⟩ := eatL_some h23
  obtain ⟨x24, ls24, rfl, h25⟩ := eatI_some h24
  obtain ⟨x25, ls25, rfl, h26⟩ := eatL_some h25
  obtain ⟨x26, ls26, rfl, h27⟩ := eatL_some h26
  obtain ⟨x27, ls27, rfl, h28⟩ := eatL_some h27
  obtain ⟨rfl, rfl⟩ := eat0_some h28
  rfl
) (sNo_ok))
theorem n17_0_0 (v : Int × Int × List AV × List AV × List AV × Int × Int × Int × Int × Int × Int × Int × Int × Int × Int × Int × Int × Int × Int × List AV × List AV × List AV × List AV × List AV × Int × List AV × List AV) : norm (hk (loopAt F17 0).1) (h17_0_0 v) = some (h17_0_0 v) := by kernel_rfl
theorem n17_0_1 (v : Int × Int × List AV × List AV × List AV × Int × Int × Int × Int × Int × Int × Int × Int × Int × Int × Int × Int × Int × Int × List AV × List AV × List AV × List AV × List AV × Int × List AV × List AV × List AV) : norm (hk (loopAt F17 0).1) (h17_0_1 v) = some (h17_0_1 v) := by kernel_rfl
noncomputable def x17_0_0 (x0 : Int) (x1 : Int) (x2 : List AV) (x3 : List AV) (x4 : List AV) (x5 : Int) (x6 : Int) (x7 : Int) (x8 : Int) (x9 : Int) (x10 : Int) (x11 : Int) (x12 : Int) (x13 : Int) (x14 : Int) (x15 : Int) (x16 : Int) (x17 : Int) (x18 : Int) (x19 : List AV) (x20 : List AV) (x21 : List AV) (x22 : List AV) (x23 : List AV) (x24 : Int) (x25 : List AV) (x26 : List AV) : X × St := (X.ret, { tm := [(6, AV.nils { sz := 10, kd := NKd.nil }), (7, AV.int IntKind.i64 11), (8, AV.nils { sz := 10, kd := NKd.nil })], hp := [], nx := 0, k := 0 })
noncomputable def x17_0_1 (x0 : Int) (x1 : Int) (x2 : List AV) (x3 : List AV) (x4 : List AV) (x5 : Int) (x6 : Int) (x7 : Int) (x8 : Int) (x9 : Int) (x10 : Int) (x11 : Int) (x12 : Int) (x13 : Int) (x14 : Int) (x15 : Int) (x16 : Int) (x17 : Int) (x18 : Int) (x19 : List AV) (x20 : List AV) (x21 : List AV) (x22 : List AV) (x23 : List AV) (x24 : Int) (x25 : List AV) (x26 : List AV) : X × St := (X.exit 0, { tm := [(6, AV.junk), (7, AV.junk), (8, AV.nils { sz := 10, kd := NKd.nil })], hp := [], nx := 0, k := 0 })
noncomputable def x17_0_2 (x0 : Int) (x1 : Int) (x2 : List AV) (x3 : List AV) (x4 : List AV) (x5 : Int) (x6 : Int) (x7 : Int) (x8 : Int) (x9 : Int) (x10 : Int) (x11 : Int) (x12 : Int) (x13 : Int) (x14 : Int) (x15 : Int) (x16 : Int) (x17 : Int) (x18 : Int) (x19 : List AV) (x20 : List AV) (x21 : List AV) (x22 : List AV) (x23 : List AV) (x24 : Int) (x25 : List AV) (x26 : List AV) (x27 : List AV) : X × St := (X.ret, { tm := [(6, AV.nils { sz := 10, kd := NKd.nil }), (7, AV.int IntKind.i64 11), (8, AV.own 0 0 none)], hp := [(0, Blk.arr 10 x27 false)], nx := 1, k := 0 })
noncomputable def x17_0_3 (x0 : Int) (x1 : Int) (x2 : List AV) (x3 : List AV) (x4 : List AV) (x5 : Int) (x6 : Int) (x7 : Int) (x8 : Int) (x9 : Int) (x10 : Int) (x11 : Int) (x12 : Int) (x13 : Int) (x14 : Int) (x15 : Int) (x16 : Int) (x17 : Int) (x18 : Int) (x19 : List AV) (x20 : List AV) (x21 : List AV) (x22 : List AV) (x23 : List AV) (x24 : Int) (x25 : List AV) (x26 : List AV) (x27 : List AV) : X × St := (X.exit 0, { tm := [(6, AV.junk), (7, AV.junk), (8, AV.own 0 0 none)], hp := [(0, Blk.arr 10 x27 false)], nx := 1, k := 0 })
noncomputable def x17_0 : Nat → TT17_0 → X × St := fun j w => match j with
  | 0 => x17_0_0 (sl w).1 (sl w).2.1 (sl w).2.2.1 (sl w).2.2.2.1 (sl w).2.2.2.2.1 (sl w).2.2.2.2.2.1 (sl w).2.2.2.2.2.2.1 (sl w).2.2.2.2.2.2.2.1 (sl w).2.2.2.2.2.2.2.2.1 (sl w).2.2.2.2.2.2.2.2.2.1 (sl w).2.2.2.2.2.2.2.2.2.2.1 (sl w).2.2.2.2.2.2.2.2.2.2.2.1 (sl w).2.2.2.2.2.2.2.2.2.2.2.2.1 (sl w).2.2.2.2.2.2.2.2.2.2.2.2.2.1 (sl w).2.2.2.2.2.2.2.2.2.2.2.2.2.2.1 (sl w).2.2.2.2.2.2.2.2.2.2.2.2.2.2.2.1 (sl w).2.2.2.2.2.2.2.2.2.2.2.2.2.2.2.2.1 (sl w).2.2.2.2.2.2.2.2.2.2.2.2.2.2.2.2.2.1 (sl w).2.2.2.2.2.2.2.2.2.2.2.2.2.2.2.2.2.2.1 (sl w).2.2.2.2.2.2.2.2.2.2.2.2.2.2.2.2.2.2.2.1 (sl w).2.2.2.2.2.2.2.2.2.2.2.2.2.2.2.2.2.2.2.2.1 (sl w).2.2.2.2.2.2.2.2.2.2.2.2.2.2.2.2.2.2.2.2.2.1 (sl w).2.2.2.2.2.2.2.2.2.2.2.2.2.2.2.2.2.2.2.2.2.2.1 (sl w).2.2.2.2.2.2.2.2.2.2.2.2.2.2.2.2.2.2.2.2.2.2.2.1 (sl w).2.2.2.2.2.2.2.2.2.2.2.2.2.2.2.2.2.2.2.2.2.2.2.2.1 (sl w).2.2.2.2.2.2.2.2.2.2.2.2.2.2.2.2.2.2.2.2.2.2.2.2.2.1 (sl w).2.2.2.2.2.2.2.2.2.2.2.2.2.2.2.2.2.2.2.2.2.2.2.2.2.2
  | 1 => x17_0_1 (sl w).1 (sl w).2.1 (sl w).2.2.1 (sl w).2.2.2.1 (sl w).2.2.2.2.1 (sl w).2.2.2.2.2.1 (sl w).2.2.2.2.2.2.1 (sl w).2.2.2.2.2.2.2.1 (sl w).2.2.2.2.2.2.2.2.1 (sl w).2.2.2.2.2.2.2.2.2.1 (sl w).2.2.2.2.2.2.2.2.2.2.1 (sl w).2.2.2.2.2.2.2.2.2.2.2.1 (sl w).2.2.2.2.2.2.2.2.2.2.2.2.1 (sl w).2.2.2.2.2.2.2.2.2.2.2.2.2.1 (sl w).2.2.2.2.2.2.2.2.2.2.2.2.2.2.1 (sl w).2.2.2.2.2.2.2.2.2.2.2.2.2.2.2.1 (sl w).2.2.2.2.2.2.2.2.2.2.2.2.2.2.2.2.1 (sl w).2.2.2.2.2.2.2.2.2.2.2.2.2.2.2.2.2.1 (sl w).2.2.2.2.2.2.2.2.2.2.2.2.2.2.2.2.2.2.1 (sl w).2.2.2.2.2.2.2.2.2.2.2.2.2.2.2.2.2.2.2.1 (sl w).2.2.2.2.2.2.2.2.2.2.2.2.2.2.2.2.2.2.2.2.1 (sl w).2.2.2.2.2.2.2.2.2.2.2.2.2.2.2.2.2.2.2.2.2.1 (sl w).2.2.2.2.2.2.2.2.2.2.2.2.2.2.2.2.2.2.2.2.2.2.1 (sl w).2.2.2.2.2.2.2.2.2.2.2.2.2.2.2.2.2.2.2.2.2.2.2.1 (sl w).2.2.2.2.2.2.2.2.2.2.2.2.2.2.2.2.2.2.2.2.2.2.2.2.1 (sl w).2.2.2.2.2.2.2.2.2.2.2.2.2.2.2.2.2.2.2.2.2.2.2.2.2.1 (sl w).2.2.2.2.2.2.2.2.2.2.2.2.2.2.2.2.2.2.2.2.2.2.2.2.2.2
  | 2 => x17_0_2 (sr w).1 (sr w).2.1 (sr w).2.2.1 (sr w).2.2.2.1 (sr w).2.2.2.2.1 (sr w).2.2.2.2.2.1 (sr w).2.2.2.2.2.2.1 (sr w).2.2.2.2.2.2.2.1 (sr w).2.2.2.2.2.2.2.2.1 (sr w).2.2.2.2.2.2.2.2.2.1 (sr w).2.2.2.2.2.2.2.2.2.2.1 (sr w).2.2.2.2.2.2.2.2.2.2.2.1 (sr w).2.2.2.2.2.2.2.2.2.2.2.2.1 (sr w).2.2.2.2.2.2.2.2.2.2.2.2.2.1 (sr w).2.2.2.2.2.2.2.2.2.2.2.2.2.2.1 (sr w).2.2.2.2.2.2.2.2.2.2.2.2.2.2.2.1 (sr w).2.2.2.2.2.2.2.2.2.2.2.2.2.2.2.2.1 (sr w).2.2.2.2.2.2.2.2.2.2.2.2.2.2.2.2.2.1 (sr w).2.2.2.2.2.2.2.2.2.2.2.2.2.2.2.2.2.2.1 (sr w).2.2.2.2.2.2.2.2.2.2.2.2.2.2.2.2.2.2.2.1 (sr w).2.2.2.2.2.2.2.2.2.2.2.2.2.2.2.2.2.2.2.2.1 (sr w).2.2.2.2.2.2.2.2.2.2.2.2.2.2.2.2.2.2.2.2.2.1 (sr w).2.2.2.2.2.2.2.2.2.2.2.2.2.2.2.2.2.2.2.2.2.2.1 (sr w).2.2.2.2.2.2.2.2.2.2.2.2.2.2.2.2.2.2.2.2.2.2.2.1 (sr w).2.2.2.2.2.2.2.2.2.2.2.2.2.2.2.2.2.2.2.2.2.2.2.2.1 (sr w).2.2.2.2.2.2.2.2.2.2.2.2.2.2.2.2.2.2.2.2.2.2.2.2.2.1 (sr w).2.2.2.2.2.2.2.2.2.2.2.2.2.2.2.2.2.2.2.2.2.2.2.2.2.2.1 (sr w).2.2.2.2.2.2.2.2.2.2.2.2.2.2.2.2.2.2.2.2.2.2.2.2.2.2.2
  | 3 => x17_0_3 (sr w).1 (sr w).2.1 (sr w).2.2.1 (sr w).2.2.2.1 (sr w).2.2.2.2.1 (sr w).2.2.2.2.2.1 (sr w).2.2.2.2.2.2.1 (sr w).2.2.2.2.2.2.2.1 (sr w).2.2.2.2.2.2.2.2.1 (sr w).2.2.2.2.2.2.2.2.2.1 (sr w).2.2.2.2.2.2.2.2.2.2.1 (sr w).2.2.2.2.2.2.2.2.2.2.2.1 (sr w).2.2.2.2.2.2.2.2.2.2.2.2.1 (sr w).2.2.2.2.2.2.2.2.2.2.2.2.2.1 (sr w).2.2.2.2.2.2.2.2.2.2.2.2.2.2.1 (sr w).2.2.2.2.2.2.2.2.2.2.2.2.2.2.2.1 (sr w).2.2.2.2.2.2.2.2.2.2.2.2.2.2.2.2.1 (sr w).2.2.2.2.2.2.2.2.2.2.2.2.2.2.2.2.2.1 (sr w).2.2.2.2.2.2.2.2.2.2.2.2.2.2.2.2.2.2.1 (sr w).2.2.2.2.2.2.2.2.2.2.2.2.2.2.2.2.2.2.2.1 (sr w).2.2.2.2.2.2.2.2.2.2.2.2.2.2.2.2.2.2.2.2.1 (sr w).2.2.2.2.2.2.2.2.2.2.2.2.2.2.2.2.2.2.2.2.2.1 (sr w).2.2.2.2.2.2.2.2.2.2.2.2.2.2.2.2.2.2.2.2.2.2.1 (sr w).2.2.2.2.2.2.2.2.2.2.2.2.2.2.2.2.2.2.2.2.2.2.2.1 (sr w).2.2.2.2.2.2.2.2.2.2.2.2.2.2.2.2.2.2.2.2.2.2.2.2.1 (sr w).2.2.2.2.2.2.2.2.2.2.2.2.2.2.2.2.2.2.2.2.2.2.2.2.2.1 (sr w).2.2.2.2.2.2.2.2.2.2.2.2.2.2.2.2.2.2.2.2.2.2.2.2.2.2.1 (sr w).2.2.2.2.2.2.2.2.2.2.2.2.2.2.2.2.2.2.2.2.2.2.2.2.2.2.2
  | _ => (.ret, ⟨[], [], 0, 0⟩)
theorem e17_0 : ∀ j v, outB (x17_0 j v).1 = true := fun j v => match j with
  | 0 => rfl
  | 1 => rfl
  | 2 => rfl
  | 3 => rfl
  | _ + 4 => rfl
noncomputable def st17_0_0 (x0 : Int) (x1 : Int) (x2 : List AV) (x3 : List AV) (x4 : List AV) (x5 : Int) (x6 : Int) (x7 : Int) (x8 : Int) (x9 : Int) (x10 : Int) (x11 : Int) (x12 : Int) (x13 : Int) (x14 : Int) (x15 : Int) (x16 : Int) (x17 : Int) (x18 : Int) (x19 : List AV) (x20 : List AV) (x21 : List AV) (x22 : List AV) (x23 : List AV) (x24 : Int) (x25 : List AV) (x26 : List AV) : DT (Rd TT17_0) :=
 .br (decide (x1 < (↑x26.length : Int)))
  (.br (okAt [CS.int IntKind.i64, CS.int IntKind.i64, CS.str] x26 x1)
   (.bi (f37 x2 x3 x4 x5 x6 x7 x8 x9 x10 x11 x12 x13 x14 x15 x16 x17 x18 x19 x20 x21 x22 x23 (intOf (cellAt x26 x1 0)) x0) (fun y0 =>
    .br (!y0.snd.snd.snd.snd.snd.snd.snd.snd.snd.snd.snd.snd.snd.snd.snd.snd.snd.snd.snd)
     (.at (.done 0))
     (.br (decide (intOf (cellAt x26 x1 1) < 0))
      (.at (.next ((.inr (x0, IntKind.i64.wrap (x1 + 1), x2, x3, x4, x5, x6, x7, x8, x9, x10, x11, x12, x13, x14, x15, x16, x17, x18, x19, x20, x21, x22, x23, x24, x25, x26, [AV.agg
    [AV.int IntKind.i64 0, AV.int IntKind.i64 x0, AV.int IntKind.i64 x0, AV.int IntKind.i64 2, AV.int IntKind.i64 3, AV.int IntKind.i64 0, AV.str (strOf (cellAt x26 x1 2)),
      AV.str [],
      AV.view 3
        [AV.agg [AV.int IntKind.i64 x5, AV.int IntKind.i64 (intOf (cellAt x26 x1 1)), AV.str y0.snd.fst],
          AV.agg [AV.int IntKind.i64 (intOf (cellAt x26 x1 0)), AV.int IntKind.i64 (IntKind.i64.wrap (0 - intOf (cellAt x26 x1 1))), AV.str y0.snd.fst]],
      AV.int IntKind.u64 0]])))))
      (.at (.next ((.inr (x0, IntKind.i64.wrap (x1 + 1), x2, x3, x4, x5, x6, x7, x8, x9, x10, x11, x12, x13, x14, x15, x16, x17, x18, x19, x20, x21, x22, x23, x24, x25, x26, [AV.agg
    [AV.int IntKind.i64 0, AV.int IntKind.i64 x0, AV.int IntKind.i64 x0, AV.int IntKind.i64 1, AV.int IntKind.i64 3, AV.int IntKind.i64 0, AV.str (strOf (cellAt x26 x1 2)),
      AV.str [],
      AV.view 3
        [AV.agg [AV.int IntKind.i64 x5, AV.int IntKind.i64 (intOf (cellAt x26 x1 1)), AV.str y0.snd.fst],
          AV.agg [AV.int IntKind.i64 (intOf (cellAt x26 x1 0)), AV.int IntKind.i64 (IntKind.i64.wrap (0 - intOf (cellAt x26 x1 1))), AV.str y0.snd.fst]],
      AV.int IntKind.u64 0]])))))))
    (.no))
   (.no))
  (.at (.done 1))
noncomputable def st17_0_1 (x0 : Int) (x1 : Int) (x2 : List AV) (x3 : List AV) (x4 : List AV) (x5 : Int) (x6 : Int) (x7 : Int) (x8 : Int) (x9 : Int) (x10 : Int) (x11 : Int) (x12 : Int) (x13 : Int) (x14 : Int) (x15 : Int) (x16 : Int) (x17 : Int) (x18 : Int) (x19 : List AV) (x20 : List AV) (x21 : List AV) (x22 : List AV) (x23 : List AV) (x24 : Int) (x25 : List AV) (x26 : List AV) (x27 : List AV) : DT (Rd TT17_0) :=
 .br (decide (x1 < (↑x26.length : Int)))
  (.br (okAt [CS.int IntKind.i64, CS.int IntKind.i64, CS.str] x26 x1)
   (.bi (f37 x2 x3 x4 x5 x6 x7 x8 x9 x10 x11 x12 x13 x14 x15 x16 x17 x18 x19 x20 x21 x22 x23 (intOf (cellAt x26 x1 0)) x0) (fun y0 =>
    .br (!y0.snd.snd.snd.snd.snd.snd.snd.snd.snd.snd.snd.snd.snd.snd.snd.snd.snd.snd.snd)
     (.at (.done 2))
     (.br (decide (intOf (cellAt x26 x1 1) < 0))
      (.br (room (x27.length + 1) 112)
       (.at (.next ((.inr (x0, IntKind.i64.wrap (x1 + 1), x2, x3, x4, x5, x6, x7, x8, x9, x10, x11, x12, x13, x14, x15, x16, x17, x18, x19, x20, x21, x22, x23, x24, x25, x26, x27 ++
  [AV.agg
      [AV.int IntKind.i64 0, AV.int IntKind.i64 x0, AV.int IntKind.i64 x0, AV.int IntKind.i64 2, AV.int IntKind.i64 3, AV.int IntKind.i64 0, AV.str (strOf (cellAt x26 x1 2)),
        AV.str [],
        AV.view 3
          [AV.agg [AV.int IntKind.i64 x5, AV.int IntKind.i64 (intOf (cellAt x26 x1 1)), AV.str y0.snd.fst],
            AV.agg [AV.int IntKind.i64 (intOf (cellAt x26 x1 0)), AV.int IntKind.i64 (IntKind.i64.wrap (0 - intOf (cellAt x26 x1 1))), AV.str y0.snd.fst]],
        AV.int IntKind.u64 0]])))))
       (.no))
      (.br (room (x27.length + 1) 112)
       (.at (.next ((.inr (x0, IntKind.i64.wrap (x1 + 1), x2, x3, x4, x5, x6, x7, x8, x9, x10, x11, x12, x13, x14, x15, x16, x17, x18, x19, x20, x21, x22, x23, x24, x25, x26, x27 ++
  [AV.agg
      [AV.int IntKind.i64 0, AV.int IntKind.i64 x0, AV.int IntKind.i64 x0, AV.int IntKind.i64 1, AV.int IntKind.i64 3, AV.int IntKind.i64 0, AV.str (strOf (cellAt x26 x1 2)),
        AV.str [],
        AV.view 3
          [AV.agg [AV.int IntKind.i64 x5, AV.int IntKind.i64 (intOf (cellAt x26 x1 1)), AV.str y0.snd.fst],
            AV.agg [AV.int IntKind.i64 (intOf (cellAt x26 x1 0)), AV.int IntKind.i64 (IntKind.i64.wrap (0 - intOf (cellAt x26 x1 1))), AV.str y0.snd.fst]],
        AV.int IntKind.u64 0]])))))
       (.no))))
    (.no))
   (.no))
  (.at (.done 3))
noncomputable def st17_0 : TT17_0 → DT (Rd TT17_0) := (Sum.elim (fun v => st17_0_0 v.1 v.2.1 v.2.2.1 v.2.2.2.1 v.2.2.2.2.1 v.2.2.2.2.2.1 v.2.2.2.2.2.2.1 v.2.2.2.2.2.2.2.1 v.2.2.2.2.2.2.2.2.1 v.2.2.2.2.2.2.2.2.2.1 v.2.2.2.2.2.2.2.2.2.2.1 v.2.2.2.2.2.2.2.2.2.2.2.1 v.2.2.2.2.2.2.2.2.2.2.2.2.1 v.2.2.2.2.2.2.2.2.2.2.2.2.2.1 v.2.2.2.2.2.2.2.2.2.2.2.2.2.2.1 v.2.2.2.2.2.2.2.2.2.2.2.2.2.2.2.1 v.2.2.2.2.2.2.2.2.2.2.2.2.2.2.2.2.1 v.2.2.2.2.2.2.2.2.2.2.2.2.2.2.2.2.2.1 v.2.2.2.2.2.2.2.2.2.2.2.2.2.2.2.2.2.2.1 v.2.2.2.2.2.2.2.2.2.2.2.2.2.2.2.2.2.2.2.1 v.2.2.2.2.2.2.2.2.2.2.2.2.2.2.2.2.2.2.2.2.1 v.2.2.2.2.2.2.2.2.2.2.2.2.2.2.2.2.2.2.2.2.2.1 v.2.2.2.2.2.2.2.2.2.2.2.2.2.2.2.2.2.2.2.2.2.2.1 v.2.2.2.2.2.2.2.2.2.2.2.2.2.2.2.2.2.2.2.2.2.2.2.1 v.2.2.2.2.2.2.2.2.2.2.2.2.2.2.2.2.2.2.2.2.2.2.2.2.1 v.2.2.2.2.2.2.2.2.2.2.2.2.2.2.2.2.2.2.2.2.2.2.2.2.2.1 v.2.2.2.2.2.2.2.2.2.2.2.2.2.2.2.2.2.2.2.2.2.2.2.2.2.2) (fun v => st17_0_1 v.1 v.2.1 v.2.2.1 v.2.2.2.1 v.2.2.2.2.1 v.2.2.2.2.2.1 v.2.2.2.2.2.2.1 v.2.2.2.2.2.2.2.1 v.2.2.2.2.2.2.2.2.1 v.2.2.2.2.2.2.2.2.2.1 v.2.2.2.2.2.2.2.2.2.2.1 v.2.2.2.2.2.2.2.2.2.2.2.1 v.2.2.2.2.2.2.2.2.2.2.2.2.1 v.2.2.2.2.2.2.2.2.2.2.2.2.2.1 v.2.2.2.2.2.2.2.2.2.2.2.2.2.2.1 v.2.2.2.2.2.2.2.2.2.2.2.2.2.2.2.1 v.2.2.2.2.2.2.2.2.2.2.2.2.2.2.2.2.1 v.2.2.2.2.2.2.2.2.2.2.2.2.2.2.2.2.2.1 v.2.2.2.2.2.2.2.2.2.2.2.2.2.2.2.2.2.2.1 v.2.2.2.2.2.2.2.2.2.2.2.2.2.2.2.2.2.2.2.1 v.2.2.2.2.2.2.2.2.2.2.2.2.2.2.2.2.2.2.2.2.1 v.2.2.2.2.2.2.2.2.2.2.2.2.2.2.2.2.2.2.2.2.2.1 v.2.2.2.2.2.2.2.2.2.2.2.2.2.2.2.2.2.2.2.2.2.2.1 v.2.2.2.2.2.2.2.2.2.2.2.2.2.2.2.2.2.2.2.2.2.2.2.1 v.2.2.2.2.2.2.2.2.2.2.2.2.2.2.2.2.2.2.2.2.2.2.2.2.1 v.2.2.2.2.2.2.2.2.2.2.2.2.2.2.2.2.2.2.2.2.2.2.2.2.2.1 v.2.2.2.2.2.2.2.2.2.2.2.2.2.2.2.2.2.2.2.2.2.2.2.2.2.2.1 v.2.2.2.2.2.2.2.2.2.2.2.2.2.2.2.2.2.2.2.2.2.2.2.2.2.2.2))
noncomputable def T17_0 : Tab := [(34, cloneE 3 24), (35, cloneE 3 32), (37, g37 f37)]
theorem T17_0_ok : TabOk IP (T17_0) := ⟨sp34, sp35, s37, trivial⟩
noncomputable def L17_0 : LTab := []
theorem L17_0_ok : LOk IP (L17_0) (loops (loopAt F17 0).2) := LOk_of (l := []) (by kernel_rfl) trivial
theorem b17_0_0 (v : Int × Int × List AV × List AV × List AV × Int × Int × Int × Int × Int × Int × Int × Int × Int × Int × Int × Int × Int × Int × List AV × List AV × List AV × List AV × List AV × Int × List AV × List AV) : execK (R := Rx TT17_0) IP (callT (T17_0)) (loopT (L17_0)) (loopAt F17 0).2 (h17_0_0 v) (endK (loopAt F17 0).1 d17_0) = (cvD (fun j => x17_0 j (.inl v)) (st17_0_0 v.1 v.2.1 v.2.2.1 v.2.2.2.1 v.2.2.2.2.1 v.2.2.2.2.2.1 v.2.2.2.2.2.2.1 v.2.2.2.2.2.2.2.1 v.2.2.2.2.2.2.2.2.1 v.2.2.2.2.2.2.2.2.2.1 v.2.2.2.2.2.2.2.2.2.2.1 v.2.2.2.2.2.2.2.2.2.2.2.1 v.2.2.2.2.2.2.2.2.2.2.2.2.1 v.2.2.2.2.2.2.2.2.2.2.2.2.2.1 v.2.2.2.2.2.2.2.2.2.2.2.2.2.2.1 v.2.2.2.2.2.2.2.2.2.2.2.2.2.2.2.1 v.2.2.2.2.2.2.2.2.2.2.2.2.2.2.2.2.1 v.2.2.2.2.2.2.2.2.2.2.2.2.2.2.2.2.2.1 v.2.2.2.2.2.2.2.2.2.2.2.2.2.2.2.2.2.2.1 v.2.2.2.2.2.2.2.2.2.2.2.2.2.2.2.2.2.2.2.1 v.2.2.2.2.2.2.2.2.2.2.2.2.2.2.2.2.2.2.2.2.1 v.2.2.2.2.2.2.2.2.2.2.2.2.2.2.2.2.2.2.2.2.2.1 v.2.2.2.2.2.2.2.2.2.2.2.2.2.2.2.2.2.2.2.2.2.2.1 v.2.2.2.2.2.2.2.2.2.2.2.2.2.2.2.2.2.2.2.2.2.2.2.1 v.2.2.2.2.2.2.2.2.2.2.2.2.2.2.2.2.2.2.2.2.2.2.2.2.1 v.2.2.2.2.2.2.2.2.2.2.2.2.2.2.2.2.2.2.2.2.2.2.2.2.2.1 v.2.2.2.2.2.2.2.2.2.2.2.2.2.2.2.2.2.2.2.2.2.2.2.2.2.2)).ev := by kernel_rfl
theorem b17_0_1 (v : Int × Int × List AV × List AV × List AV × Int × Int × Int × Int × Int × Int × Int × Int × Int × Int × Int × Int × Int × Int × List AV × List AV × List AV × List AV × List AV × Int × List AV × List AV × List AV) : execK (R := Rx TT17_0) IP (callT (T17_0)) (loopT (L17_0)) (loopAt F17 0).2 (h17_0_1 v) (endK (loopAt F17 0).1 d17_0) = (cvD (fun j => x17_0 j (.inr v)) (st17_0_1 v.1 v.2.1 v.2.2.1 v.2.2.2.1 v.2.2.2.2.1 v.2.2.2.2.2.1 v.2.2.2.2.2.2.1 v.2.2.2.2.2.2.2.1 v.2.2.2.2.2.2.2.2.1 v.2.2.2.2.2.2.2.2.2.1 v.2.2.2.2.2.2.2.2.2.2.1 v.2.2.2.2.2.2.2.2.2.2.2.1 v.2.2.2.2.2.2.2.2.2.2.2.2.1 v.2.2.2.2.2.2.2.2.2.2.2.2.2.1 v.2.2.2.2.2.2.2.2.2.2.2.2.2.2.1 v.2.2.2.2.2.2.2.2.2.2.2.2.2.2.2.1 v.2.2.2.2.2.2.2.2.2.2.2.2.2.2.2.2.1 v.2.2.2.2.2.2.2.2.2.2.2.2.2.2.2.2.2.1 v.2.2.2.2.2.2.2.2.2.2.2.2.2.2.2.2.2.2.1 v.2.2.2.2.2.2.2.2.2.2.2.2.2.2.2.2.2.2.2.1 v.2.2.2.2.2.2.2.2.2.2.2.2.2.2.2.2.2.2.2.2.1 v.2.2.2.2.2.2.2.2.2.2.2.2.2.2.2.2.2.2.2.2.2.1 v.2.2.2.2.2.2.2.2.2.2.2.2.2.2.2.2.2.2.2.2.2.2.1 v.2.2.2.2.2.2.2.2.2.2.2.2.2.2.2.2.2.2.2.2.2.2.2.1 v.2.2.2.2.2.2.2.2.2.2.2.2.2.2.2.2.2.2.2.2.2.2.2.2.1 v.2.2.2.2.2.2.2.2.2.2.2.2.2.2.2.2.2.2.2.2.2.2.2.2.2.1 v.2.2.2.2.2.2.2.2.2.2.2.2.2.2.2.2.2.2.2.2.2.2.2.2.2.2.1 v.2.2.2.2.2.2.2.2.2.2.2.2.2.2.2.2.2.2.2.2.2.2.2.2.2.2.2)).ev := by kernel_rfl
noncomputable def l17_0 (v : TT17_0) : Option (Nat × TT17_0) := lock (iterO (fun v => (st17_0 v).ev) v)
theorem l17_0_eq (v : TT17_0) : l17_0 v = iterO (fun v => (st17_0 v).ev) v := lock_eq _
noncomputable def ll17_0 : LEnt := lEnt d17_0 (l17_0) (x17_0) 4
theorem t17_0 : Go.Eng.Told IP (loopAt F17 0).1 (loopAt F17 0).2 (ll17_0) := loop_of (st := st17_0) (T17_0_ok) (L17_0_ok) d17_0_ok (fun v => match v with | (.inl v) => n17_0_0 v | (.inr v) => n17_0_1 v) (e17_0) (fun v => match v with | (.inl v) => b17_0_0 v | (.inr v) => b17_0_1 v) (l17_0_eq)

-- f17: 
abbrev A17 : Type := List AV × List AV × List AV × Int × Int × Int × Int × Int × Int × Int × Int × Int × Int × Int × Int × Int × Int × List AV × List AV × List AV × List AV × List AV × Int × List AV × List AV × Int
abbrev B17 : Type := List AV × Int
def pa17 : PArgs := ⟨[.agg [.view 2, .view 3, .view 4, .int .i64, .int .i64, .int .i64, .int .i64, .int .i64, .int .i64, .int .i64, .int .i64, .int .i64, .int .i64, .int .i64, .int .i64, .int .i64, .int .i64, .view 19, .view 7, .view 10, .view 6, .view 7], .agg [.int .i64, .view 3, .view 3], .int .i64], []⟩
def to17 (ls : List Lf) : Option A17 := eatL ls fun x0 ls => eatL ls fun x1 ls => eatL ls fun x2 ls => eatI ls fun x3 ls => eatI ls fun x4 ls => eatI ls fun x5 ls => eatI ls fun x6 ls => eatI ls fun x7 ls => eatI ls fun x8 ls => eatI ls fun x9 ls => eatI ls fun x10 ls => eatI ls fun x11 ls => eatI ls fun x12 ls => eatI ls fun x13 ls => eatI ls fun x14 ls => eatI ls fun x15 ls => eatI ls fun x16 ls => eatL ls fun x17 ls => eatL ls fun x18 ls => eatL ls fun x19 ls => eatL ls fun x20 ls => eatL ls fun x21 ls => eatI ls fun x22 ls => eatL ls fun x23 ls => eatL ls fun x24 ls => eatI ls fun x25 ls => eat0 ls (x0, x1, x2, x3, x4, x5, x6, x7, x8, x9, x10, x11, x12, x13, x14, x15, x16, x17, x18, x19, x20, x21, x22, x23, x24, x25)
def ea17 (v : A17) : List AV × Heap := ([.agg [.view 2 v.1, .view 3 v.2.1, .view 4 v.2.2.1, .int .i64 v.2.2.2.1, .int .i64 v.2.2.2.2.1, .int .i64 v.2.2.2.2.2.1, .int .i64 v.2.2.2.2.2.2.1, .int .i64 v.2.2.2.2.2.2.2.1, .int .i64 v.2.2.2.2.2.2.2.2.1, .int .i64 v.2.2.2.2.2.2.2.2.2.1, .int .i64 v.2.2.2.2.2.2.2.2.2.2.1, .int .i64 v.2.2.2.2.2.2.2.2.2.2.2.1, .int .i64 v.2.2.2.2.2.2.2.2.2.2.2.2.1, .int .i64 v.2.2.2.2.2.2.2.2.2.2.2.2.2.1, .int .i64 v.2.2.2.2.2.2.2.2.2.2.2.2.2.2.1, .int .i64 v.2.2.2.2.2.2.2.2.2.2.2.2.2.2.2.1, .int .i64 v.2.2.2.2.2.2.2.2.2.2.2.2.2.2.2.2.1, .view 19 v.2.2.2.2.2.2.2.2.2.2.2.2.2.2.2.2.2.1, .view 7 v.2.2.2.2.2.2.2.2.2.2.2.2.2.2.2.2.2.2.1, .view 10 v.2.2.2.2.2.2.2.2.2.2.2.2.2.2.2.2.2.2.2.1, .view 6 v.2.2.2.2.2.2.2.2.2.2.2.2.2.2.2.2.2.2.2.2.1, .view 7 v.2.2.2.2.2.2.2.2.2.2.2.2.2.2.2.2.2.2.2.2.2.1], .agg [.int .i64 v.2.2.2.2.2.2.2.2.2.2.2.2.2.2.2.2.2.2.2.2.2.2.1, .view 3 v.2.2.2.2.2.2.2.2.2.2.2.2.2.2.2.2.2.2.2.2.2.2.2.1, .view 3 v.2.2.2.2.2.2.2.2.2.2.2.2.2.2.2.2.2.2.2.2.2.2.2.2.1], .int .i64 v.2.2.2.2.2.2.2.2.2.2.2.2.2.2.2.2.2.2.2.2.2.2.2.2.2], [])
def er17_0 (v : List AV × Int) : Res × Heap := (.ret (.tup [.view 10 v.1, .int .i64 v.2]), [])
def er17 : B17 → Res × Heap := er17_0
def en17 : Option B17 → List (Bool × Res × Heap) := (E1 er17_0)
def rd17 : Res → Heap → Option B17 := rDec ⟨false, .tup [.view 10, .int .i64], []⟩ (fun ls => eatL ls fun x0 ls => eatI ls fun x1 ls => eat0 ls (x0, x1)) (rNo)
theorem to17_ok : ∀ ls v, to17 ls = some v → fArgs pa17 ls = ea17 v := by
  intro ls v h0
  unfold to17 at h0
  obtain ⟨x0, ls0, rfl, h1⟩ := eatL_some h0
  obtain ⟨x1, ls1, rfl, h2⟩ := eatL_some h1
  obtain ⟨x2, ls2, rfl, h3⟩ := eatL_some h2
  obtain ⟨x3, ls3, rfl, h4⟩ := eatI_some h3
  obtain ⟨x4, ls4, rfl, h5⟩ := eatI_some h4
  obtain ⟨x5, ls5, rfl, h6⟩ := eatI_some h5
  obtain ⟨x6, ls6, rfl, h7⟩ := eatI_some h6
  obtain ⟨x7, ls7, rfl, h8⟩ := eatI_some h7
  obtain ⟨x8, ls8, rfl, h9⟩ := eatI_some h8
  obtain ⟨x9, ls9, rfl, h10⟩ := eatI_some h9
  obtain ⟨x10, ls10, rfl, h11⟩ := eatI_some h10
  obtain ⟨x11, ls11, rfl, h12⟩ := eatI_some h11
  obtain ⟨x12, ls12, rfl, h13⟩ := eatI_some h12
  obtain ⟨x13, ls13, rfl, h14⟩ := eatI_some h13
  obtain ⟨x14, ls14, rfl, h15⟩ := eatI_some h14
  obtain ⟨x15, ls15, rfl, h16⟩ := eatI_some h15
  obtain ⟨x16, ls16, rfl, h17⟩ := eatI_some h16
  obtain ⟨x17, ls17, rfl, h18⟩ := eatL_some h17
  obtain ⟨x18, ls18, rfl, h19⟩ := eatL_some h18
  obtain ⟨x19, ls19, rfl, h20⟩ := eatL_some h19
  obtain ⟨x20, ls20, rfl, h21⟩ := eatL_some h20
  obtain ⟨x21, ls21, rfl, h22⟩ := eatL_some h21
  obtain ⟨x22, ls22, rfl, h23⟩ := eatI_some h22
  obtain ⟨x23, ls23, rfl, h24⟩ := eatL_some h23
  obtain ⟨x24, ls24, rfl, h25⟩ := eatL_some h24
  obtain ⟨x25, ls25, rfl, h26⟩ := eatI_some h25
  obtain ⟨rfl, rfl⟩ := eat0_some h26
  rfl
theorem rd17_ok : ∀ r h y, rd17 r h = some y → (r, h) = er17 y := rDec_ok (by
  intro ls v h0
  obtain ⟨x0, ls0, rfl, h1⟩ := eatL_some h0
  obtain ⟨x1, ls1, rfl, h2⟩ := eatI_some h1
  obtain ⟨rfl, rfl⟩ := eat0_some h2
  rfl
) (rNo_ok)
noncomputable def g17 (G : (List AV) → (List AV) → (List AV) → Int → Int → Int → Int → Int → Int → Int → Int → Int → Int → Int → Int → Int → Int → (List AV) → (List AV) → (List AV) → (List AV) → (List AV) → Int → (List AV) → (List AV) → Int → Option B17) : Ent := fEnt pa17 to17 (fun v => G v.1 v.2.1 v.2.2.1 v.2.2.2.1 v.2.2.2.2.1 v.2.2.2.2.2.1 v.2.2.2.2.2.2.1 v.2.2.2.2.2.2.2.1 v.2.2.2.2.2.2.2.2.1 v.2.2.2.2.2.2.2.2.2.1 v.2.2.2.2.2.2.2.2.2.2.1 v.2.2.2.2.2.2.2.2.2.2.2.1 v.2.2.2.2.2.2.2.2.2.2.2.2.1 v.2.2.2.2.2.2.2.2.2.2.2.2.2.1 v.2.2.2.2.2.2.2.2.2.2.2.2.2.2.1 v.2.2.2.2.2.2.2.2.2.2.2.2.2.2.2.1 v.2.2.2.2.2.2.2.2.2.2.2.2.2.2.2.2.1 v.2.2.2.2.2.2.2.2.2.2.2.2.2.2.2.2.2.1 v.2.2.2.2.2.2.2.2.2.2.2.2.2.2.2.2.2.2.1 v.2.2.2.2.2.2.2.2.2.2.2.2.2.2.2.2.2.2.2.1 v.2.2.2.2.2.2.2.2.2.2.2.2.2.2.2.2.2.2.2.2.1 v.2.2.2.2.2.2.2.2.2.2.2.2.2.2.2.2.2.2.2.2.2.1 v.2.2.2.2.2.2.2.2.2.2.2.2.2.2.2.2.2.2.2.2.2.2.1 v.2.2.2.2.2.2.2.2.2.2.2.2.2.2.2.2.2.2.2.2.2.2.2.1 v.2.2.2.2.2.2.2.2.2.2.2.2.2.2.2.2.2.2.2.2.2.2.2.2.1 v.2.2.2.2.2.2.2.2.2.2.2.2.2.2.2.2.2.2.2.2.2.2.2.2.2) en17
theorem g17_ok (G : (List AV) → (List AV) → (List AV) → Int → Int → Int → Int → Int → Int → Int → Int → Int → Int → Int → Int → Int → Int → (List AV) → (List AV) → (List AV) → (List AV) → (List AV) → Int → (List AV) → (List AV) → Int → Option B17) (hG : ∀ v y, G v.1 v.2.1 v.2.2.1 v.2.2.2.1 v.2.2.2.2.1 v.2.2.2.2.2.1 v.2.2.2.2.2.2.1 v.2.2.2.2.2.2.2.1 v.2.2.2.2.2.2.2.2.1 v.2.2.2.2.2.2.2.2.2.1 v.2.2.2.2.2.2.2.2.2.2.1 v.2.2.2.2.2.2.2.2.2.2.2.1 v.2.2.2.2.2.2.2.2.2.2.2.2.1 v.2.2.2.2.2.2.2.2.2.2.2.2.2.1 v.2.2.2.2.2.2.2.2.2.2.2.2.2.2.1 v.2.2.2.2.2.2.2.2.2.2.2.2.2.2.2.1 v.2.2.2.2.2.2.2.2.2.2.2.2.2.2.2.2.1 v.2.2.2.2.2.2.2.2.2.2.2.2.2.2.2.2.2.1 v.2.2.2.2.2.2.2.2.2.2.2.2.2.2.2.2.2.2.1 v.2.2.2.2.2.2.2.2.2.2.2.2.2.2.2.2.2.2.2.1 v.2.2.2.2.2.2.2.2.2.2.2.2.2.2.2.2.2.2.2.2.1 v.2.2.2.2.2.2.2.2.2.2.2.2.2.2.2.2.2.2.2.2.2.1 v.2.2.2.2.2.2.2.2.2.2.2.2.2.2.2.2.2.2.2.2.2.2.1 v.2.2.2.2.2.2.2.2.2.2.2.2.2.2.2.2.2.2.2.2.2.2.2.1 v.2.2.2.2.2.2.2.2.2.2.2.2.2.2.2.2.2.2.2.2.2.2.2.2.1 v.2.2.2.2.2.2.2.2.2.2.2.2.2.2.2.2.2.2.2.2.2.2.2.2.2 = some y → callO IP 17 (ea17 v).1 (ea17 v).2 = some (er17 y)) : Snd IP 17 (g17 G) := fEnt_ok to17_ok E1_ok hG
noncomputable def tr17 (x0 : List AV) (x1 : List AV) (x2 : List AV) (x3 : Int) (x4 : Int) (x5 : Int) (x6 : Int) (x7 : Int) (x8 : Int) (x9 : Int) (x10 : Int) (x11 : Int) (x12 : Int) (x13 : Int) (x14 : Int) (x15 : Int) (x16 : Int) (x17 : List AV) (x18 : List AV) (x19 : List AV) (x20 : List AV) (x21 : List AV) (x22 : Int) (x23 : List AV) (x24 : List AV) (x25 : Int) : DT B17 :=
 .bi (pj 0 (l17_0 (Sum.inl (x25, 0, x0, x1, x2, x3, x4, x5, x6, x7, x8, x9, x10, x11, x12, x13, x14, x15, x16, x17, x18, x19, x20, x21, x22, x23, x24)))) (fun y0 =>
  .at (([], 11)))
  (.bi (pj 1 (l17_0 (Sum.inl (x25, 0, x0, x1, x2, x3, x4, x5, x6, x7, x8, x9, x10, x11, x12, x13, x14, x15, x16, x17, x18, x19, x20, x21, x22, x23, x24)))) (fun y0 =>
   .at (([], 0)))
   (.bi (pj 2 (l17_0 (Sum.inl (x25, 0, x0, x1, x2, x3, x4, x5, x6, x7, x8, x9, x10, x11, x12, x13, x14, x15, x16, x17, x18, x19, x20, x21, x22, x23, x24)))) (fun y0 =>
    .at (([], 11)))
    (.bi (pj 3 (l17_0 (Sum.inl (x25, 0, x0, x1, x2, x3, x4, x5, x6, x7, x8, x9, x10, x11, x12, x13, x14, x15, x16, x17, x18, x19, x20, x21, x22, x23, x24)))) (fun y0 =>
     .at (((sr y0).snd.snd.snd.snd.snd.snd.snd.snd.snd.snd.snd.snd.snd.snd.snd.snd.snd.snd.snd.snd.snd.snd.snd.snd.snd.snd.snd, 0)))
     (.no))))
noncomputable def T17 : Tab := [(34, cloneE 3 24), (35, cloneE 3 32)]
theorem T17_ok : TabOk IP (T17) := ⟨sp34, sp35, trivial⟩
noncomputable def L17 : LTab := [(1001700, ll17_0)]
theorem L17_ok : LOk IP (L17) (loops F17.body) := LOk_of (l := [loopAt F17 0]) (by kernel_rfl) ⟨sel_one (by kernel_rfl) t17_0, trivial⟩
theorem b17 (v : A17) : bodyK (R := B17) IP (callT (T17)) (loopT (L17)) 17 F17 (ea17 v).1 (ea17 v).2 rd17 = (tr17 v.1 v.2.1 v.2.2.1 v.2.2.2.1 v.2.2.2.2.1 v.2.2.2.2.2.1 v.2.2.2.2.2.2.1 v.2.2.2.2.2.2.2.1 v.2.2.2.2.2.2.2.2.1 v.2.2.2.2.2.2.2.2.2.1 v.2.2.2.2.2.2.2.2.2.2.1 v.2.2.2.2.2.2.2.2.2.2.2.1 v.2.2.2.2.2.2.2.2.2.2.2.2.1 v.2.2.2.2.2.2.2.2.2.2.2.2.2.1 v.2.2.2.2.2.2.2.2.2.2.2.2.2.2.1 v.2.2.2.2.2.2.2.2.2.2.2.2.2.2.2.1 v.2.2.2.2.2.2.2.2.2.2.2.2.2.2.2.2.1 v.2.2.2.2.2.2.2.2.2.2.2.2.2.2.2.2.2.1 v.2.2.2.2.2.2.2.2.2.2.2.2.2.2.2.2.2.2.1 v.2.2.2.2.2.2.2.2.2.2.2.2.2.2.2.2.2.2.2.1 v.2.2.2.2.2.2.2.2.2.2.2.2.2.2.2.2.2.2.2.2.1 v.2.2.2.2.2.2.2.2.2.2.2.2.2.2.2.2.2.2.2.2.2.1 v.2.2.2.2.2.2.2.2.2.2.2.2.2.2.2.2.2.2.2.2.2.2.1 v.2.2.2.2.2.2.2.2.2.2.2.2.2.2.2.2.2.2.2.2.2.2.2.1 v.2.2.2.2.2.2.2.2.2.2.2.2.2.2.2.2.2.2.2.2.2.2.2.2.1 v.2.2.2.2.2.2.2.2.2.2.2.2.2.2.2.2.2.2.2.2.2.2.2.2.2).ev := by kernel_rfl
/--  -/
noncomputable def f17 (x0 : List AV) (x1 : List AV) (x2 : List AV) (x3 : Int) (x4 : Int) (x5 : Int) (x6 : Int) (x7 : Int) (x8 : Int) (x9 : Int) (x10 : Int) (x11 : Int) (x12 : Int) (x13 : Int) (x14 : Int) (x15 : Int) (x16 : Int) (x17 : List AV) (x18 : List AV) (x19 : List AV) (x20 : List AV) (x21 : List AV) (x22 : Int) (x23 : List AV) (x24 : List AV) (x25 : Int) : Option B17 := lock (tr17 x0 x1 x2 x3 x4 x5 x6 x7 x8 x9 x10 x11 x12 x13 x14 x15 x16 x17 x18 x19 x20 x21 x22 x23 x24 x25).ev
theorem f17_eq (x0 : List AV) (x1 : List AV) (x2 : List AV) (x3 : Int) (x4 : Int) (x5 : Int) (x6 : Int) (x7 : Int) (x8 : Int) (x9 : Int) (x10 : Int) (x11 : Int) (x12 : Int) (x13 : Int) (x14 : Int) (x15 : Int) (x16 : Int) (x17 : List AV) (x18 : List AV) (x19 : List AV) (x20 : List AV) (x21 : List AV) (x22 : Int) (x23 : List AV) (x24 : List AV) (x25 : Int) : f17 x0 x1 x2 x3 x4 x5 x6 x7 x8 x9 x10 x11 x12 x13 x14 x15 x16 x17 x18 x19 x20 x21 x22 x23 x24 x25 = (tr17 x0 x1 x2 x3 x4 x5 x6 x7 x8 x9 x10 x11 x12 x13 x14 x15 x16 x17 x18 x19 x20 x21 x22 x23 x24 x25).ev := lock_eq _
theorem c17 : ∀ v y, f17 v.1 v.2.1 v.2.2.1 v.2.2.2.1 v.2.2.2.2.1 v.2.2.2.2.2.1 v.2.2.2.2.2.2.1 v.2.2.2.2.2.2.2.1 v.2.2.2.2.2.2.2.2.1 v.2.2.2.2.2.2.2.2.2.1 v.2.2.2.2.2.2.2.2.2.2.1 v.2.2.2.2.2.2.2.2.2.2.2.1 v.2.2.2.2.2.2.2.2.2.2.2.2.1 v.2.2.2.2.2.2.2.2.2.2.2.2.2.1 v.2.2.2.2.2.2.2.2.2.2.2.2.2.2.1 v.2.2.2.2.2.2.2.2.2.2.2.2.2.2.2.1 v.2.2.2.2.2.2.2.2.2.2.2.2.2.2.2.2.1 v.2.2.2.2.2.2.2.2.2.2.2.2.2.2.2.2.2.1 v.2.2.2.2.2.2.2.2.2.2.2.2.2.2.2.2.2.2.1 v.2.2.2.2.2.2.2.2.2.2.2.2.2.2.2.2.2.2.2.1 v.2.2.2.2.2.2.2.2.2.2.2.2.2.2.2.2.2.2.2.2.1 v.2.2.2.2.2.2.2.2.2.2.2.2.2.2.2.2.2.2.2.2.2.1 v.2.2.2.2.2.2.2.2.2.2.2.2.2.2.2.2.2.2.2.2.2.2.1 v.2.2.2.2.2.2.2.2.2.2.2.2.2.2.2.2.2.2.2.2.2.2.2.1 v.2.2.2.2.2.2.2.2.2.2.2.2.2.2.2.2.2.2.2.2.2.2.2.2.1 v.2.2.2.2.2.2.2.2.2.2.2.2.2.2.2.2.2.2.2.2.2.2.2.2.2 = some y → callO IP 17 (ea17 v).1 (ea17 v).2 = some (er17 y) := fun v y h => fun_of T17_ok (by kernel_rfl) L17_ok rd17_ok (b17 v) ((f17_eq v.1 v.2.1 v.2.2.1 v.2.2.2.1 v.2.2.2.2.1 v.2.2.2.2.2.1 v.2.2.2.2.2.2.1 v.2.2.2.2.2.2.2.1 v.2.2.2.2.2.2.2.2.1 v.2.2.2.2.2.2.2.2.2.1 v.2.2.2.2.2.2.2.2.2.2.1 v.2.2.2.2.2.2.2.2.2.2.2.1 v.2.2.2.2.2.2.2.2.2.2.2.2.1 v.2.2.2.2.2.2.2.2.2.2.2.2.2.1 v.2.2.2.2.2.2.2.2.2.2.2.2.2.2.1 v.2.2.2.2.2.2.2.2.2.2.2.2.2.2.2.1 v.2.2.2.2.2.2.2.2.2.2.2.2.2.2.2.2.1 v.2.2.2.2.2.2.2.2.2.2.2.2.2.2.2.2.2.1 v.2.2.2.2.2.2.2.2.2.2.2.2.2.2.2.2.2.2.1 v.2.2.2.2.2.2.2.2.2.2.2.2.2.2.2.2.2.2.2.1 v.2.2.2.2.2.2.2.2.2.2.2.2.2.2.2.2.2.2.2.2.1 v.2.2.2.2.2.2.2.2.2.2.2.2.2.2.2.2.2.2.2.2.2.1 v.2.2.2.2.2.2.2.2.2.2.2.2.2.2.2.2.2.2.2.2.2.2.1 v.2.2.2.2.2.2.2.2.2.2.2.2.2.2.2.2.2.2.2.2.2.2.2.1 v.2.2.2.2.2.2.2.2.2.2.2.2.2.2.2.2.2.2.2.2.2.2.2.2.1 v.2.2.2.2.2.2.2.2.2.2.2.2.2.2.2.2.2.2.2.2.2.2.2.2.2).symm.trans h)
theorem s17 : Snd IP 17 (g17 f17) := g17_ok f17 c17

-- l38_0: loop 0 of function 38
abbrev TT38_0 : Type := List AV × List AV × Int
def h38_0_0 (v : List AV × List AV × Int) : St := ⟨[(1003800, .junk), (0, .view 3 v.1), (1, .view 3 v.2.1), (5, .int .i64 v.2.2)], [], 0, 0⟩
def h38_0 : TT38_0 → St := (fun v => h38_0_0 v)
def d38_0 : St → Option TT38_0 := sDec ⟨[(1003800, .junk), (0, .view 3), (1, .view 3), (5, .int .i64)], [], 0, 0⟩ (fun ls => eatL ls fun x0 ls => eatL ls fun x1 ls => eatI ls fun x2 ls => eat0 ls (x0, x1, x2)) (sNo)
theorem d38_0_ok : ∀ s v, d38_0 s = some v → s = h38_0 v := sDec_ok (by
  intro ls v h0
  obtain ⟨x0, ls0, rfl, h1⟩ := eatL_some h0
  obtain ⟨x1, ls1, rfl, h2⟩ := eatL_some h1
  obtain ⟨x2, ls2, rfl, h3⟩ := eatI_some h2
  obtain ⟨rfl, rfl⟩ := eat0_some h3
  rfl
) (sNo_ok)
theorem n38_0_0 (v : List AV × List AV × Int) : norm (hk (loopAt F38 0).1) (h38_0_0 v) = some (h38_0_0 v) := by kernel_rfl
noncomputable def x38_0_0 (x0 : List AV) (x1 : List AV) (x2 : Int) : X × St := (X.ret, { tm := [(4, AV.bool false)], hp := [], nx := 0, k := 0 })
noncomputable def x38_0_1 (x0 : List AV) (x1 : List AV) (x2 : Int) : X × St := (X.exit 0, { tm := [(4, AV.junk)], hp := [], nx := 0, k := 0 })
noncomputable def x38_0 : Nat → TT38_0 → X × St := fun j w => match j with
  | 0 => x38_0_0 w.1 w.2.1 w.2.2
  | 1 => x38_0_1 w.1 w.2.1 w.2.2
  | _ => (.ret, ⟨[], [], 0, 0⟩)
theorem e38_0 : ∀ j v, outB (x38_0 j v).1 = true := fun j v => match j with
  | 0 => rfl
  | 1 => rfl
  | _ + 2 => rfl
noncomputable def st38_0_0 (x0 : List AV) (x1 : List AV) (x2 : Int) : DT (Rd TT38_0) :=
 .br (decide (x2 < (↑x0.length : Int)))
  (.br (okAt [CS.int IntKind.i64, CS.int IntKind.i64, CS.str] x0 x2)
   (.br (okAt [CS.int IntKind.i64, CS.int IntKind.i64, CS.str] x1 x2)
    (.br (if true = true then
        !(intOf (cellAt x0 x2 0) == intOf (cellAt x1 x2 0) && (intOf (cellAt x0 x2 1) == intOf (cellAt x1 x2 1) && (strOf (cellAt x0 x2 2) == strOf (cellAt x1 x2 2) && true)))
      else intOf (cellAt x0 x2 0) == intOf (cellAt x1 x2 0) && (intOf (cellAt x0 x2 1) == intOf (cellAt x1 x2 1) && (strOf (cellAt x0 x2 2) == strOf (cellAt x1 x2 2) && true)))
     (.at (.done 0))
     (.at (.next ((x0, x1, IntKind.i64.wrap (x2 + 1))))))
    (.no))
   (.no))
  (.at (.done 1))
noncomputable def st38_0 : TT38_0 → DT (Rd TT38_0) := (fun v => st38_0_0 v.1 v.2.1 v.2.2)
noncomputable def T38_0 : Tab := [(34, cloneE 3 24), (35, cloneE 3 32)]
theorem T38_0_ok : TabOk IP (T38_0) := ⟨sp34, sp35, trivial⟩
noncomputable def L38_0 : LTab := []
theorem L38_0_ok : LOk IP (L38_0) (loops (loopAt F38 0).2) := LOk_of (l := []) (by kernel_rfl) trivial
theorem b38_0_0 (v : List AV × List AV × Int) : execK (R := Rx TT38_0) IP (callT (T38_0)) (loopT (L38_0)) (loopAt F38 0).2 (h38_0_0 v) (endK (loopAt F38 0).1 d38_0) = (cvD (fun j => x38_0 j v) (st38_0_0 v.1 v.2.1 v.2.2)).ev := by kernel_rfl
noncomputable def l38_0 (v : TT38_0) : Option (Nat × TT38_0) := lock (iterO (fun v => (st38_0 v).ev) v)
theorem l38_0_eq (v : TT38_0) : l38_0 v = iterO (fun v => (st38_0 v).ev) v := lock_eq _
noncomputable def ll38_0 : LEnt := lEnt d38_0 (l38_0) (x38_0) 2
theorem t38_0 : Go.Eng.Told IP (loopAt F38 0).1 (loopAt F38 0).2 (ll38_0) := loop_of (st := st38_0) (T38_0_ok) (L38_0_ok) d38_0_ok (fun v => n38_0_0 v) (e38_0) (fun v => b38_0_0 v) (l38_0_eq)

-- f38: 
abbrev A38 : Type := List AV × List AV
abbrev B38 : Type := Bool
def pa38 : PArgs := ⟨[.view 3, .view 3], []⟩
def to38 (ls : List Lf) : Option A38 := eatL ls fun x0 ls => eatL ls fun x1 ls => eat0 ls (x0, x1)
def ea38 (v : A38) : List AV × Heap := ([.view 3 v.1, .view 3 v.2], [])
def er38_0 (v : Bool) : Res × Heap := (.ret (.bool v), [])
def er38 : B38 → Res × Heap := er38_0
def en38 : Option B38 → List (Bool × Res × Heap) := (E1 er38_0)
def rd38 : Res → Heap → Option B38 := rDec ⟨false, .bool, []⟩ (fun ls => eatB ls fun x0 ls => eat0 ls x0) (rNo)
theorem to38_ok : ∀ ls v, to38 ls = some v → fArgs pa38 ls = ea38 v := by
  intro ls v h0
  unfold to38 at h0
  obtain ⟨x0, ls0, rfl, h1⟩ := eatL_some h0
  obtain ⟨x1, ls1, rfl, h2⟩ := eatL_some h1
  obtain ⟨rfl, rfl⟩ := eat0_some h2
  rfl
theorem rd38_ok : ∀ r h y, rd38 r h = some y → (r, h) = er38 y := rDec_ok (by
  intro ls v h0
  obtain ⟨x0, ls0, rfl, h1⟩ := eatB_some h0
  obtain ⟨rfl, rfl⟩ := eat0_some h1
  rfl
) (rNo_ok)
noncomputable def g38 (G : (List AV) → (List AV) → Option B38) : Ent := fEnt pa38 to38 (fun v => G v.1 v.2) en38
theorem g38_ok (G : (List AV) → (List AV) → Option B38) (hG : ∀ v y, G v.1 v.2 = some y → callO IP 38 (ea38 v).1 (ea38 v).2 = some (er38 y)) : Snd IP 38 (g38 G) := fEnt_ok to38_ok E1_ok hG
noncomputable def tr38 (x0 : List AV) (x1 : List AV) : DT B38 :=
 .br ((↑x0.length : Int) != (↑x1.length : Int))
  (.at (false))
  (.bi (pj 0 (l38_0 (x0, x1, 0))) (fun y0 =>
   .at (false))
   (.bi (pj 1 (l38_0 (x0, x1, 0))) (fun y0 =>
    .at (true))
    (.no)))
noncomputable def T38 : Tab := [(34, cloneE 3 24), (35, cloneE 3 32)]
theorem T38_ok : TabOk IP (T38) := ⟨sp34, sp35, trivial⟩
noncomputable def L38 : LTab := [(1003800, ll38_0)]
theorem L38_ok : LOk IP (L38) (loops F38.body) := LOk_of (l := [loopAt F38 0]) (by kernel_rfl) ⟨sel_one (by kernel_rfl) t38_0, trivial⟩
theorem b38 (v : A38) : bodyK (R := B38) IP (callT (T38)) (loopT (L38)) 38 F38 (ea38 v).1 (ea38 v).2 rd38 = (tr38 v.1 v.2).ev := by kernel_rfl
/--  -/
noncomputable def f38 (x0 : List AV) (x1 : List AV) : Option B38 := lock (tr38 x0 x1).ev
theorem f38_eq (x0 : List AV) (x1 : List AV) : f38 x0 x1 = (tr38 x0 x1).ev := lock_eq _
theorem c38 : ∀ v y, f38 v.1 v.2 = some y → callO IP 38 (ea38 v).1 (ea38 v).2 = some (er38 y) := fun v y h => fun_of T38_ok (by kernel_rfl) L38_ok rd38_ok (b38 v) ((f38_eq v.1 v.2).symm.trans h)
theorem s38 : Snd IP 38 (g38 f38) := g38_ok f38 c38

-- f20: 
abbrev A20 : Type := Int × Int × Int × Int × Int × Int × List UInt8 × List UInt8 × List AV × Int × Int × Int × Int × Int × Int × Int × List UInt8 × List UInt8 × List AV × Int
abbrev B20 : Type := Bool
def pa20 : PArgs := ⟨[.agg [.int .i64, .int .i64, .int .i64, .int .i64, .int .i64, .int .i64, .str, .str, .view 3, .int .u64], .agg [.int .i64, .int .i64, .int .i64, .int .i64, .int .i64, .int .i64, .str, .str, .view 3, .int .u64]], []⟩
def to20 (ls : List Lf) : Option A20 := eatI ls fun x0 ls => eatI ls fun x1 ls => eatI ls fun x2 ls => eatI ls fun x3 ls => eatI ls fun x4 ls => eatI ls fun x5 ls => eatS ls fun x6 ls => eatS ls fun x7 ls => eatL ls fun x8 ls => eatI ls fun x9 ls => eatI ls fun x10 ls => eatI ls fun x11 ls => eatI ls fun x12 ls => eatI ls fun x13 ls => eatI ls fun x14 ls => eatI ls fun x15 ls => eatS ls fun x16 ls => eatS ls fun x17 ls => eatL ls fun x18 ls => eatI ls fun x19 ls => eat0 ls (x0, x1, x2, x3, x4, x5, x6, x7, x8, x9, x10, x11, x12, x13, x14, x15, x16, x17, x18, x19)
def ea20 (v : A20) : List AV × Heap := ([.agg [.int .i64 v.1, .int .i64 v.2.1, .int .i64 v.2.2.1, .int .i64 v.2.2.2.1, .int .i64 v.2.2.2.2.1, .int .i64 v.2.2.2.2.2.1, .str v.2.2.2.2.2.2.1, .str v.2.2.2.2.2.2.2.1, .view 3 v.2.2.2.2.2.2.2.2.1, .int .u64 v.2.2.2.2.2.2.2.2.2.1], .agg [.int .i64 v.2.2.2.2.2.2.2.2.2.2.1, .int .i64 v.2.2.2.2.2.2.2.2.2.2.2.1, .int .i64 v.2.2.2.2.2.2.2.2.2.2.2.2.1, .int .i64 v.2.2.2.2.2.2.2.2.2.2.2.2.2.1, .int .i64 v.2.2.2.2.2.2.2.2.2.2.2.2.2.2.1, .int .i64 v.2.2.2.2.2.2.2.2.2.2.2.2.2.2.2.1, .str v.2.2.2.2.2.2.2.2.2.2.2.2.2.2.2.2.1, .str v.2.2.2.2.2.2.2.2.2.2.2.2.2.2.2.2.2.1, .view 3 v.2.2.2.2.2.2.2.2.2.2.2.2.2.2.2.2.2.2.1, .int .u64 v.2.2.2.2.2.2.2.2.2.2.2.2.2.2.2.2.2.2.2]], [])
def er20_0 (v : Bool) : Res × Heap := (.ret (.bool v), [])
def er20 : B20 → Res × Heap := er20_0
def en20 : Option B20 → List (Bool × Res × Heap) := (E1 er20_0)
def rd20 : Res → Heap → Option B20 := rDec ⟨false, .bool, []⟩ (fun ls => eatB ls fun x0 ls => eat0 ls x0) (rNo)
theorem to20_ok : ∀ ls v, to20 ls = some v → fArgs pa20 ls = ea20 v := by
  intro ls v h0
  unfold to20 at h0
  obtain ⟨x0, ls0, rfl, h1⟩ := eatI_some h0
  obtain ⟨x1, ls1, rfl, h2⟩ := eatI_some h1
  obtain ⟨x2, ls2, rfl, h3⟩ := eatI_some h2
  obtain ⟨x3, ls3, rfl, h4⟩ := eatI_some h3
  obtain ⟨x4, ls4, rfl, h5⟩ := eatI_some h4
  obtain ⟨x5, ls5, rfl, h6⟩ := eatI_some h5
  obtain ⟨x6, ls6, rfl, h7⟩ := eatS_some h6
  obtain ⟨x7, ls7, rfl, h8⟩ := eatS_some h7
  obtain ⟨x8, ls8, rfl, h9⟩ := eatL_some h8
  obtain ⟨x9, ls9, rfl, h10⟩ := eatI_some h9
  obtain ⟨x10, ls10, rfl, h11⟩ := eatI_some h10
  obtain ⟨x11, ls11, rfl, h12⟩ := eatI_some h11
  obtain ⟨x12, ls12, rfl, h13⟩ := eatI_some h12
  obtain ⟨x13, ls13, rfl, h14⟩ := eatI_some h13
  obtain ⟨x14, ls14, rfl, h15⟩ := eatI_some h14
  obtain ⟨x15, ls15, rfl, h16⟩ := eatI_some h15
  obtain ⟨x16, ls16, rfl, h17⟩ := eatS_some h16
  obtain ⟨x17, ls17, rfl, h18⟩ := eatS_some h17
  obtain ⟨x18, ls18, rfl, h19⟩ := eatL_some h18
  obtain ⟨x19, ls19, rfl, h20⟩ := eatI_some h19
  obtain ⟨rfl, rfl⟩ := eat0_some h20
  rfl
theorem rd20_ok : ∀ r h y, rd20 r h = some y → (r, h) = er20 y := rDec_ok (by
  intro ls v h0
  obtain ⟨x0, ls0, rfl, h1⟩ := eatB_some h0
  obtain ⟨rfl, rfl⟩ := eat0_some h1
  rfl
) (rNo_ok)
noncomputable def g20 (G : Int → Int → Int → Int → Int → Int → (List UInt8) → (List UInt8) → (List AV) → Int → Int → Int → Int → Int → Int → Int → (List UInt8) → (List UInt8) → (List AV) → Int → Option B20) : Ent := fEnt pa20 to20 (fun v => G v.1 v.2.1 v.2.2.1 v.2.2.2.1 v.2.2.2.2.1 v.2.2.2.2.2.1 v.2.2.2.2.2.2.1 v.2.2.2.2.2.2.2.1 v.2.2.2.2.2.2.2.2.1 v.2.2.2.2.2.2.2.2.2.1 v.2.2.2.2.2.2.2.2.2.2.1 v.2.2.2.2.2.2.2.2.2.2.2.1 v.2.2.2.2.2.2.2.2.2.2.2.2.1 v.2.2.2.2.2.2.2.2.2.2.2.2.2.1 v.2.2.2.2.2.2.2.2.2.2.2.2.2.2.1 v.2.2.2.2.2.2.2.2.2.2.2.2.2.2.2.1 v.2.2.2.2.2.2.2.2.2.2.2.2.2.2.2.2.1 v.2.2.2.2.2.2.2.2.2.2.2.2.2.2.2.2.2.1 v.2.2.2.2.2.2.2.2.2.2.2.2.2.2.2.2.2.2.1 v.2.2.2.2.2.2.2.2.2.2.2.2.2.2.2.2.2.2.2) en20
theorem g20_ok (G : Int → Int → Int → Int → Int → Int → (List UInt8) → (List UInt8) → (List AV) → Int → Int → Int → Int → Int → Int → Int → (List UInt8) → (List UInt8) → (List AV) → Int → Option B20) (hG : ∀ v y, G v.1 v.2.1 v.2.2.1 v.2.2.2.1 v.2.2.2.2.1 v.2.2.2.2.2.1 v.2.2.2.2.2.2.1 v.2.2.2.2.2.2.2.1 v.2.2.2.2.2.2.2.2.1 v.2.2.2.2.2.2.2.2.2.1 v.2.2.2.2.2.2.2.2.2.2.1 v.2.2.2.2.2.2.2.2.2.2.2.1 v.2.2.2.2.2.2.2.2.2.2.2.2.1 v.2.2.2.2.2.2.2.2.2.2.2.2.2.1 v.2.2.2.2.2.2.2.2.2.2.2.2.2.2.1 v.2.2.2.2.2.2.2.2.2.2.2.2.2.2.2.1 v.2.2.2.2.2.2.2.2.2.2.2.2.2.2.2.2.1 v.2.2.2.2.2.2.2.2.2.2.2.2.2.2.2.2.2.1 v.2.2.2.2.2.2.2.2.2.2.2.2.2.2.2.2.2.2.1 v.2.2.2.2.2.2.2.2.2.2.2.2.2.2.2.2.2.2.2 = some y → callO IP 20 (ea20 v).1 (ea20 v).2 = some (er20 y)) : Snd IP 20 (g20 G) := fEnt_ok to20_ok E1_ok hG
noncomputable def tr20 (x0 : Int) (x1 : Int) (x2 : Int) (x3 : Int) (x4 : Int) (x5 : Int) (x6 : List UInt8) (x7 : List UInt8) (x8 : List AV) (x9 : Int) (x10 : Int) (x11 : Int) (x12 : Int) (x13 : Int) (x14 : Int) (x15 : Int) (x16 : List UInt8) (x17 : List UInt8) (x18 : List AV) (x19 : Int) : DT B20 :=
 .bi (br (x0 == x10) (some (x1 == x11)) (some false)) (fun y0 =>
  .bi (br y0 (some (x2 == x12)) (some false)) (fun y1 =>
   .bi (br y1 (some (x3 == x13)) (some false)) (fun y2 =>
    .bi (br y2 (some (x4 == x14)) (some false)) (fun y3 =>
     .bi (br y3 (some (x5 == x15)) (some false)) (fun y4 =>
      .bi (br y4 (some (x6 == x16)) (some false)) (fun y5 =>
       .bi (br y5 (some (x7 == x17)) (some false)) (fun y6 =>
        .bi (br y6 (some (x9 == x19)) (some false)) (fun y7 =>
         .bi (br y7 (br (sm (f38 x8 x18)) (some (gv (f38 x8 x18))) none) (some false)) (fun y8 =>
          .at (y8))
          (.no))
         (.no))
        (.no))
       (.no))
      (.no))
     (.no))
    (.no))
   (.no))
  (.no)
noncomputable def T20 : Tab := [(34, cloneE 3 24), (35, cloneE 3 32), (38, g38 f38)]
theorem T20_ok : TabOk IP (T20) := ⟨sp34, sp35, s38, trivial⟩
noncomputable def L20 : LTab := []
theorem L20_ok : LOk IP (L20) (loops F20.body) := LOk_of (l := []) (by kernel_rfl) trivial
theorem b20 (v : A20) : bodyK (R := B20) IP (callT (T20)) (loopT (L20)) 20 F20 (ea20 v).1 (ea20 v).2 rd20 = (tr20 v.1 v.2.1 v.2.2.1 v.2.2.2.1 v.2.2.2.2.1 v.2.2.2.2.2.1 v.2.2.2.2.2.2.1 v.2.2.2.2.2.2.2.1 v.2.2.2.2.2.2.2.2.1 v.2.2.2.2.2.2.2.2.2.1 v.2.2.2.2.2.2.2.2.2.2.1 v.2.2.2.2.2.2.2.2.2.2.2.1 v.2.2.2.2.2.2.2.2.2.2.2.2.1 v.2.2.2.2.2.2.2.2.2.2.2.2.2.1 v.2.2.2.2.2.2.2.2.2.2.2.2.2.2.1 v.2.2.2.2.2.2.2.2.2.2.2.2.2.2.2.1 v.2.2.2.2.2.2.2.2.2.2.2.2.2.2.2.2.1 v.2.2.2.2.2.2.2.2.2.2.2.2.2.2.2.2.2.1 v.2.2.2.2.2.2.2.2.2.2.2.2.2.2.2.2.2.2.1 v.2.2.2.2.2.2.2.2.2.2.2.2.2.2.2.2.2.2.2).ev := by kernel_rfl
/--  -/
noncomputable def f20 (x0 : Int) (x1 : Int) (x2 : Int) (x3 : Int) (x4 : Int) (x5 : Int) (x6 : List UInt8) (x7 : List UInt8) (x8 : List AV) (x9 : Int) (x10 : Int) (x11 : Int) (x12 : Int) (x13 : Int) (x14 : Int) (x15 : Int) (x16 : List UInt8) (x17 : List UInt8) (x18 : List AV) (x19 : Int) : Option B20 := lock (tr20 x0 x1 x2 x3 x4 x5 x6 x7 x8 x9 x10 x11 x12 x13 x14 x15 x16 x17 x18 x19).ev
theorem f20_eq (x0 : Int) (x1 : Int) (x2 : Int) (x3 : Int) (x4 : Int) (x5 : Int) (x6 : List UInt8) (x7 : List UInt8) (x8 : List AV) (x9 : Int) (x10 : Int) (x11 : Int) (x12 : Int) (x13 : Int) (x14 : Int) (x15 : Int) (x16 : List UInt8) (x17 : List UInt8) (x18 : List AV) (x19 : Int) : f20 x0 x1 x2 x3 x4 x5 x6 x7 x8 x9 x10 x11 x12 x13 x14 x15 x16 x17 x18 x19 = (tr20 x0 x1 x2 x3 x4 x5 x6 x7 x8 x9 x10 x11 x12 x13 x14 x15 x16 x17 x18 x19).ev := lock_eq _
theorem c20 : ∀ v y, f20 v.1 v.2.1 v.2.2.1 v.2.2.2.1 v.2.2.2.2.1 v.2.2.2.2.2.1 v.2.2.2.2.2.2.1 v.2.2.2.2.2.2.2.1 v.2.2.2.2.2.2.2.2.1 v.2.2.2.2.2.2.2.2.2.1 v.2.2.2.2.2.2.2.2.2.2.1 v.2.2.2.2.2.2.2.2.2.2.2.1 v.2.2.2.2.2.2.2.2.2.2.2.2.1 v.2.2.2.2.2.2.2.2.2.2.2.2.2.1 v.2.2.2.2.2.2.2.2.2.2.2.2.2.2.1 v.2.2.2.2.2.2.2.2.2.2.2.2.2.2.2.1 v.2.2.2.2.2.2.2.2.2.2.2.2.2.2.2.2.1 v.2.2.2.2.2.2.2.2.2.2.2.2.2.2.2.2.2.1 v.2.2.2.2.2.2.2.2.2.2.2.2.2.2.2.2.2.2.1 v.2.2.2.2.2.2.2.2.2.2.2.2.2.2.2.2.2.2.2 = some y → callO IP 20 (ea20 v).1 (ea20 v).2 = some (er20 y) := fun v y h => fun_of T20_ok (by kernel_rfl) L20_ok rd20_ok (b20 v) ((f20_eq v.1 v.2.1 v.2.2.1 v.2.2.2.1 v.2.2.2.2.1 v.2.2.2.2.2.1 v.2.2.2.2.2.2.1 v.2.2.2.2.2.2.2.1 v.2.2.2.2.2.2.2.2.1 v.2.2.2.2.2.2.2.2.2.1 v.2.2.2.2.2.2.2.2.2.2.1 v.2.2.2.2.2.2.2.2.2.2.2.1 v.2.2.2.2.2.2.2.2.2.2.2.2.1 v.2.2.2.2.2.2.2.2.2.2.2.2.2.1 v.2.2.2.2.2.2.2.2.2.2.2.2.2.2.1 v.2.2.2.2.2.2.2.2.2.2.2.2.2.2.2.1 v.2.2.2.2.2.2.2.2.2.2.2.2.2.2.2.2.1 v.2.2.2.2.2.2.2.2.2.2.2.2.2.2.2.2.2.1 v.2.2.2.2.2.2.2.2.2.2.2.2.2.2.2.2.2.2.1 v.2.2.2.2.2.2.2.2.2.2.2.2.2.2.2.2.2.2.2).symm.trans h)
theorem s20 : Snd IP 20 (g20 f20) := g20_ok f20 c20

-- l18_0: loop 0 of function 18
abbrev TT18_0 : Type := List AV × List AV × Int
def h18_0_0 (v : List AV × List AV × Int) : St := ⟨[(1001800, .junk), (0, .view 10 v.1), (1, .view 10 v.2.1), (5, .int .i64 v.2.2)], [], 0, 0⟩
def h18_0 : TT18_0 → St := (fun v => h18_0_0 v)
def d18_0 : St → Option TT18_0 := sDec ⟨[(1001800, .junk), (0, .view 10), (1, .view 10), (5, .int .i64)], [], 0, 0⟩ (fun ls => eatL ls fun x0 ls => eatL ls fun x1 ls => eatI ls fun x2 ls => eat0 ls (x0, x1, x2)) (sNo)
theorem d18_0_ok : ∀ s v, d18_0 s = some v → s = h18_0 v := sDec_ok (by
  intro ls v h0
  obtain ⟨x0, ls0, rfl, h1⟩ := eatL_some h0
  obtain ⟨x1, ls1, rfl, h2⟩ := eatL_some h1
  obtain ⟨x2, ls2, rfl, h3⟩ := eatI_some h2
  obtain ⟨rfl, rfl⟩ := eat0_some h3
  rfl
) (sNo_ok)
theorem n18_0_0 (v : List AV × List AV × Int) : norm (hk (loopAt F18 0).1) (h18_0_0 v) = some (h18_0_0 v) := by kernel_rfl
noncomputable def x18_0_0 (x0 : List AV) (x1 : List AV) (x2 : Int) : X × St := (X.ret, { tm := [(4, AV.bool false)], hp := [], nx := 0, k := 0 })
noncomputable def x18_0_1 (x0 : List AV) (x1 : List AV) (x2 : Int) : X × St := (X.exit 0, { tm := [(4, AV.junk)], hp := [], nx := 0, k := 0 })
noncomputable def x18_0 : Nat → TT18_0 → X × St := fun j w => match j with
  | 0 => x18_0_0 w.1 w.2.1 w.2.2
  | 1 => x18_0_1 w.1 w.2.1 w.2.2
  | _ => (.ret, ⟨[], [], 0, 0⟩)
theorem e18_0 : ∀ j v, outB (x18_0 j v).1 = true := fun j v => match j with
  | 0 => rfl
  | 1 => rfl
  | _ + 2 => rfl
noncomputable def st18_0_0 (x0 : List AV) (x1 : List AV) (x2 : Int) : DT (Rd TT18_0) :=
 .br (decide (x2 < (↑x0.length : Int)))
  (.br (okAt [CS.int IntKind.i64, CS.int IntKind.i64, CS.int IntKind.i64, CS.int IntKind.i64, CS.int IntKind.i64, CS.int IntKind.i64, CS.str, CS.str, CS.slice 3, CS.int IntKind.u64] x0 x2)
   (.br (okAt [CS.int IntKind.i64, CS.int IntKind.i64, CS.int IntKind.i64, CS.int IntKind.i64, CS.int IntKind.i64, CS.int IntKind.i64, CS.str, CS.str, CS.slice 3, CS.int IntKind.u64] x1 x2)
    (.bi (f20 (intOf (cellAt x0 x2 0)) (intOf (cellAt x0 x2 1)) (intOf (cellAt x0 x2 2)) (intOf (cellAt x0 x2 3)) (intOf (cellAt x0 x2 4)) (intOf (cellAt x0 x2 5)) (strOf (cellAt x0 x2 6))
        (strOf (cellAt x0 x2 7)) (viewOf (cellAt x0 x2 8)) (intOf (cellAt x0 x2 9)) (intOf (cellAt x1 x2 0)) (intOf (cellAt x1 x2 1)) (intOf (cellAt x1 x2 2)) (intOf (cellAt x1 x2 3))
        (intOf (cellAt x1 x2 4)) (intOf (cellAt x1 x2 5)) (strOf (cellAt x1 x2 6)) (strOf (cellAt x1 x2 7)) (viewOf (cellAt x1 x2 8)) (intOf (cellAt x1 x2 9))) (fun y0 =>
     .br (!y0) (.at (.done 0)) (.at (.next ((x0, x1, IntKind.i64.wrap (x2 + 1))))))
     (.no))
    (.no))
   (.no))
  (.at (.done 1))
noncomputable def st18_0 : TT18_0 → DT (Rd TT18_0) := (fun v => st18_0_0 v.1 v.2.1 v.2.2)
noncomputable def T18_0 : Tab := [(34, cloneE 3 24), (35, cloneE 3 32), (20, g20 f20)]
theorem T18_0_ok : TabOk IP (T18_0) := ⟨sp34, sp35, s20, trivial⟩
noncomputable def L18_0 : LTab := []
theorem L18_0_ok : LOk IP (L18_0) (loops (loopAt F18 0).2) := LOk_of (l := []) (by kernel_rfl) trivial
theorem b18_0_0 (v : List AV × List AV × Int) : execK (R := Rx TT18_0) IP (callT (T18_0)) (loopT (L18_0)) (loopAt F18 0).2 (h18_0_0 v) (endK (loopAt F18 0).1 d18_0) = (cvD (fun j => x18_0 j v) (st18_0_0 v.1 v.2.1 v.2.2)).ev := by kernel_rfl
noncomputable def l18_0 (v : TT18_0) : Option (Nat × TT18_0) := lock (iterO (fun v => (st18_0 v).ev) v)
theorem l18_0_eq (v : TT18_0) : l18_0 v = iterO (fun v => (st18_0 v).ev) v := lock_eq _
noncomputable def ll18_0 : LEnt := lEnt d18_0 (l18_0) (x18_0) 2
theorem t18_0 : Go.Eng.Told IP (loopAt F18 0).1 (loopAt F18 0).2 (ll18_0) := loop_of (st := st18_0) (T18_0_ok) (L18_0_ok) d18_0_ok (fun v => n18_0_0 v) (e18_0) (fun v => b18_0_0 v) (l18_0_eq)

-- f18: 
abbrev A18 : Type := List AV × List AV
abbrev B18 : Type := Bool
def pa18 : PArgs := ⟨[.view 10, .view 10], []⟩
def to18 (ls : List Lf) : Option A18 := eatL ls fun x0 ls => eatL ls fun x1 ls => eat0 ls (x0, x1)
def ea18 (v : A18) : List AV × Heap := ([.view 10 v.1, .view 10 v.2], [])
def er18_0 (v : Bool) : Res × Heap := (.ret (.bool v), [])
def er18 : B18 → Res × Heap := er18_0
def en18 : Option B18 → List (Bool × Res × Heap) := (E1 er18_0)
def rd18 : Res → Heap → Option B18 := rDec ⟨false, .bool, []⟩ (fun ls => eatB ls fun x0 ls => eat0 ls x0) (rNo)
theorem to18_ok : ∀ ls v, to18 ls = some v → fArgs pa18 ls = ea18 v := by
  intro ls v h0
  unfold to18 at h0
  obtain ⟨x0, ls0, rfl, h1⟩ := eatL_some h0
  obtain ⟨x1, ls1, rfl, h2⟩ := eatL_some h1
  obtain ⟨rfl, rfl⟩ := eat0_some h2
  rfl
theorem rd18_ok : ∀ r h y, rd18 r h = some y → (r, h) = er18 y := rDec_ok (by
  intro ls v h0
  obtain ⟨x0, ls0, rfl, h1⟩ := eatB_some h0
  obtain ⟨rfl, rfl⟩ := eat0_some h1
  rfl
) (rNo_ok)
noncomputable def g18 (G : (List AV) → (List AV) → Option B18) : Ent := fEnt pa18 to18 (fun v => G v.1 v.2) en18
theorem g18_ok (G : (List AV) → (List AV) → Option B18) (hG : ∀ v y, G v.1 v.2 = some y → callO IP 18 (ea18 v).1 (ea18 v).2 = some (er18 y)) : Snd IP 18 (g18 G) := fEnt_ok to18_ok E1_ok hG
noncomputable def tr18 (x0 : List AV) (x1 : List AV) : DT B18 :=
 .br ((↑x0.length : Int) != (↑x1.length : Int))
  (.at (false))
  (.bi (pj 0 (l18_0 (x0, x1, 0))) (fun y0 =>
   .at (false))
   (.bi (pj 1 (l18_0 (x0, x1, 0))) (fun y0 =>
    .at (true))
    (.no)))
noncomputable def T18 : Tab := [(34, cloneE 3 24), (35, cloneE 3 32)]
theorem T18_ok : TabOk IP (T18) := ⟨sp34, sp35, trivial⟩
noncomputable def L18 : LTab := [(1001800, ll18_0)]
theorem L18_ok : LOk IP (L18) (loops F18.body) := LOk_of (l := [loopAt F18 0]) (by kernel_rfl) ⟨sel_one (by kernel_rfl) t18_0, trivial⟩
theorem b18 (v : A18) : bodyK (R := B18) IP (callT (T18)) (loopT (L18)) 18 F18 (ea18 v).1 (ea18 v).2 rd18 = (tr18 v.1 v.2).ev := by kernel_rfl
/--  -/
noncomputable def f18 (x0 : List AV) (x1 : List AV) : Option B18 := lock (tr18 x0 x1).ev
theorem f18_eq (x0 : List AV) (x1 : List AV) : f18 x0 x1 = (tr18 x0 x1).ev := lock_eq _
theorem c18 : ∀ v y, f18 v.1 v.2 = some y → callO IP 18 (ea18 v).1 (ea18 v).2 = some (er18 y) := fun v y h => fun_of T18_ok (by kernel_rfl) L18_ok rd18_ok (b18 v) ((f18_eq v.1 v.2).symm.trans h)
theorem s18 : Snd IP 18 (g18 f18) := g18_ok f18 c18

end Go.Proofs.H53

/- Functions over plain data. Printed by a program of mine. -/
import Derived.Test.YtpoebijgpbaccaaD53_4
import Derived.KernelRfl
set_option linter.unusedVariables false
set_option linter.unusedSimpArgs false
set_option linter.unnecessarySimpa false
namespace Go.Proofs.H53
open Go Go.Eng
set_option maxRecDepth 100000

-- l16_0: loop 0 of function 16
abbrev TT16_0 : Type := (Int × List AV × Int × Int × List AV × List AV × List AV × Int × Int × Int × Int × Int × Int × Int × Int × Int × Int × Int × Int × Int × Int × List AV × List AV × List AV × List AV × List AV) ⊕ (Int × List AV × Int × Int × List AV × List AV × List AV × Int × Int × Int × Int × Int × Int × Int × Int × Int × Int × Int × Int × Int × Int × List AV × List AV × List AV × List AV × List AV × List AV)
def h16_0_0 (v : Int × List AV × Int × Int × List AV × List AV × List AV × Int × Int × Int × Int × Int × Int × Int × Int × Int × Int × Int × Int × Int × Int × List AV × List AV × List AV × List AV × List AV) : St := ⟨[(1001600, .junk), (2, .int .i64 v.1), (3, .ref 0 0 0), (8, .nils 10), (16, .view 3 v.2.1), (17, .int .i64 v.2.2.1), (18, .int .i64 v.2.2.2.1)], [(0, .box [.view 2 v.2.2.2.2.1, .view 3 v.2.2.2.2.2.1, .view 4 v.2.2.2.2.2.2.1, .int .i64 v.2.2.2.2.2.2.2.1, .int .i64 v.2.2.2.2.2.2.2.2.1, .int .i64 v.2.2.2.2.2.2.2.2.2.1, .int .i64 v.2.2.2.2.2.2.2.2.2.2.1, .int .i64 v.2.2.2.2.2.2.2.2.2.2.2.1, .int .i64 v.2.2.2.2.2.2.2.2.2.2.2.2.1, .int .i64 v.2.2.2.2.2.2.2.2.2.2.2.2.2.1, .int .i64 v.2.2.2.2.2.2.2.2.2.2.2.2.2.2.1, .int .i64 v.2.2.2.2.2.2.2.2.2.2.2.2.2.2.2.1, .int .i64 v.2.2.2.2.2.2.2.2.2.2.2.2.2.2.2.2.1, .int .i64 v.2.2.2.2.2.2.2.2.2.2.2.2.2.2.2.2.2.1, .int .i64 v.2.2.2.2.2.2.2.2.2.2.2.2.2.2.2.2.2.2.1, .int .i64 v.2.2.2.2.2.2.2.2.2.2.2.2.2.2.2.2.2.2.2.1, .int .i64 v.2.2.2.2.2.2.2.2.2.2.2.2.2.2.2.2.2.2.2.2.1, .view 19 v.2.2.2.2.2.2.2.2.2.2.2.2.2.2.2.2.2.2.2.2.2.1, .view 7 v.2.2.2.2.2.2.2.2.2.2.2.2.2.2.2.2.2.2.2.2.2.2.1, .view 10 v.2.2.2.2.2.2.2.2.2.2.2.2.2.2.2.2.2.2.2.2.2.2.2.1, .view 6 v.2.2.2.2.2.2.2.2.2.2.2.2.2.2.2.2.2.2.2.2.2.2.2.2.1, .view 7 v.2.2.2.2.2.2.2.2.2.2.2.2.2.2.2.2.2.2.2.2.2.2.2.2.2] false)], 1, 0⟩
def h16_0_1 (v : Int × List AV × Int × Int × List AV × List AV × List AV × Int × Int × Int × Int × Int × Int × Int × Int × Int × Int × Int × Int × Int × Int × List AV × List AV × List AV × List AV × List AV × List AV) : St := ⟨[(1001600, .junk), (2, .int .i64 v.1), (3, .ref 0 0 0), (8, .own 1 0 none), (16, .view 3 v.2.1), (17, .int .i64 v.2.2.1), (18, .int .i64 v.2.2.2.1)], [(0, .box [.view 2 v.2.2.2.2.1, .view 3 v.2.2.2.2.2.1, .view 4 v.2.2.2.2.2.2.1, .int .i64 v.2.2.2.2.2.2.2.1, .int .i64 v.2.2.2.2.2.2.2.2.1, .int .i64 v.2.2.2.2.2.2.2.2.2.1, .int .i64 v.2.2.2.2.2.2.2.2.2.2.1, .int .i64 v.2.2.2.2.2.2.2.2.2.2.2.1, .int .i64 v.2.2.2.2.2.2.2.2.2.2.2.2.1, .int .i64 v.2.2.2.2.2.2.2.2.2.2.2.2.2.1, .int .i64 v.2.2.2.2.2.2.2.2.2.2.2.2.2.2.1, .int .i64 v.2.2.2.2.2.2.2.2.2.2.2.2.2.2.2.1, .int .i64 v.2.2.2.2.2.2.2.2.2.2.2.2.2.2.2.2.1, .int .i64 v.2.2.2.2.2.2.2.2.2.2.2.2.2.2.2.2.2.1, .int .i64 v.2.2.2.2.2.2.2.2.2.2.2.2.2.2.2.2.2.2.1, .int .i64 v.2.2.2.2.2.2.2.2.2.2.2.2.2.2.2.2.2.2.2.1, .int .i64 v.2.2.2.2.2.2.2.2.2.2.2.2.2.2.2.2.2.2.2.2.1, .view 19 v.2.2.2.2.2.2.2.2.2.2.2.2.2.2.2.2.2.2.2.2.2.1, .view 7 v.2.2.2.2.2.2.2.2.2.2.2.2.2.2.2.2.2.2.2.2.2.2.1, .view 10 v.2.2.2.2.2.2.2.2.2.2.2.2.2.2.2.2.2.2.2.2.2.2.2.1, .view 6 v.2.2.2.2.2.2.2.2.2.2.2.2.2.2.2.2.2.2.2.2.2.2.2.2.1, .view 7 v.2.2.2.2.2.2.2.2.2.2.2.2.2.2.2.2.2.2.2.2.2.2.2.2.2.1] false), (1, .arr 10 v.2.2.2.2.2.2.2.2.2.2.2.2.2.2.2.2.2.2.2.2.2.2.2.2.2.2 false)], 2, 0⟩
def h16_0 : TT16_0 → St := (Sum.elim (fun v => h16_0_0 v) (fun v => h16_0_1 v))
def d16_0 : St → Option TT16_0 := sDec ⟨[(1001600, .junk), (2, .int .i64), (3, .ref 0 0 0), (8, .nils 10), (16, .view 3), (17, .int .i64), (18, .int .i64)], [(0, .box [.view 2, .view 3, .view 4, .int .i64, .int .i64, .int .i64, .int .i64, .int .i64, .int .i64, .int .i64, .int .i64, .int .i64, .int .i64, .int .i64, .int .i64, .int .i64, .int .i64, .view 19, .view 7, .view 10, .view 6, .view 7] false)], 1, 0⟩ (fun ls => eatI ls fun x0 ls => eatL ls fun x1 ls => eatI ls fun x2 ls => eatI ls fun x3 ls => eatL ls fun x4 ls => eatL ls fun x5 ls => eatL ls fun x6 ls => eatI ls fun x7 ls => eatI ls fun x8 ls => eatI ls fun x9 ls => eatI ls fun x10 ls => eatI ls fun x11 ls => eatI ls fun x12 ls => eatI ls fun x13 ls => eatI ls fun x14 ls => eatI ls fun x15 ls => eatI ls fun x16 ls => eatI ls fun x17 ls => eatI ls fun x18 ls => eatI ls fun x19 ls => eatI ls fun x20 ls => eatL ls fun x21 ls => eatL ls fun x22 ls => eatL ls fun x23 ls => eatL ls fun x24 ls => eatL ls fun x25 ls => eat0 ls (.inl (x0, x1, x2, x3, x4, x5, x6, x7, x8, x9, x10, x11, x12, x13, x14, x15, x16, x17, x18, x19, x20, x21, x22, x23, x24, x25))) (sDec ⟨[(1001600, .junk), (2, .int .i64), (3, .ref 0 0 0), (8, .own 1 0), (16, .view 3), (17, .int .i64), (18, .int .i64)], [(0, .box [.view 2, .view 3, .view 4, .int .i64, .int .i64, .int .i64, .int .i64, .int .i64, .int .i64, .int .i64, .int .i64, .int .i64, .int .i64, .int .i64, .int .i64, .int .i64, .int .i64, .view 19, .view 7, .view 10, .view 6, .view 7] false), (1, .arr 10 false)], 2, 0⟩ (fun ls => eatI ls fun x0 ls => eatL ls fun x1 ls => eatI ls fun x2 ls => eatI ls fun x3 ls => eatL ls fun x4 ls => eatL ls fun x5 ls => eatL ls fun x6 ls => eatI ls fun x7 ls => eatI ls fun x8 ls => eatI ls fun x9 ls => eatI ls fun x10 ls => eatI ls fun x11 ls => eatI ls fun x12 ls => eatI ls fun x13 ls => eatI ls fun x14 ls => eatI ls fun x15 ls => eatI ls fun x16 ls => eatI ls fun x17 ls => eatI ls fun x18 ls => eatI ls fun x19 ls => eatI ls fun x20 ls => eatL ls fun x21 ls => eatL ls fun x22 ls => eatL ls fun x23 ls => eatL ls fun x24 ls => eatL ls fun x25 ls => eatL ls fun x26 ls => eat0 ls (.inr (x0, x1, x2, x3, x4, x5, x6, x7, x8, x9, x10, x11, x12, x13, x14, x15, x16, x17, x18, x19, x20, x21, x22, x23, x24, x25, x26))) (sNo))
theorem d16_0_ok : ∀ s v, d16_0 s = some v → s = h16_0 v := sDec_ok (by
  intro ls v h0
  obtain ⟨x0, ls0, rfl, h1⟩ := eatI_some h0
  obtain ⟨x1, ls1, rfl, h2⟩ := eatL_some h1
  obtain ⟨x2, ls2, rfl, h3⟩ := eatI_some h2
  obtain ⟨x3, ls3, rfl, h4⟩ := eatI_some h3
  obtain ⟨x4, ls4, rfl, h5⟩ := eatL_some h4
  obtain ⟨x5, ls5, rfl, h6⟩ := eatL_some h5
  obtain ⟨x6, ls6, rfl, h7⟩ := eatL_some h6
  obtain ⟨x7, ls7, rfl, h8⟩ := eatI_some h7
  obtain ⟨x8, ls8, rfl, h9⟩ := eatI_some h8
  obtain ⟨x9, ls9, rfl, h10⟩ := eatI_some h9
  obtain ⟨x10, ls10, rfl, h11⟩ := eatI_some h10
  obtain ⟨x11, ls11, rfl, h12⟩ := eatI_some h11
  obtain ⟨x12, ls12, rfl, h13⟩ := eatI_some h12
  obtain ⟨x13, ls13, rfl, h14⟩ := eatI_some h13
  obtain ⟨x14, ls14, rfl, h15⟩ := eatI_some h14
  obtain ⟨x15, ls15, rfl, h16⟩ := eatI_some h15
  obtain ⟨x16, ls16, rfl, h17⟩ := eatI_some h16
  obtain ⟨x17, ls17, rfl, h18⟩ := eatI_some h17
  obtain ⟨x18, ls18, rfl, h19⟩ := eatI_some h18
  obtain ⟨x19, ls19, rfl, h20⟩ := eatI_some h19
  obtain ⟨x20, ls20, rfl, h21⟩ := eatI_some h20
  obtain ⟨x21, ls21, rfl, h22⟩ := eatL_some h21
  obtain ⟨x22, ls22, rfl, h23⟩ := eatL_some h22
  obtain ⟨x23, ls23, rfl, h24⟩ := eatL_some h23
  obtain ⟨x24, ls24, rfl, h25⟩ := eatL_some h24
  obtain ⟨x25, ls25, rfl, h26⟩ := eatL_some h25
  obtain ⟨rfl, rfl⟩ := eat0_some h26
  rfl
) (sDec_ok (by
  intro ls v h0
  obtain ⟨x0, ls0, rfl, h1⟩ := eatI_some h0
  obtain ⟨x1, ls1, rfl, h2⟩ := eatL_some h1
  obtain ⟨x2, ls2, rfl, h3⟩ := eatI_some h2
  obtain ⟨x3, ls3, rfl, h4⟩ := eatI_some h3
  obtain ⟨x4, ls4, rfl, h5⟩ := eatL_some h4
  obtain ⟨x5, ls5, rfl, h6⟩ := eatL_some h5
  obtain ⟨x6, ls6, rfl, h7⟩ := eatL_some h6
  obtain ⟨x7, ls7, rfl, h8⟩ := eatI_some h7
  obtain ⟨x8, ls8, rfl, h9⟩ := eatI_some h8
  obtain ⟨x9, ls9, rfl, h10⟩ := eatI_some h9
  obtain ⟨x10, ls10, rfl, h11⟩ := eatI_some h10
  obtain ⟨x11, ls11, rfl, h12⟩ := eatI_some h11
  obtain ⟨x12, ls12, rfl, h13⟩ := eatI_some h12
  obtain ⟨x13, ls13, rfl, h14⟩ := eatI_some h13
  obtain ⟨x14, ls14, rfl, h15⟩ := eatI_some h14
  obtain ⟨x15, ls15, rfl, h16⟩ := eatI_some h15
  obtain ⟨x16, ls16, rfl, h17⟩ := eatI_some h16
  obtain ⟨x17, ls17, rfl, h18⟩ := eatI_some h17
  obtain ⟨x18, ls18, rfl, h19⟩ := eatI_some h18
  obtain ⟨x19, ls19, rfl, h20⟩ := eatI_some h19
  obtain ⟨x20, ls20, rfl, h21⟩ := eatI_some h20
  obtain ⟨x21, ls21, rfl, h22⟩ := eatL_some h21
  obtain ⟨x22, ls22, rfl, h23⟩ := eatL_some h22
  obtain ⟨x23, ls23, rfl, h24⟩ := eatL_some h23
  obtain ⟨x24, ls24, rfl, h25⟩ := eatL_some h24
  obtain ⟨x25, ls25, rfl, h26⟩ := eatL_some h25
  obtain ⟨x26, ls26, rfl, h27⟩ := eatL_some h26
  obtain ⟨rfl, rfl⟩ := eat0_some h27
  rfl
) (sNo_ok))
theorem n16_0_0 (v : Int × List AV × Int × Int × List AV × List AV × List AV × Int × Int × Int × Int × Int × Int × Int × Int × Int × Int × Int × Int × Int × Int × List AV × List AV × List AV × List AV × List AV) : norm (hk (loopAt F16 0).1) (h16_0_0 v) = some (h16_0_0 v) := by kernel_rfl
theorem n16_0_1 (v : Int × List AV × Int × Int × List AV × List AV × List AV × Int × Int × Int × Int × Int × Int × Int × Int × Int × Int × Int × Int × Int × Int × List AV × List AV × List AV × List AV × List AV × List AV) : norm (hk (loopAt F16 0).1) (h16_0_1 v) = some (h16_0_1 v) := by kernel_rfl
noncomputable def x16_0_0 (x0 : Int) (x1 : List AV) (x2 : Int) (x3 : Int) (x4 : List AV) (x5 : List AV) (x6 : List AV) (x7 : Int) (x8 : Int) (x9 : Int) (x10 : Int) (x11 : Int) (x12 : Int) (x13 : Int) (x14 : Int) (x15 : Int) (x16 : Int) (x17 : Int) (x18 : Int) (x19 : Int) (x20 : Int) (x21 : List AV) (x22 : List AV) (x23 : List AV) (x24 : List AV) (x25 : List AV) : X × St := (X.ret, { tm := [(6, AV.nils { sz := 10, kd := NKd.nil }), (7, AV.int IntKind.i64 11), (8, AV.nils { sz := 10, kd := NKd.nil })], hp := [], nx := 0, k := 0 })
noncomputable def x16_0_1 (x0 : Int) (x1 : List AV) (x2 : Int) (x3 : Int) (x4 : List AV) (x5 : List AV) (x6 : List AV) (x7 : Int) (x8 : Int) (x9 : Int) (x10 : Int) (x11 : Int) (x12 : Int) (x13 : Int) (x14 : Int) (x15 : Int) (x16 : Int) (x17 : Int) (x18 : Int) (x19 : Int) (x20 : Int) (x21 : List AV) (x22 : List AV) (x23 : List AV) (x24 : List AV) (x25 : List AV) : X × St := (X.exit 0, { tm := [(6, AV.junk), (7, AV.junk), (8, AV.nils { sz := 10, kd := NKd.nil })], hp := [], nx := 0, k := 0 })
noncomputable def x16_0_2 (x0 : Int) (x1 : List AV) (x2 : Int) (x3 : Int) (x4 : List AV) (x5 : List AV) (x6 : List AV) (x7 : Int) (x8 : Int) (x9 : Int) (x10 : Int) (x11 : Int) (x12 : Int) (x13 : Int) (x14 : Int) (x15 : Int) (x16 : Int) (x17 : Int) (x18 : Int) (x19 : Int) (x20 : Int) (x21 : List AV) (x22 : List AV) (x23 : List AV) (x24 : List AV) (x25 : List AV) (x26 : List AV) : X × St := (X.ret, { tm := [(6, AV.nils { sz := 10, kd := NKd.nil }), (7, AV.int IntKind.i64 11), (8, AV.own 0 0 none)], hp := [(0, Blk.arr 10 x26 false)], nx := 1, k := 0 })
noncomputable def x16_0_3 (x0 : Int) (x1 : List AV) (x2 : Int) (x3 : Int) (x4 : List AV) (x5 : List AV) (x6 : List AV) (x7 : Int) (x8 : Int) (x9 : Int) (x10 : Int) (x11 : Int) (x12 : Int) (x13 : Int) (x14 : Int) (x15 : Int) (x16 : Int) (x17 : Int) (x18 : Int) (x19 : Int) (x20 : Int) (x21 : List AV) (x22 : List AV) (x23 : List AV) (x24 : List AV) (x25 : List AV) (x26 : List AV) : X × St := (X.exit 0, { tm := [(6, AV.junk), (7, AV.junk), (8, AV.own 0 0 none)], hp := [(0, Blk.arr 10 x26 false)], nx := 1, k := 0 })
noncomputable def x16_0 : Nat → TT16_0 → X × St := fun j w => match j with
  | 0 => x16_0_0 (sl w).1 (sl w).2.1 (sl w).2.2.1 (sl w).2.2.2.1 (sl w).2.2.2.2.1 (sl w).2.2.2.2.2.1 (sl w).2.2.2.2.2.2.1 (sl w).2.2.2.2.2.2.2.1 (sl w).2.2.2.2.2.2.2.2.1 (sl w).2.2.2.2.2.2.2.2.2.1 (sl w).2.2.2.2.2.2.2.2.2.2.1 (sl w).2.2.2.2.2.2.2.2.2.2.2.1 (sl w).2.2.2.2.2.2.2.2.2.2.2.2.1 (sl w).2.2.2.2.2.2.2.2.2.2.2.2.2.1 (sl w).2.2.2.2.2.2.2.2.2.2.2.2.2.2.1 (sl w).2.2.2.2.2.2.2.2.2.2.2.2.2.2.2.1 (sl w).2.2.2.2.2.2.2.2.2.2.2.2.2.2.2.2.1 (sl w).2.2.2.2.2.2.2.2.2.2.2.2.2.2.2.2.2.1 (sl w).2.2.2.2.2.2.2.2.2.2.2.2.2.2.2.2.2.2.1 (sl w).2.2.2.2.2.2.2.2.2.2.2.2.2.2.2.2.2.2.2.1 (sl w).2.2.2.2.2.2.2.2.2.2.2.2.2.2.2.2.2.2.2.2.1 (sl w).2.2.2.2.2.2.2.2.2.2.2.2.2.2.2.2.2.2.2.2.2.1 (sl w).2.2.2.2.2.2.2.2.2.2.2.2.2.2.2.2.2.2.2.2.2.2.1 (sl w).2.2.2.2.2.2.2.2.2.2.2.2.2.2.2.2.2.2.2.2.2.2.2.1 (sl w).2.2.2.2.2.2.2.2.2.2.2.2.2.2.2.2.2.2.2.2.2.2.2.2.1 (sl w).2.2.2.2.2.2.2.2.2.2.2.2.2.2.2.2.2.2.2.2.2.2.2.2.2
  | 1 => x16_0_1 (sl w).1 (sl w).2.1 (sl w).2.2.1 (sl w).2.2.2.1 (sl w).2.2.2.2.1 (sl w).2.2.2.2.2.1 (sl w).2.2.2.2.2.2.1 (sl w).2.2.2.2.2.2.2.1 (sl w).2.2.2.2.2.2.2.2.1 (sl w).2.2.2.2.2.2.2.2.2.1 (sl w).2.2.2.2.2.2.2.2.2.2.1 (sl w).2.2.2.2.2.2.2.2.2.2.2.1 (sl w).2.2.2.2.2.2.2.2.2.2.2.2.1 (sl w).2.2.2.2.2.2.2.2.2.2.2.2.2.1 (sl w).2.2.2.2.2.2.2.2.2.2.2.2.2.2.1 (sl w).2.2.2.2.2.2.2.2.2.2.2.2.2.2.2.1 (sl w).2.2.2.2.2.2.2.2.2.2.2.2.2.2.2.2.1 (sl w).2.2.2.2.2.2.2.2.2.2.2.2.2.2.2.2.2.1 (sl w).2.2.2.2.2.2.2.2.2.2.2.2.2.2.2.2.2.2.1 (sl w).2.2.2.2.2.2.2.2.2.2.2.2.2.2.2.2.2.2.2.1 (sl w).2.2.2.2.2.2.2.2.2.2.2.2.2.2.2.2.2.2.2.2.1 (sl w).2.2.2.2.2.2.2.2.2.2.2.2.2.2.2.2.2.2.2.2.2.1 (sl w).2.2.2.2.2.2.2.2.2.2.2.2.2.2.2.2.2.2.2.2.2.2.1 (sl w).2.2.2.2.2.2.2.2.2.2.2.2.2.2.2.2.2.2.2.2.2.2.2.1 (sl w).2.2.2.2.2.2.2.2.2.2.2.2.2.2.2.2.2.2.2.2.2.2.2.2.1 (sl w).2.2.2.2.2.2.2.2.2.2.2.2.2.2.2.2.2.2.2.2.2.2.2.2.2
  | 2 => x16_0_2 (sr w).1 (sr w).2.1 (sr w).2.2.1 (sr w).2.2.2.1 (sr w).2.2.2.2.1 (sr w).2.2.2.2.2.1 (sr w).2.2.2.2.2.2.1 (sr w).2.2.2.2.2.2.2.1 (sr w).2.2.2.2.2.2.2.2.1 (sr w).2.2.2.2.2.2.2.2.2.1 (sr w).2.2.2.2.2.2.2.2.2.2.1 (sr w).2.2.2.2.2.2.2.2.2.2.2.1 (sr w).2.2.2.2.2.2.2.2.2.2.2.2.1 (sr w).2.2.2.2.2.2.2.2.2.2.2.2.2.1 (sr w).2.2.2.2.2.2.2.2.2.2.2.2.2.2.1 (sr w).2.2.2.2.2.2.2.2.2.2.2.2.2.2.2.1 (sr w).2.2.2.2.2.2.2.2.2.2.2.2.2.2.2.2.1 (sr w).2.2.2.2.2.2.2.2.2.2.2.2.2.2.2.2.2.1 (sr w).2.2.2.2.2.2.2.2.2.2.2.2.2.2.2.2.2.2.1 (sr w).2.2.2.2.2.2.2.2.2.2.2.2.2.2.2.2.2.2.2.1 (sr w).2.2.2.2.2.2.2.2.2.2.2.2.2.2.2.2.2.2.2.2.1 (sr w).2.2.2.2.2.2.2.2.2.2.2.2.2.2.2.2.2.2.2.2.2.1 (sr w).2.2.2.2.2.2.2.2.2.2.2.2.2.2.2.2.2.2.2.2.2.2.1 (sr w).2.2.2.2.2.2.2.2.2.2.2.2.2.2.2.2.2.2.2.2.2.2.2.1 (sr w).2.2.2.2.2.2.2.2.2.2.2.2.2.2.2.2.2.2.2.2.2.2.2.2.1 (sr w).2.2.2.2.2.2.2.2.2.2.2.2.2.2.2.2.2.2.2.2.2.2.2.2.2.1 (sr w).2.2.2.2.2.2.2.2.2.2.2.2.2.2.2.2.2.2.2.2.2.2.2.2.2.2
  | 3 => x16_0_3 (sr w).1 (sr w).2.1 (sr w).2.2.1 (sr w).2.2.2.1 (sr w).2.2.2.2.1 (sr w).2.2.2.2.2.1 (sr w).2.2.2.2.2.2.1 (sr w).2.2.2.2.2.2.2.1 (sr w).2.2.2.2.2.2.2.2.1 (sr w).2.2.2.2.2.2.2.2.2.1 (sr w).2.2.2.2.2.2.2.2.2.2.1 (sr w).2.2.2.2.2.2.2.2.2.2.2.1 (sr w).2.2.2.2.2.2.2.2.2.2.2.2.1 (sr w).2.2.2.2.2.2.2.2.2.2.2.2.2.1 (sr w).2.2.2.2.2.2.2.2.2.2.2.2.2.2.1 (sr w).2.2.2.2.2.2.2.2.2.2.2.2.2.2.2.1 (sr w).2.2.2.2.2.2.2.2.2.2.2.2.2.2.2.2.1 (sr w).2.2.2.2.2.2.2.2.2.2.2.2.2.2.2.2.2.1 (sr w).2.2.2.2.2.2.2.2.2.2.2.2.2.2.2.2.2.2.1 (sr w).2.2.2.2.2.2.2.2.2.2.2.2.2.2.2.2.2.2.2.1 (sr w).2.2.2.2.2.2.2.2.2.2.2.2.2.2.2.2.2.2.2.2.1 (sr w).2.2.2.2.2.2.2.2.2.2.2.2.2.2.2.2.2.2.2.2.2.1 (sr w).2.2.2.2.2.2.2.2.2.2.2.2.2.2.2.2.2.2.2.2.2.2.1 (sr w).2.2.2.2.2.2.2.2.2.2.2.2.2.2.2.2.2.2.2.2.2.2.2.1 (sr w).2.2.2.2.2.2.2.2.2.2.2.2.2.2.2.2.2.2.2.2.2.2.2.2.1 (sr w).2.2.2.2.2.2.2.2.2.2.2.2.2.2.2.2.2.2.2.2.2.2.2.2.2.1 (sr w).2.2.2.2.2.2.2.2.2.2.2.2.2.2.2.2.2.2.2.2.2.2.2.2.2.2
  | _ => (.ret, ⟨[], [], 0, 0⟩)
theorem e16_0 : ∀ j v, outB (x16_0 j v).1 = true := fun j v => match j with
  | 0 => rfl
  | 1 => rfl
  | 2 => rfl
  | 3 => rfl
  | _ + 4 => rfl
noncomputable def st16_0_0 (x0 : Int) (x1 : List AV) (x2 : Int) (x3 : Int) (x4 : List AV) (x5 : List AV) (x6 : List AV) (x7 : Int) (x8 : Int) (x9 : Int) (x10 : Int) (x11 : Int) (x12 : Int) (x13 : Int) (x14 : Int) (x15 : Int) (x16 : Int) (x17 : Int) (x18 : Int) (x19 : Int) (x20 : Int) (x21 : List AV) (x22 : List AV) (x23 : List AV) (x24 : List AV) (x25 : List AV) : DT (Rd TT16_0) :=
 .br (decide (x3 < x2))
  (.br (okAt [CS.int IntKind.i64, CS.int IntKind.i64, CS.str] x1 x3)
   (.bi (f36 x4 x5 x6 x7 x8 x9 x10 x11 x12 x13 x14 x15 x16 x17 x18 x19 x20 x21 x22 x23 x24 x25 (intOf (cellAt x1 x3 0)) x0) (fun y0 =>
    .br (!y0.snd.snd.snd.snd.snd.snd.snd.snd.snd.snd.snd.snd.snd.snd.snd.snd.snd.snd.snd)
     (.at (.done 0))
     (.br (decide (intOf (cellAt x1 x3 1) < 0))
      (.at (.next ((.inr (x0, x1, x2, IntKind.i64.wrap (x3 + 1), x4, x5, x6, x7, x8, x9, x10, x11, x12, x13, x14, x15, x16, x17, x18, x19, x20, x21, x22, x23, x24, x25, [AV.agg
    [AV.int IntKind.i64 0, AV.int IntKind.i64 x0, AV.int IntKind.i64 x0, AV.int IntKind.i64 2, AV.int IntKind.i64 3, AV.int IntKind.i64 0, AV.str (strOf (cellAt x1 x3 2)),
      AV.str [],
      AV.view 3
        [AV.agg [AV.int IntKind.i64 x7, AV.int IntKind.i64 (intOf (cellAt x1 x3 1)), AV.str y0.snd.fst],
          AV.agg [AV.int IntKind.i64 (intOf (cellAt x1 x3 0)), AV.int IntKind.i64 (IntKind.i64.wrap (0 - intOf (cellAt x1 x3 1))), AV.str y0.snd.fst]],
      AV.int IntKind.u64 0]])))))
      (.at (.next ((.inr (x0, x1, x2, IntKind.i64.wrap (x3 + 1), x4, x5, x6, x7, x8, x9, x10, x11, x12, x13, x14, x15, x16, x17, x18, x19, x20, x21, x22, x23, x24, x25, [AV.agg
    [AV.int IntKind.i64 0, AV.int IntKind.i64 x0, AV.int IntKind.i64 x0, AV.int IntKind.i64 1, AV.int IntKind.i64 3, AV.int IntKind.i64 0, AV.str (strOf (cellAt x1 x3 2)),
      AV.str [],
      AV.view 3
        [AV.agg [AV.int IntKind.i64 x7, AV.int IntKind.i64 (intOf (cellAt x1 x3 1)), AV.str y0.snd.fst],
          AV.agg [AV.int IntKind.i64 (intOf (cellAt x1 x3 0)), AV.int IntKind.i64 (IntKind.i64.wrap (0 - intOf (cellAt x1 x3 1))), AV.str y0.snd.fst]],
      AV.int IntKind.u64 0]])))))))
    (.no))
   (.no))
  (.at (.done 1))
noncomputable def st16_0_1 (x0 : Int) (x1 : List AV) (x2 : Int) (x3 : Int) (x4 : List AV) (x5 : List AV) (x6 : List AV) (x7 : Int) (x8 : Int) (x9 : Int) (x10 : Int) (x11 : Int) (x12 : Int) (x13 : Int) (x14 : Int) (x15 : Int) (x16 : Int) (x17 : Int) (x18 : Int) (x19 : Int) (x20 : Int) (x21 : List AV) (x22 : List AV) (x23 : List AV) (x24 : List AV) (x25 : List AV) (x26 : List AV) : DT (Rd TT16_0) :=
 .br (decide (x3 < x2))
  (.br (okAt [CS.int IntKind.i64, CS.int IntKind.i64, CS.str] x1 x3)
   (.bi (f36 x4 x5 x6 x7 x8 x9 x10 x11 x12 x13 x14 x15 x16 x17 x18 x19 x20 x21 x22 x23 x24 x25 (intOf (cellAt x1 x3 0)) x0) (fun y0 =>
    .br (!y0.snd.snd.snd.snd.snd.snd.snd.snd.snd.snd.snd.snd.snd.snd.snd.snd.snd.snd.snd)
     (.at (.done 2))
     (.br (decide (intOf (cellAt x1 x3 1) < 0))
      (.br (room (x26.length + 1) 112)
       (.at (.next ((.inr (x0, x1, x2, IntKind.i64.wrap (x3 + 1), x4, x5, x6, x7, x8, x9, x10, x11, x12, x13, x14, x15, x16, x17, x18, x19, x20, x21, x22, x23, x24, x25, x26 ++
  [AV.agg
      [AV.int IntKind.i64 0, AV.int IntKind.i64 x0, AV.int IntKind.i64 x0, AV.int IntKind.i64 2, AV.int IntKind.i64 3, AV.int IntKind.i64 0, AV.str (strOf (cellAt x1 x3 2)),
        AV.str [],
        AV.view 3
          [AV.agg [AV.int IntKind.i64 x7, AV.int IntKind.i64 (intOf (cellAt x1 x3 1)), AV.str y0.snd.fst],
            AV.agg [AV.int IntKind.i64 (intOf (cellAt x1 x3 0)), AV.int IntKind.i64 (IntKind.i64.wrap (0 - intOf (cellAt x1 x3 1))), AV.str y0.snd.fst]],
        AV.int IntKind.u64 0]])))))
       (.no))
      (.br (room (x26.length + 1) 112)
       (.at (.next ((.inr (x0, x1, x2, IntKind.i64.wrap (x3 + 1), x4, x5, x6, x7, x8, x9, x10, x11, x12, x13, x14, x15, x16, x17, x18, x19, x20, x21, x22, x23, x24, x25, x26 ++
  [AV.agg
      [AV.int IntKind.i64 0, AV.int IntKind.i64 x0, AV.int IntKind.i64 x0, AV.int IntKind.i64 1, AV.int IntKind.i64 3, AV.int IntKind.i64 0, AV.str (strOf (cellAt x1 x3 2)),
        AV.str [],
        AV.view 3
          [AV.agg [AV.int IntKind.i64 x7, AV.int IntKind.i64 (intOf (cellAt x1 x3 1)), AV.str y0.snd.fst],
            AV.agg [AV.int IntKind.i64 (intOf (cellAt x1 x3 0)), AV.int IntKind.i64 (IntKind.i64.wrap (0 - intOf (cellAt x1 x3 1))), AV.str y0.snd.fst]],
        AV.int IntKind.u64 0]])))))
       (.no))))
    (.no))
   (.no))
  (.at (.done 3))
noncomputable def st16_0 : TT16_0 → DT (Rd TT16_0) := (Sum.elim (fun v => st16_0_0 v.1 v.2.1 v.2.2.1 v.2.2.2.1 v.2.2.2.2.1 v.2.2.2.2.2.1 v.2.2.2.2.2.2.1 v.2.2.2.2.2.2.2.1 v.2.2.2.2.2.2.2.2.1 v.2.2.2.2.2.2.2.2.2.1 v.2.2.2.2.2.2.2.2.2.2.1 v.2.2.2.2.2.2.2.2.2.2.2.1 v.2.2.2.2.2.2.2.2.2.2.2.2.1 v.2.2.2.2.2.2.2.2.2.2.2.2.2.1 v.2.2.2.2.2.2.2.2.2.2.2.2.2.2.1 v.2.2.2.2.2.2.2.2.2.2.2.2.2.2.2.1 v.2.2.2.2.2.2.2.2.2.2.2.2.2.2.2.2.1 v.2.2.2.2.2.2.2.2.2.2.2.2.2.2.2.2.2.1 v.2.2.2.2.2.2.2.2.2.2.2.2.2.2.2.2.2.2.1 v.2.2.2.2.2.2.2.2.2.2.2.2.2.2.2.2.2.2.2.1 v.2.2.2.2.2.2.2.2.2.2.2.2.2.2.2.2.2.2.2.2.1 v.2.2.2.2.2.2.2.2.2.2.2.2.2.2.2.2.2.2.2.2.2.1 v.2.2.2.2.2.2.2.2.2.2.2.2.2.2.2.2.2.2.2.2.2.2.1 v.2.2.2.2.2.2.2.2.2.2.2.2.2.2.2.2.2.2.2.2.2.2.2.1 v.2.2.2.2.2.2.2.2.2.2.2.2.2.2.2.2.2.2.2.2.2.2.2.2.1 v.2.2.2.2.2.2.2.2.2.2.2.2.2.2.2.2.2.2.2.2.2.2.2.2.2) (fun v => st16_0_1 v.1 v.2.1 v.2.2.1 v.2.2.2.1 v.2.2.2.2.1 v.2.2.2.2.2.1 v.2.2.2.2.2.2.1 v.2.2.2.2.2.2.2.1 v.2.2.2.2.2.2.2.2.1 v.2.2.2.2.2.2.2.2.2.1 v.2.2.2.2.2.2.2.2.2.2.1 v.2.2.2.2.2.2.2.2.2.2.2.1 v.2.2.2.2.2.2.2.2.2.2.2.2.1 v.2.2.2.2.2.2.2.2.2.2.2.2.2.1 v.2.2.2.2.2.2.2.2.2.2.2.2.2.2.1 v.2.2.2.2.2.2.2.2.2.2.2.2.2.2.2.1 v.2.2.2.2.2.2.2.2.2.2.2.2.2.2.2.2.1 v.2.2.2.2.2.2.2.2.2.2.2.2.2.2.2.2.2.1 v.2.2.2.2.2.2.2.2.2.2.2.2.2.2.2.2.2.2.1 v.2.2.2.2.2.2.2.2.2.2.2.2.2.2.2.2.2.2.2.1 v.2.2.2.2.2.2.2.2.2.2.2.2.2.2.2.2.2.2.2.2.1 v.2.2.2.2.2.2.2.2.2.2.2.2.2.2.2.2.2.2.2.2.2.1 v.2.2.2.2.2.2.2.2.2.2.2.2.2.2.2.2.2.2.2.2.2.2.1 v.2.2.2.2.2.2.2.2.2.2.2.2.2.2.2.2.2.2.2.2.2.2.2.1 v.2.2.2.2.2.2.2.2.2.2.2.2.2.2.2.2.2.2.2.2.2.2.2.2.1 v.2.2.2.2.2.2.2.2.2.2.2.2.2.2.2.2.2.2.2.2.2.2.2.2.2.1 v.2.2.2.2.2.2.2.2.2.2.2.2.2.2.2.2.2.2.2.2.2.2.2.2.2.2))
noncomputable def T16_0 : Tab := [(34, cloneE 3 24), (35, cloneE 3 32), (36, g36 f36)]
theorem T16_0_ok : TabOk IP (T16_0) := ⟨sp34, sp35, s36, trivial⟩
noncomputable def L16_0 : LTab := []
theorem L16_0_ok : LOk IP (L16_0) (loops (loopAt F16 0).2) := LOk_of (l := []) (by kernel_rfl) trivial
theorem b16_0_0 (v : Int × List AV × Int × Int × List AV × List AV × List AV × Int × Int × Int × Int × Int × Int × Int × Int × Int × Int × Int × Int × Int × Int × List AV × List AV × List AV × List AV × List AV) : execK (R := Rx TT16_0) IP (callT (T16_0)) (loopT (L16_0)) (loopAt F16 0).2 (h16_0_0 v) (endK (loopAt F16 0).1 d16_0) = (cvD (fun j => x16_0 j (.inl v)) (st16_0_0 v.1 v.2.1 v.2.2.1 v.2.2.2.1 v.2.2.2.2.1 v.2.2.2.2.2.1 v.2.2.2.2.2.2.1 v.2.2.2.2.2.2.2.1 v.2.2.2.2.2.2.2.2.1 v.2.2.2.2.2.2.2.2.2.1 v.2.2.2.2.2.2.2.2.2.2.1 v.2.2.2.2.2.2.2.2.2.2.2.1 v.2.2.2.2.2.2.2.2.2.2.2.2.1 v.2.2.2.2.2.2.2.2.2.2.2.2.2.1 v.2.2.2.2.2.2.2.2.2.2.2.2.2.2.1 v.2.2.2.2.2.2.2.2.2.2.2.2.2.2.2.1 v.2.2.2.2.2.2.2.2.2.2.2.2.2.2.2.2.1 v.2.2.2.2.2.2.2.2.2.2.2.2.2.2.2.2.2.1 v.2.2.2.2.2.2.2.2.2.2.2.2.2.2.2.2.2.2.1 v.2.2.2.2.2.2.2.2.2.2.2.2.2.2.2.2.2.2.2.1 v.2.2.2.2.2.2.2.2.2.2.2.2.2.2.2.2.2.2.2.2.1 v.2.2.2.2.2.2.2.2.2.2.2.2.2.2.2.2.2.2.2.2.2.1 v.2.2.2.2.2.2.2.2.2.2.2.2.2.2.2.2.2.2.2.2.2.2.1 v.2.2.2.2.2.2.2.2.2.2.2.2.2.2.2.2.2.2.2.2.2.2.2.1 v.2.2.2.2.2.2.2.2.2.2.2.2.2.2.2.2.2.2.2.2.2.2.2.2.1 v.2.2.2.2.2.2.2.2.2.2.2.2.2.2.2.2.2.2.2.2.2.2.2.2.2)).ev := by kernel_rfl
theorem b16_0_1 (v : Int × List AV × Int × Int × List AV × List AV × List AV × Int × Int × Int × Int × Int × Int × Int × Int × Int × Int × Int × Int × Int × Int × List AV × List AV × List AV × List AV × List AV × List AV) : execK (R := Rx TT16_0) IP (callT (T16_0)) (loopT (L16_0)) (loopAt F16 0).2 (h16_0_1 v) (endK (loopAt F16 0).1 d16_0) = (cvD (fun j => x16_0 j (.inr v)) (st16_0_1 v.1 v.2.1 v.2.2.1 v.2.2.2.1 v.2.2.2.2.1 v.2.2.2.2.2.1 v.2.2.2.2.2.2.1 v.2.2.2.2.2.2.2.1 v.2.2.2.2.2.2.2.2.1 v.2.2.2.2.2.2.2.2.2.1 v.2.2.2.2.2.2.2.2.2.2.1 v.2.2.2.2.2.2.2.2.2.2.2.1 v.2.2.2.2.2.2.2.2.2.2.2.2.1 v.2.2.2.2.2.2.2.2.2.2.2.2.2.1 v.2.2.2.2.2.2.2.2.2.2.2.2.2.2.1 v.2.2.2.2.2.2.2.2.2.2.2.2.2.2.2.1 v.2.2.2.2.2.2.2.2.2.2.2.2.2.2.2.2.1 v.2.2.2.2.2.2.2.2.2.2.2.2.2.2.2.2.2.1 v.2.2.2.2.2.2.2.2.2.2.2.2.2.2.2.2.2.2.1 v.2.2.2.2.2.2.2.2.2.2.2.2.2.2.2.2.2.2.2.1 v.2.2.2.2.2.2.2.2.2.2.2.2.2.2.2.2.2.2.2.2.1 v.2.2.2.2.2.2.2.2.2.2.2.2.2.2.2.2.2.2.2.2.2.1 v.2.2.2.2.2.2.2.2.2.2.2.2.2.2.2.2.2.2.2.2.2.2.1 v.2.2.2.2.2.2.2.2.2.2.2.2.2.2.2.2.2.2.2.2.2.2.2.1 v.2.2.2.2.2.2.2.2.2.2.2.2.2.2.2.2.2.2.2.2.2.2.2.2.1 v.2.2.2.2.2.2.2.2.2.2.2.2.2.2.2.2.2.2.2.2.2.2.2.2.2.1 v.2.2.2.2.2.2.2.2.2.2.2.2.2.2.2.2.2.2.2.2.2.2.2.2.2.2)).ev := by kernel_rfl
noncomputable def l16_0 (v : TT16_0) : Option (Nat × TT16_0) := lock (iterO (fun v => (st16_0 v).ev) v)
theorem l16_0_eq (v : TT16_0) : l16_0 v = iterO (fun v => (st16_0 v).ev) v := lock_eq _
noncomputable def ll16_0 : LEnt := lEnt d16_0 (l16_0) (x16_0) 4
theorem t16_0 : Go.Eng.Told IP (loopAt F16 0).1 (loopAt F16 0).2 (ll16_0) := loop_of (st := st16_0) (T16_0_ok) (L16_0_ok) d16_0_ok (fun v => match v with | (.inl v) => n16_0_0 v | (.inr v) => n16_0_1 v) (e16_0) (fun v => match v with | (.inl v) => b16_0_0 v | (.inr v) => b16_0_1 v) (l16_0_eq)

-- f16: 
abbrev A16 : Type := List AV × List AV × List AV × Int × Int × Int × Int × Int × Int × Int × Int × Int × Int × Int × Int × Int × Int × List AV × List AV × List AV × List AV × List AV × Int × List AV × List AV × Int
abbrev B16 : Type := List AV × Int
def pa16 : PArgs := ⟨[.agg [.view 2, .view 3, .view 4, .int .i64, .int .i64, .int .i64, .int .i64, .int .i64, .int .i64, .int .i64, .int .i64, .int .i64, .int .i64, .int .i64, .int .i64, .int .i64, .int .i64, .view 19, .view 7, .view 10, .view 6, .view 7], .agg [.int .i64, .view 3, .view 3], .int .i64], []⟩
def to16 (ls : List Lf) : Option A16 := eatL ls fun x0 ls => eatL ls fun x1 ls => eatL ls fun x2 ls => eatI ls fun x3 ls => eatI ls fun x4 ls => eatI ls fun x5 ls => eatI ls fun x6 ls => eatI ls fun x7 ls => eatI ls fun x8 ls => eatI ls fun x9 ls => eatI ls fun x10 ls => eatI ls fun x11 ls => eatI ls fun x12 ls => eatI ls fun x13 ls => eatI ls fun x14 ls => eatI ls fun x15 ls => eatI ls fun x16 ls => eatL ls fun x17 ls => eatL ls fun x18 ls => eatL ls fun x19 ls => eatL ls fun x20 ls => eatL ls fun x21 ls => eatI ls fun x22 ls => eatL ls fun x23 ls => eatL ls fun x24 ls => eatI ls fun x25 ls => eat0 ls (x0, x1, x2, x3, x4, x5, x6, x7, x8, x9, x10, x11, x12, x13, x14, x15, x16, x17, x18, x19, x20, x21, x22, x23, x24, x25)
def ea16 (v : A16) : List AV × Heap := ([.agg [.view 2 v.1, .view 3 v.2.1, .view 4 v.2.2.1, .int .i64 v.2.2.2.1, .int .i64 v.2.2.2.2.1, .int .i64 v.2.2.2.2.2.1, .int .i64 v.2.2.2.2.2.2.1, .int .i64 v.2.2.2.2.2.2.2.1, .int .i64 v.2.2.2.2.2.2.2.2.1, .int .i64 v.2.2.2.2.2.2.2.2.2.1, .int .i64 v.2.2.2.2.2.2.2.2.2.2.1, .int .i64 v.2.2.2.2.2.2.2.2.2.2.2.1, .int .i64 v.2.2.2.2.2.2.2.2.2.2.2.2.1, .int .i64 v.2.2.2.2.2.2.2.2.2.2.2.2.2.1, .int .i64 v.2.2.2.2.2.2.2.2.2.2.2.2.2.2.1, .int .i64 v.2.2.2.2.2.2.2.2.2.2.2.2.2.2.2.1, .int .i64 v.2.2.2.2.2.2.2.2.2.2.2.2.2.2.2.2.1, .view 19 v.2.2.2.2.2.2.2.2.2.2.2.2.2.2.2.2.2.1, .view 7 v.2.2.2.2.2.2.2.2.2.2.2.2.2.2.2.2.2.2.1, .view 10 v.2.2.2.2.2.2.2.2.2.2.2.2.2.2.2.2.2.2.2.1, .view 6 v.2.2.2.2.2.2.2.2.2.2.2.2.2.2.2.2.2.2.2.2.1, .view 7 v.2.2.2.2.2.2.2.2.2.2.2.2.2.2.2.2.2.2.2.2.2.1], .agg [.int .i64 v.2.2.2.2.2.2.2.2.2.2.2.2.2.2.2.2.2.2.2.2.2.2.1, .view 3 v.2.2.2.2.2.2.2.2.2.2.2.2.2.2.2.2.2.2.2.2.2.2.2.1, .view 3 v.2.2.2.2.2.2.2.2.2.2.2.2.2.2.2.2.2.2.2.2.2.2.2.2.1], .int .i64 v.2.2.2.2.2.2.2.2.2.2.2.2.2.2.2.2.2.2.2.2.2.2.2.2.2], [])
def er16_0 (v : List AV × Int) : Res × Heap := (.ret (.tup [.view 10 v.1, .int .i64 v.2]), [])
def er16 : B16 → Res × Heap := er16_0
def en16 : Option B16 → List (Bool × Res × Heap) := (E1 er16_0)
def rd16 : Res → Heap → Option B16 := rDec ⟨false, .tup [.view 10, .int .i64], []⟩ (fun ls => eatL ls fun x0 ls => eatI ls fun x1 ls => eat0 ls (x0, x1)) (rNo)
theorem to16_ok : ∀ ls v, to16 ls = some v → fArgs pa16 ls = ea16 v := by
  intro ls v h0
  unfold to16 at h0
  obtain ⟨x0, ls0, rfl, h1⟩ := eatL_some h0
  obtain ⟨x1, ls1, rfl, h2⟩ := eatL_some h1
  obtain ⟨x2, ls2, rfl, h3⟩ := eatL_some h2
  obtain ⟨x3, ls3, rfl, h4⟩ := eatI_some h3
  obtain ⟨x4, ls4, rfl, h5⟩ := eatI_some h4
  obtain ⟨x5, ls5, rfl, h6⟩ := eatI_some h5
  obtain ⟨x6, ls6, rfl, h7⟩ := eatI_some h6
  obtain ⟨x7, ls7, rfl, h8⟩ := eatI_some h7
  obtain ⟨x8, ls8, rfl, h9⟩ := eatI_some h8
  obtain ⟨x9, ls9, rfl, h10⟩ := eatI_some h9
  obtain ⟨x10, ls10, rfl, h11⟩ := eatI_some h10
  obtain ⟨x11, ls11, rfl, h12⟩ := eatI_some h11
  obtain ⟨x12, ls12, rfl, h13⟩ := eatI_some h12
  obtain ⟨x13, ls13, rfl, h14⟩ := eatI_some h13
  obtain ⟨x14, ls14, rfl, h15⟩ := eatI_some h14
  obtain ⟨x15, ls15, rfl, h16⟩ := eatI_some h15
  obtain ⟨x16, ls16, rfl, h17⟩ := eatI_some h16
  obtain ⟨x17, ls17, rfl, h18⟩ := eatL_some h17
  obtain ⟨x18, ls18, rfl, h19⟩ := eatL_some h18
  obtain ⟨x19, ls19, rfl, h20⟩ := eatL_some h19
  obtain ⟨x20, ls20, rfl, h21⟩ := eatL_some h20
  obtain ⟨x21, ls21, rfl, h22⟩ := eatL_some h21
  obtain ⟨x22, ls22, rfl, h23⟩ := eatI_some h22
  obtain ⟨x23, ls23, rfl, h24⟩ := eatL_some h23
  obtain ⟨x24, ls24, rfl, h25⟩ := eatL_some h24
  obtain ⟨x25, ls25, rfl, h26⟩ := eatI_some h25
  obtain ⟨rfl, rfl⟩ := eat0_some h26
  rfl
theorem rd16_ok : ∀ r h y, rd16 r h = some y → (r, h) = er16 y := rDec_ok (by
  intro ls v h0
  obtain ⟨x0, ls0, rfl, h1⟩ := eatL_some h0
  obtain ⟨x1, ls1, rfl, h2⟩ := eatI_some h1
  obtain ⟨rfl, rfl⟩ := eat0_some h2
  rfl
) (rNo_ok)
noncomputable def g16 (G : (List AV) → (List AV) → (List AV) → Int → Int → Int → Int → Int → Int → Int → Int → Int → Int → Int → Int → Int → Int → (List AV) → (List AV) → (List AV) → (List AV) → (List AV) → Int → (List AV) → (List AV) → Int → Option B16) : Ent := fEnt pa16 to16 (fun v => G v.1 v.2.1 v.2.2.1 v.2.2.2.1 v.2.2.2.2.1 v.2.2.2.2.2.1 v.2.2.2.2.2.2.1 v.2.2.2.2.2.2.2.1 v.2.2.2.2.2.2.2.2.1 v.2.2.2.2.2.2.2.2.2.1 v.2.2.2.2.2.2.2.2.2.2.1 v.2.2.2.2.2.2.2.2.2.2.2.1 v.2.2.2.2.2.2.2.2.2.2.2.2.1 v.2.2.2.2.2.2.2.2.2.2.2.2.2.1 v.2.2.2.2.2.2.2.2.2.2.2.2.2.2.1 v.2.2.2.2.2.2.2.2.2.2.2.2.2.2.2.1 v.2.2.2.2.2.2.2.2.2.2.2.2.2.2.2.2.1 v.2.2.2.2.2.2.2.2.2.2.2.2.2.2.2.2.2.1 v.2.2.2.2.2.2.2.2.2.2.2.2.2.2.2.2.2.2.1 v.2.2.2.2.2.2.2.2.2.2.2.2.2.2.2.2.2.2.2.1 v.2.2.2.2.2.2.2.2.2.2.2.2.2.2.2.2.2.2.2.2.1 v.2.2.2.2.2.2.2.2.2.2.2.2.2.2.2.2.2.2.2.2.2.1 v.2.2.2.2.2.2.2.2.2.2.2.2.2.2.2.2.2.2.2.2.2.2.1 v.2.2.2.2.2.2.2.2.2.2.2.2.2.2.2.2.2.2.2.2.2.2.2.1 v.2.2.2.2.2.2.2.2.2.2.2.2.2.2.2.2.2.2.2.2.2.2.2.2.1 v.2.2.2.2.2.2.2.2.2.2.2.2.2.2.2.2.2.2.2.2.2.2.2.2.2) en16
theorem g16_ok (G : (List AV) → (List AV) → (List AV) → Int → Int → Int → Int → Int → Int → Int → Int → Int → Int → Int → Int → Int → Int → (List AV) → (List AV) → (List AV) → (List AV) → (List AV) → Int → (List AV) → (List AV) → Int → Option B16) (hG : ∀ v y, G v.1 v.2.1 v.2.2.1 v.2.2.2.1 v.2.2.2.2.1 v.2.2.2.2.2.1 v.2.2.2.2.2.2.1 v.2.2.2.2.2.2.2.1 v.2.2.2.2.2.2.2.2.1 v.2.2.2.2.2.2.2.2.2.1 v.2.2.2.2.2.2.2.2.2.2.1 v.2.2.2.2.2.2.2.2.2.2.2.1 v.2.2.2.2.2.2.2.2.2.2.2.2.1 v.2.2.2.2.2.2.2.2.2.2.2.2.2.1 v.2.2.2.2.2.2.2.2.2.2.2.2.2.2.1 v.2.2.2.2.2.2.2.2.2.2.2.2.2.2.2.1 v.2.2.2.2.2.2.2.2.2.2.2.2.2.2.2.2.1 v.2.2.2.2.2.2.2.2.2.2.2.2.2.2.2.2.2.1 v.2.2.2.2.2.2.2.2.2.2.2.2.2.2.2.2.2.2.1 v.2.2.2.2.2.2.2.2.2.2.2.2.2.2.2.2.2.2.2.1 v.2.2.2.2.2.2.2.2.2.2.2.2.2.2.2.2.2.2.2.2.1 v.2.2.2.2.2.2.2.2.2.2.2.2.2.2.2.2.2.2.2.2.2.1 v.2.2.2.2.2.2.2.2.2.2.2.2.2.2.2.2.2.2.2.2.2.2.1 v.2.2.2.2.2.2.2.2.2.2.2.2.2.2.2.2.2.2.2.2.2.2.2.1 v.2.2.2.2.2.2.2.2.2.2.2.2.2.2.2.2.2.2.2.2.2.2.2.2.1 v.2.2.2.2.2.2.2.2.2.2.2.2.2.2.2.2.2.2.2.2.2.2.2.2.2 = some y → callO IP 16 (ea16 v).1 (ea16 v).2 = some (er16 y)) : Snd IP 16 (g16 G) := fEnt_ok to16_ok E1_ok hG
noncomputable def tr16 (x0 : List AV) (x1 : List AV) (x2 : List AV) (x3 : Int) (x4 : Int) (x5 : Int) (x6 : Int) (x7 : Int) (x8 : Int) (x9 : Int) (x10 : Int) (x11 : Int) (x12 : Int) (x13 : Int) (x14 : Int) (x15 : Int) (x16 : Int) (x17 : List AV) (x18 : List AV) (x19 : List AV) (x20 : List AV) (x21 : List AV) (x22 : Int) (x23 : List AV) (x24 : List AV) (x25 : Int) : DT B16 :=
 .bi (pj 0 (l16_0 (Sum.inl (x25, x24, (↑x24.length : Int), 0, x0, x1, x2, x3, x4, x5, x6, x7, x8, x9, x10, x11, x12, x13, x14, x15, x16, x17, x18, x19, x20, x21)))) (fun y0 =>
  .at (([], 11)))
  (.bi (pj 1 (l16_0 (Sum.inl (x25, x24, (↑x24.length : Int), 0, x0, x1, x2, x3, x4, x5, x6, x7, x8, x9, x10, x11, x12, x13, x14, x15, x16, x17, x18, x19, x20, x21)))) (fun y0 =>
   .at (([], 0)))
   (.bi (pj 2 (l16_0 (Sum.inl (x25, x24, (↑x24.length : Int), 0, x0, x1, x2, x3, x4, x5, x6, x7, x8, x9, x10, x11, x12, x13, x14, x15, x16, x17, x18, x19, x20, x21)))) (fun y0 =>
    .at (([], 11)))
    (.bi (pj 3 (l16_0 (Sum.inl (x25, x24, (↑x24.length : Int), 0, x0, x1, x2, x3, x4, x5, x6, x7, x8, x9, x10, x11, x12, x13, x14, x15, x16, x17, x18, x19, x20, x21)))) (fun y0 =>
     .at (((sr y0).snd.snd.snd.snd.snd.snd.snd.snd.snd.snd.snd.snd.snd.snd.snd.snd.snd.snd.snd.snd.snd.snd.snd.snd.snd.snd, 0)))
     (.no))))
noncomputable def T16 : Tab := [(34, cloneE 3 24), (35, cloneE 3 32)]
theorem T16_ok : TabOk IP (T16) := ⟨sp34, sp35, trivial⟩
noncomputable def L16 : LTab := [(1001600, ll16_0)]
theorem L16_ok : LOk IP (L16) (loops F16.body) := LOk_of (l := [loopAt F16 0]) (by kernel_rfl) ⟨sel_one (by kernel_rfl) t16_0, trivial⟩
theorem b16 (v : A16) : bodyK (R := B16) IP (callT (T16)) (loopT (L16)) 16 F16 (ea16 v).1 (ea16 v).2 rd16 = (tr16 v.1 v.2.1 v.2.2.1 v.2.2.2.1 v.2.2.2.2.1 v.2.2.2.2.2.1 v.2.2.2.2.2.2.1 v.2.2.2.2.2.2.2.1 v.2.2.2.2.2.2.2.2.1 v.2.2.2.2.2.2.2.2.2.1 v.2.2.2.2.2.2.2.2.2.2.1 v.2.2.2.2.2.2.2.2.2.2.2.1 v.2.2.2.2.2.2.2.2.2.2.2.2.1 v.2.2.2.2.2.2.2.2.2.2.2.2.2.1 v.2.2.2.2.2.2.2.2.2.2.2.2.2.2.1 v.2.2.2.2.2.2.2.2.2.2.2.2.2.2.2.1 v.2.2.2.2.2.2.2.2.2.2.2.2.2.2.2.2.1 v.2.2.2.2.2.2.2.2.2.2.2.2.2.2.2.2.2.1 v.2.2.2.2.2.2.2.2.2.2.2.2.2.2.2.2.2.2.1 v.2.2.2.2.2.2.2.2.2.2.2.2.2.2.2.2.2.2.2.1 v.2.2.2.2.2.2.2.2.2.2.2.2.2.2.2.2.2.2.2.2.1 v.2.2.2.2.2.2.2.2.2.2.2.2.2.2.2.2.2.2.2.2.2.1 v.2.2.2.2.2.2.2.2.2.2.2.2.2.2.2.2.2.2.2.2.2.2.1 v.2.2.2.2.2.2.2.2.2.2.2.2.2.2.2.2.2.2.2.2.2.2.2.1 v.2.2.2.2.2.2.2.2.2.2.2.2.2.2.2.2.2.2.2.2.2.2.2.2.1 v.2.2.2.2.2.2.2.2.2.2.2.2.2.2.2.2.2.2.2.2.2.2.2.2.2).ev := by kernel_rfl
/--  -/
noncomputable def f16 (x0 : List AV) (x1 : List AV) (x2 : List AV) (x3 : Int) (x4 : Int) (x5 : Int) (x6 : Int) (x7 : Int) (x8 : Int) (x9 : Int) (x10 : Int) (x11 : Int) (x12 : Int) (x13 : Int) (x14 : Int) (x15 : Int) (x16 : Int) (x17 : List AV) (x18 : List AV) (x19 : List AV) (x20 : List AV) (x21 : List AV) (x22 : Int) (x23 : List AV) (x24 : List AV) (x25 : Int) : Option B16 := lock (tr16 x0 x1 x2 x3 x4 x5 x6 x7 x8 x9 x10 x11 x12 x13 x14 x15 x16 x17 x18 x19 x20 x21 x22 x23 x24 x25).ev
theorem f16_eq (x0 : List AV) (x1 : List AV) (x2 : List AV) (x3 : Int) (x4 : Int) (x5 : Int) (x6 : Int) (x7 : Int) (x8 : Int) (x9 : Int) (x10 : Int) (x11 : Int) (x12 : Int) (x13 : Int) (x14 : Int) (x15 : Int) (x16 : Int) (x17 : List AV) (x18 : List AV) (x19 : List AV) (x20 : List AV) (x21 : List AV) (x22 : Int) (x23 : List AV) (x24 : List AV) (x25 : Int) : f16 x0 x1 x2 x3 x4 x5 x6 x7 x8 x9 x10 x11 x12 x13 x14 x15 x16 x17 x18 x19 x20 x21 x22 x23 x24 x25 = (tr16 x0 x1 x2 x3 x4 x5 x6 x7 x8 x9 x10 x11 x12 x13 x14 x15 x16 x17 x18 x19 x20 x21 x22 x23 x24 x25).ev := lock_eq _
theorem c16 : ∀ v y, f16 v.1 v.2.1 v.2.2.1 v.2.2.2.1 v.2.2.2.2.1 v.2.2.2.2.2.1 v.2.2.2.2.2.2.1 v.2.2.2.2.2.2.2.1 v.2.2.2.2.2.2.2.2.1 v.2.2.2.2.2.2.2.2.2.1 v.2.2.2.2.2.2.2.2.2.2.1 v.2.2.2.2.2.2.2.2.2.2.2.1 v.2.2.2.2.2.2.2.2.2.2.2.2.1 v.2.2.2.2.2.2.2.2.2.2.2.2.2.1 v.2.2.2.2.2.2.2.2.2.2.2.2.2.2.1 v.2.2.2.2.2.2.2.2.2.2.2.2.2.2.2.1 v.2.2.2.2.2.2.2.2.2.2.2.2.2.2.2.2.1 v.2.2.2.2.2.2.2.2.2.2.2.2.2.2.2.2.2.1 v.2.2.2.2.2.2.2.2.2.2.2.2.2.2.2.2.2.2.1 v.2.2.2.2.2.2.2.2.2.2.2.2.2.2.2.2.2.2.2.1 v.2.2.2.2.2.2.2.2.2.2.2.2.2.2.2.2.2.2.2.2.1 v.2.2.2.2.2.2.2.2.2.2.2.2.2.2.2.2.2.2.2.2.2.1 v.2.2.2.2.2.2.2.2.2.2.2.2.2.2.2.2.2.2.2.2.2.2.1 v.2.2.2.2.2.2.2.2.2.2.2.2.2.2.2.2.2.2.2.2.2.2.2.1 v.2.2.2.2.2.2.2.2.2.2.2.2.2.2.2.2.2.2.2.2.2.2.2.2.1 v.2.2.2.2.2.2.2.2.2.2.2.2.2.2.2.2.2.2.2.2.2.2.2.2.2 = some y → callO IP 16 (ea16 v).1 (ea16 v).2 = some (er16 y) := fun v y h => fun_of T16_ok (by kernel_rfl) L16_ok rd16_ok (b16 v) ((f16_eq v.1 v.2.1 v.2.2.1 v.2.2.2.1 v.2.2.2.2.1 v.2.2.2.2.2.1 v.2.2.2.2.2.2.1 v.2.2.2.2.2.2.2.1 v.2.2.2.2.2.2.2.2.1 v.2.2.2.2.2.2.2.2.2.1 v.2.2.2.2.2.2.2.2.2.2.1 v.2.2.2.2.2.2.2.2.2.2.2.1 v.2.2.2.2.2.2.2.2.2.2.2.2.1 v.2.2.2.2.2.2.2.2.2.2.2.2.2.1 v.2.2.2.2.2.2.2.2.2.2.2.2.2.2.1 v.2.2.2.2.2.2.2.2.2.2.2.2.2.2.2.1 v.2.2.2.2.2.2.2.2.2.2.2.2.2.2.2.2.1 v.2.2.2.2.2.2.2.2.2.2.2.2.2.2.2.2.2.1 v.2.2.2.2.2.2.2.2.2.2.2.2.2.2.2.2.2.2.1 v.2.2.2.2.2.2.2.2.2.2.2.2.2.2.2.2.2.2.2.1 v.2.2.2.2.2.2.2.2.2.2.2.2.2.2.2.2.2.2.2.2.1 v.2.2.2.2.2.2.2.2.2.2.2.2.2.2.2.2.2.2.2.2.2.1 v.2.2.2.2.2.2.2.2.2.2.2.2.2.2.2.2.2.2.2.2.2.2.1 v.2.2.2.2.2.2.2.2.2.2.2.2.2.2.2.2.2.2.2.2.2.2.2.1 v.2.2.2.2.2.2.2.2.2.2.2.2.2.2.2.2.2.2.2.2.2.2.2.2.1 v.2.2.2.2.2.2.2.2.2.2.2.2.2.2.2.2.2.2.2.2.2.2.2.2.2).symm.trans h)
theorem s16 : Snd IP 16 (g16 f16) := g16_ok f16 c16

-- l49_0: loop 0 of function 49
abbrev TT49_0 : Type := Int × Int × List AV × List AV × List AV × Int × Int × Int × Int × Int × Int × Int × Int × Int × Int × Int × Int × Int × Int × List AV × List AV × List AV × List AV × List AV × Int × Int × Int × Int × List UInt8 × List UInt8 × List UInt8
def h49_0_0 (v : Int × Int × List AV × List AV × List AV × Int × Int × Int × Int × Int × Int × Int × Int × Int × Int × Int × Int × Int × Int × List AV × List AV × List AV × List AV × List AV × Int × Int × Int × Int × List UInt8 × List UInt8 × List UInt8) : St := ⟨[(1004900, .junk), (1, .int .i64 v.1), (2, .ref 0 0 0), (4, .ref 1 0 0), (6, .int .i64 v.2.1)], [(0, .box [.view 2 v.2.2.1, .view 3 v.2.2.2.1, .view 4 v.2.2.2.2.1, .int .i64 v.2.2.2.2.2.1, .int .i64 v.2.2.2.2.2.2.1, .int .i64 v.2.2.2.2.2.2.2.1, .int .i64 v.2.2.2.2.2.2.2.2.1, .int .i64 v.2.2.2.2.2.2.2.2.2.1, .int .i64 v.2.2.2.2.2.2.2.2.2.2.1, .int .i64 v.2.2.2.2.2.2.2.2.2.2.2.1, .int .i64 v.2.2.2.2.2.2.2.2.2.2.2.2.1, .int .i64 v.2.2.2.2.2.2.2.2.2.2.2.2.2.1, .int .i64 v.2.2.2.2.2.2.2.2.2.2.2.2.2.2.1, .int .i64 v.2.2.2.2.2.2.2.2.2.2.2.2.2.2.2.1, .int .i64 v.2.2.2.2.2.2.2.2.2.2.2.2.2.2.2.2.1, .int .i64 v.2.2.2.2.2.2.2.2.2.2.2.2.2.2.2.2.2.1, .int .i64 v.2.2.2.2.2.2.2.2.2.2.2.2.2.2.2.2.2.2.1, .view 19 v.2.2.2.2.2.2.2.2.2.2.2.2.2.2.2.2.2.2.2.1, .view 7 v.2.2.2.2.2.2.2.2.2.2.2.2.2.2.2.2.2.2.2.2.1, .view 10 v.2.2.2.2.2.2.2.2.2.2.2.2.2.2.2.2.2.2.2.2.2.1, .view 6 v.2.2.2.2.2.2.2.2.2.2.2.2.2.2.2.2.2.2.2.2.2.2.1, .view 7 v.2.2.2.2.2.2.2.2.2.2.2.2.2.2.2.2.2.2.2.2.2.2.2.1] false), (1, .box [.int .i64 v.2.2.2.2.2.2.2.2.2.2.2.2.2.2.2.2.2.2.2.2.2.2.2.2.1, .int .i64 v.2.2.2.2.2.2.2.2.2.2.2.2.2.2.2.2.2.2.2.2.2.2.2.2.2.1, .int .i64 v.2.2.2.2.2.2.2.2.2.2.2.2.2.2.2.2.2.2.2.2.2.2.2.2.2.2.1, .int .i64 v.2.2.2.2.2.2.2.2.2.2.2.2.2.2.2.2.2.2.2.2.2.2.2.2.2.2.2.1, .str v.2.2.2.2.2.2.2.2.2.2.2.2.2.2.2.2.2.2.2.2.2.2.2.2.2.2.2.2.1, .str v.2.2.2.2.2.2.2.2.2.2.2.2.2.2.2.2.2.2.2.2.2.2.2.2.2.2.2.2.2.1, .str v.2.2.2.2.2.2.2.2.2.2.2.2.2.2.2.2.2.2.2.2.2.2.2.2.2.2.2.2.2.2] false)], 2, 0⟩
def h49_0 : TT49_0 → St := (fun v => h49_0_0 v)
def d49_0 : St → Option TT49_0 := sDec ⟨[(1004900, .junk), (1, .int .i64), (2, .ref 0 0 0), (4, .ref 1 0 0), (6, .int .i64)], [(0, .box [.view 2, .view 3, .view 4, .int .i64, .int .i64, .int .i64, .int .i64, .int .i64, .int .i64, .int .i64, .int .i64, .int .i64, .int .i64, .int .i64, .int .i64, .int .i64, .int .i64, .view 19, .view 7, .view 10, .view 6, .view 7] false), (1, .box [.int .i64, .int .i64, .int .i64, .int .i64, .str, .str, .str] false)], 2, 0⟩ (fun ls => eatI ls fun x0 ls => eatI ls fun x1 ls => eatL ls fun x2 ls => eatL ls fun x3 ls => eatL ls fun x4 ls => eatI ls fun x5 ls => eatI ls fun x6 ls => eatI ls fun x7 ls => eatI ls fun x8 ls => eatI ls fun x9 ls => eatI ls fun x10 ls => eatI ls fun x11 ls => eatI ls fun x12 ls => eatI ls fun x13 ls => eatI ls fun x14 ls => eatI ls fun x15 ls => eatI ls fun x16 ls => eatI ls fun x17 ls => eatI ls fun x18 ls => eatL ls fun x19 ls => eatL ls fun x20 ls => eatL ls fun x21 ls => eatL ls fun x22 ls => eatL ls fun x23 ls => eatI ls fun x24 ls => eatI ls fun x25 ls => eatI ls fun x26 ls => eatI ls fun x27 ls => eatS ls fun x28 ls => eatS ls fun x29 ls => eatS ls fun x30 ls => eat0 ls (x0, x1, x2, x3, x4, x5, x6, x7, x8, x9, x10, x11, x12, x13, x14, x15, x16, x17, x18, x19, x20, x21, x22, x23, x24, x25, x26, x27, x28, x29, x30)) (sNo)
theorem d49_0_ok : ∀ s v, d49_0 s = some v → s = h49_0 v := sDec_ok (by
  intro ls v h0
  obtain ⟨x0, ls0, rfl, h1⟩ := eatI_some h0
  obtain ⟨x1, ls1, rfl, h2⟩ := eatI_some h1
  obtain ⟨x2, ls2, rfl, h3⟩ := eatL_some h2
  obtain ⟨x3, ls3, rfl, h4⟩ := eatL_some h3
  obtain ⟨x4, ls4, rfl, h5⟩ := eatL_some h4
  obtain ⟨x5, ls5, rfl, h6⟩ := eatI_some h5
  obtain ⟨x6, ls6, rfl, h7⟩ := eatI_some h6
  obtain ⟨x7, ls7, rfl, h8⟩ := eatI_some h7
  obtain ⟨x8, ls8, rfl, h9⟩ := eatI_some h8
  obtain ⟨x9, ls9, rfl, h10⟩ := eatI_some h9
  obtain ⟨x10, ls10, rfl, h11⟩ := eatI_some h10
  obtain ⟨x11, ls11, rfl, h12⟩ := eatI_some h11
  obtain ⟨x12, ls12, rfl, h13⟩ := eatI_some h12
  obtain ⟨x13, ls13, rfl, h14⟩ := eatI_some h13
  obtain ⟨x14, ls14, rfl, h15⟩ := eatI_some h14
  obtain ⟨x15, ls15, rfl, h16⟩ := eatI_some h15
  obtain ⟨x16, ls16, rfl, h17⟩ := eatI_some h16
  obtain ⟨x17, ls17, rfl, h18⟩ := eatI_some h17
  obtain ⟨x18, ls18, rfl, h19⟩ := eatI_some h18
  obtain ⟨x19, ls19, rfl, h20⟩ := eatL_some h19
  obtain ⟨x20, ls20, rfl, h21⟩ := eatL_some h20
  obtain ⟨x21, ls21, rfl, h22⟩ := eatL_some h21
  obtain ⟨x22, ls22, rfl, h23⟩ := eatL_some h22
  obtain ⟨x23, ls23, rfl, h24⟩ := eatL_some h23
  obtain ⟨x24, ls24, rfl, h25⟩ := eatI_some h24
  obtain ⟨x25, ls25, rfl, h26⟩ := eatI_some h25
  obtain ⟨x26, ls26, rfl, h27⟩ := eatI_some h26
  obtain ⟨x27, ls27, rfl, h28⟩ := eatI_some h27
  obtain ⟨x28, ls28, rfl, h29⟩ := eatS_some h28
  obtain ⟨x29, ls29, rfl, h30⟩ := eatS_some h29
  obtain ⟨x30, ls30, rfl, h31⟩ := eatS_some h30
  obtain ⟨rfl, rfl⟩ := eat0_some h31
  rfl
) (sNo_ok)
theorem n49_0_0 (v : Int × Int × List AV × List AV × List AV × Int × Int × Int × Int × Int × Int × Int × Int × Int × Int × Int × Int × Int × Int × List AV × List AV × List AV × List AV × List AV × Int × Int × Int × Int × List UInt8 × List UInt8 × List UInt8) : norm (hk (loopAt F49 0).1) (h49_0_0 v) = some (h49_0_0 v) := by kernel_rfl
noncomputable def x49_0_0 (x0 : Int) (x1 : Int) (x2 : List AV) (x3 : List AV) (x4 : List AV) (x5 : Int) (x6 : Int) (x7 : Int) (x8 : Int) (x9 : Int) (x10 : Int) (x11 : Int) (x12 : Int) (x13 : Int) (x14 : Int) (x15 : Int) (x16 : Int) (x17 : Int) (x18 : Int) (x19 : List AV) (x20 : List AV) (x21 : List AV) (x22 : List AV) (x23 : List AV) (x24 : Int) (x25 : Int) (x26 : Int) (x27 : Int) (x28 : List UInt8) (x29 : List UInt8) (x30 : List UInt8) : X × St := (X.ret,
  { tm := [(4, AV.ref 0 0 0), (5, AV.bool true)],
    hp :=
      [(0,
          Blk.box
            [AV.int IntKind.i64 (intOf (cellAt x20 x1 0)), AV.int IntKind.i64 (intOf (cellAt x20 x1 1)), AV.int IntKind.i64 (intOf (cellAt x20 x1 2)),
              AV.int IntKind.i64 (intOf (cellAt x20 x1 3)), AV.str (strOf (cellAt x20 x1 4)), AV.str (strOf (cellAt x20 x1 5)), AV.str (strOf (cellAt x20 x1 6))]
            false)],
    nx := 1, k := 0 })
noncomputable def x49_0_1 (x0 : Int) (x1 : Int) (x2 : List AV) (x3 : List AV) (x4 : List AV) (x5 : Int) (x6 : Int) (x7 : Int) (x8 : Int) (x9 : Int) (x10 : Int) (x11 : Int) (x12 : Int) (x13 : Int) (x14 : Int) (x15 : Int) (x16 : Int) (x17 : Int) (x18 : Int) (x19 : List AV) (x20 : List AV) (x21 : List AV) (x22 : List AV) (x23 : List AV) (x24 : Int) (x25 : Int) (x26 : Int) (x27 : Int) (x28 : List UInt8) (x29 : List UInt8) (x30 : List UInt8) : X × St := (X.exit 0,
  { tm := [(4, AV.ref 0 0 0), (5, AV.junk)],
    hp := [(0, Blk.box [AV.int IntKind.i64 x24, AV.int IntKind.i64 x25, AV.int IntKind.i64 x26, AV.int IntKind.i64 x27, AV.str x28, AV.str x29, AV.str x30] false)], nx := 1,
    k := 0 })
noncomputable def x49_0 : Nat → TT49_0 → X × St := fun j w => match j with
  | 0 => x49_0_0 w.1 w.2.1 w.2.2.1 w.2.2.2.1 w.2.2.2.2.1 w.2.2.2.2.2.1 w.2.2.2.2.2.2.1 w.2.2.2.2.2.2.2.1 w.2.2.2.2.2.2.2.2.1 w.2.2.2.2.2.2.2.2.2.1 w.2.2.2.2.2.2.2.2.2.2.1 w.2.2.2.2.2.2.2.2.2.2.2.1 w.2.2.2.2.2.2.2.2.2.2.2.2.1 w.2.2.2.2.2.2.2.2.2.2.2.2.2.1 w.2.2.2.2.2.2.2.2.2.2.2.2.2.2.1 w.2.2.2.2.2.2.2.2.2.2.2.2.2.2.2.1 w.2.2.2.2.2.2.2.2.2.2.2.2.2.2.2.2.1 w.2.2.2.2.2.2.2.2.2.2.2.2.2.2.2.2.2.1 w.2.2.2.2.2.2.2.2.2.2.2.2.2.2.2.2.2.2.1 w.2.2.2.2.2.2.2.2.2.2.2.2.2.2.2.2.2.2.2.1 w.2.2.2.2.2.2.2.2.2.2.2.2.2.2.2.2.2.2.2.2.1 w.2.2.2.2.2.2.2.2.2.2.2.2.2.2.2.2.2.2.2.2.2.1 w.2.2.2.2.2.2.2.2.2.2.2.2.2.2.2.2.2.2.2.2.2.2.1 w.2.2.2.2.2.2.2.2.2.2.2.2.2.2.2.2.2.2.2.2.2.2.2.1 w.2.2.2.2.2.2.2.2.2.2.2.2.2.2.2.2.2.2.2.2.2.2.2.2.1 w.2.2.2.2.2.2.2.2.2.2.2.2.2.2.2.2.2.2.2.2.2.2.2.2.2.1 w.2.2.2.2.2.2.2.2.2.2.2.2.2.2.2.2.2.2.2.2.2.2.2.2.2.2.1 w.2.2.2.2.2.2.2.2.2.2.2.2.2.2.2.2.2.2.2.2.2.2.2.2.2.2.2.1 w.2.2.2.2.2.2.2.2.2.2.2.2.2.2.2.2.2.2.2.2.2.2.2.2.2.2.2.2.1 w.2.2.2.2.2.2.2.2.2.2.2.2.2.2.2.2.2.2.2.2.2.2.2.2.2.2.2.2.2.1 w.2.2.2.2.2.2.2.2.2.2.2.2.2.2.2.2.2.2.2.2.2.2.2.2.2.2.2.2.2.2
  | 1 => x49_0_1 w.1 w.2.1 w.2.2.1 w.2.2.2.1 w.2.2.2.2.1 w.2.2.2.2.2.1 w.2.2.2.2.2.2.1 w.2.2.2.2.2.2.2.1 w.2.2.2.2.2.2.2.2.1 w.2.2.2.2.2.2.2.2.2.1 w.2.2.2.2.2.2.2.2.2.2.1 w.2.2.2.2.2.2.2.2.2.2.2.1 w.2.2.2.2.2.2.2.2.2.2.2.2.1 w.2.2.2.2.2.2.2.2.2.2.2.2.2.1 w.2.2.2.2.2.2.2.2.2.2.2.2.2.2.1 w.2.2.2.2.2.2.2.2.2.2.2.2.2.2.2.1 w.2.2.2.2.2.2.2.2.2.2.2.2.2.2.2.2.1 w.2.2.2.2.2.2.2.2.2.2.2.2.2.2.2.2.2.1 w.2.2.2.2.2.2.2.2.2.2.2.2.2.2.2.2.2.2.1 w.2.2.2.2.2.2.2.2.2.2.2.2.2.2.2.2.2.2.2.1 w.2.2.2.2.2.2.2.2.2.2.2.2.2.2.2.2.2.2.2.2.1 w.2.2.2.2.2.2.2.2.2.2.2.2.2.2.2.2.2.2.2.2.2.1 w.2.2.2.2.2.2.2.2.2.2.2.2.2.2.2.2.2.2.2.2.2.2.1 w.2.2.2.2.2.2.2.2.2.2.2.2.2.2.2.2.2.2.2.2.2.2.2.1 w.2.2.2.2.2.2.2.2.2.2.2.2.2.2.2.2.2.2.2.2.2.2.2.2.1 w.2.2.2.2.2.2.2.2.2.2.2.2.2.2.2.2.2.2.2.2.2.2.2.2.2.1 w.2.2.2.2.2.2.2.2.2.2.2.2.2.2.2.2.2.2.2.2.2.2.2.2.2.2.1 w.2.2.2.2.2.2.2.2.2.2.2.2.2.2.2.2.2.2.2.2.2.2.2.2.2.2.2.1 w.2.2.2.2.2.2.2.2.2.2.2.2.2.2.2.2.2.2.2.2.2.2.2.2.2.2.2.2.1 w.2.2.2.2.2.2.2.2.2.2.2.2.2.2.2.2.2.2.2.2.2.2.2.2.2.2.2.2.2.1 w.2.2.2.2.2.2.2.2.2.2.2.2.2.2.2.2.2.2.2.2.2.2.2.2.2.2.2.2.2.2
  | _ => (.ret, ⟨[], [], 0, 0⟩)
theorem e49_0 : ∀ j v, outB (x49_0 j v).1 = true := fun j v => match j with
  | 0 => rfl
  | 1 => rfl
  | _ + 2 => rfl
noncomputable def st49_0_0 (x0 : Int) (x1 : Int) (x2 : List AV) (x3 : List AV) (x4 : List AV) (x5 : Int) (x6 : Int) (x7 : Int) (x8 : Int) (x9 : Int) (x10 : Int) (x11 : Int) (x12 : Int) (x13 : Int) (x14 : Int) (x15 : Int) (x16 : Int) (x17 : Int) (x18 : Int) (x19 : List AV) (x20 : List AV) (x21 : List AV) (x22 : List AV) (x23 : List AV) (x24 : Int) (x25 : Int) (x26 : Int) (x27 : Int) (x28 : List UInt8) (x29 : List UInt8) (x30 : List UInt8) : DT (Rd TT49_0) :=
 .br (decide (x1 < (↑x20.length : Int)))
  (.br (okAt [CS.int IntKind.i64, CS.int IntKind.i64, CS.int IntKind.i64, CS.int IntKind.i64, CS.str, CS.str, CS.str] x20 x1)
   (.br (intOf (cellAt x20 x1 0) == x0)
    (.br (okAt [CS.int IntKind.i64, CS.int IntKind.i64, CS.int IntKind.i64, CS.int IntKind.i64, CS.str, CS.str, CS.str] x20 x1) (.at (.done 0)) (.no))
    (.at (.next ((x0, IntKind.i64.wrap (x1 + 1), x2, x3, x4, x5, x6, x7, x8, x9, x10, x11, x12, x13, x14, x15, x16, x17, x18, x19, x20, x21, x22, x23, x24, x25, x26, x27, x28, x29, x30)))))
   (.no))
  (.at (.done 1))
noncomputable def st49_0 : TT49_0 → DT (Rd TT49_0) := (fun v => st49_0_0 v.1 v.2.1 v.2.2.1 v.2.2.2.1 v.2.2.2.2.1 v.2.2.2.2.2.1 v.2.2.2.2.2.2.1 v.2.2.2.2.2.2.2.1 v.2.2.2.2.2.2.2.2.1 v.2.2.2.2.2.2.2.2.2.1 v.2.2.2.2.2.2.2.2.2.2.1 v.2.2.2.2.2.2.2.2.2.2.2.1 v.2.2.2.2.2.2.2.2.2.2.2.2.1 v.2.2.2.2.2.2.2.2.2.2.2.2.2.1 v.2.2.2.2.2.2.2.2.2.2.2.2.2.2.1 v.2.2.2.2.2.2.2.2.2.2.2.2.2.2.2.1 v.2.2.2.2.2.2.2.2.2.2.2.2.2.2.2.2.1 v.2.2.2.2.2.2.2.2.2.2.2.2.2.2.2.2.2.1 v.2.2.2.2.2.2.2.2.2.2.2.2.2.2.2.2.2.2.1 v.2.2.2.2.2.2.2.2.2.2.2.2.2.2.2.2.2.2.2.1 v.2.2.2.2.2.2.2.2.2.2.2.2.2.2.2.2.2.2.2.2.1 v.2.2.2.2.2.2.2.2.2.2.2.2.2.2.2.2.2.2.2.2.2.1 v.2.2.2.2.2.2.2.2.2.2.2.2.2.2.2.2.2.2.2.2.2.2.1 v.2.2.2.2.2.2.2.2.2.2.2.2.2.2.2.2.2.2.2.2.2.2.2.1 v.2.2.2.2.2.2.2.2.2.2.2.2.2.2.2.2.2.2.2.2.2.2.2.2.1 v.2.2.2.2.2.2.2.2.2.2.2.2.2.2.2.2.2.2.2.2.2.2.2.2.2.1 v.2.2.2.2.2.2.2.2.2.2.2.2.2.2.2.2.2.2.2.2.2.2.2.2.2.2.1 v.2.2.2.2.2.2.2.2.2.2.2.2.2.2.2.2.2.2.2.2.2.2.2.2.2.2.2.1 v.2.2.2.2.2.2.2.2.2.2.2.2.2.2.2.2.2.2.2.2.2.2.2.2.2.2.2.2.1 v.2.2.2.2.2.2.2.2.2.2.2.2.2.2.2.2.2.2.2.2.2.2.2.2.2.2.2.2.2.1 v.2.2.2.2.2.2.2.2.2.2.2.2.2.2.2.2.2.2.2.2.2.2.2.2.2.2.2.2.2.2)
noncomputable def T49_0 : Tab := [(34, cloneE 3 24), (35, cloneE 3 32)]
theorem T49_0_ok : TabOk IP (T49_0) := ⟨sp34, sp35, trivial⟩
noncomputable def L49_0 : LTab := []
theorem L49_0_ok : LOk IP (L49_0) (loops (loopAt F49 0).2) := LOk_of (l := []) (by kernel_rfl) trivial
theorem b49_0_0 (v : Int × Int × List AV × List AV × List AV × Int × Int × Int × Int × Int × Int × Int × Int × Int × Int × Int × Int × Int × Int × List AV × List AV × List AV × List AV × List AV × Int × Int × Int × Int × List UInt8 × List UInt8 × List UInt8) : execK (R := Rx TT49_0) IP (callT (T49_0)) (loopT (L49_0)) (loopAt F49 0).2 (h49_0_0 v) (endK (loopAt F49 0).1 d49_0) = (cvD (fun j => x49_0 j v) (st49_0_0 v.1 v.2.1 v.2.2.1 v.2.2.2.1 v.2.2.2.2.1 v.2.2.2.2.2.1 v.2.2.2.2.2.2.1 v.2.2.2.2.2.2.2.1 v.2.2.2.2.2.2.2.2.1 v.2.2.2.2.2.2.2.2.2.1 v.2.2.2.2.2.2.2.2.2.2.1 v.2.2.2.2.2.2.2.2.2.2.2.1 v.2.2.2.2.2.2.2.2.2.2.2.2.1 v.2.2.2.2.2.2.2.2.2.2.2.2.2.1 v.2.2.2.2.2.2.2.2.2.2.2.2.2.2.1 v.2.2.2.2.2.2.2.2.2.2.2.2.2.2.2.1 v.2.2.2.2.2.2.2.2.2.2.2.2.2.2.2.2.1 v.2.2.2.2.2.2.2.2.2.2.2.2.2.2.2.2.2.1 v.2.2.2.2.2.2.2.2.2.2.2.2.2.2.2.2.2.2.1 v.2.2.2.2.2.2.2.2.2.2.2.2.2.2.2.2.2.2.2.1 v.2.2.2.2.2.2.2.2.2.2.2.2.2.2.2.2.2.2.2.2.1 v.2.2.2.2.2.2.2.2.2.2.2.2.2.2.2.2.2.2.2.2.2.1 v.2.2.2.2.2.2.2.2.2.2.2.2.2.2.2.2.2.2.2.2.2.2.1 v.2.2.2.2.2.2.2.2.2.2.2.2.2.2.2.2.2.2.2.2.2.2.2.1 v.2.2.2.2.2.2.2.2.2.2.2.2.2.2.2.2.2.2.2.2.2.2.2.2.1 v.2.2.2.2.2.2.2.2.2.2.2.2.2.2.2.2.2.2.2.2.2.2.2.2.2.1 v.2.2.2.2.2.2.2.2.2.2.2.2.2.2.2.2.2.2.2.2.2.2.2.2.2.2.1 v.2.2.2.2.2.2.2.2.2.2.2.2.2.2.2.2.2.2.2.2.2.2.2.2.2.2.2.1 v.2.2.2.2.2.2.2.2.2.2.2.2.2.2.2.2.2.2.2.2.2.2.2.2.2.2.2.2.1 v.2.2.2.2.2.2.2.2.2.2.2.2.2.2.2.2.2.2.2.2.2.2.2.2.2.2.2.2.2.1 v.2.2.2.2.2.2.2.2.2.2.2.2.2.2.2.2.2.2.2.2.2.2.2.2.2.2.2.2.2.2)).ev := by kernel_rfl
noncomputable def l49_0 (v : TT49_0) : Option (Nat × TT49_0) := lock (iterO (fun v => (st49_0 v).ev) v)
theorem l49_0_eq (v : TT49_0) : l49_0 v = iterO (fun v => (st49_0 v).ev) v := lock_eq _
noncomputable def ll49_0 : LEnt := lEnt d49_0 (l49_0) (x49_0) 2
theorem t49_0 : Go.Eng.Told IP (loopAt F49 0).1 (loopAt F49 0).2 (ll49_0) := loop_of (st := st49_0) (T49_0_ok) (L49_0_ok) d49_0_ok (fun v => n49_0_0 v) (e49_0) (fun v => b49_0_0 v) (l49_0_eq)

end Go.Proofs.H53

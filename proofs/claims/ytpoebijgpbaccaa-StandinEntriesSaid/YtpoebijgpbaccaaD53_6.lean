/- Functions over plain data. Printed by a program of mine. -/
import Derived.Test.YtpoebijgpbaccaaD53_5
import Derived.KernelRfl
set_option linter.unusedVariables false
set_option linter.unusedSimpArgs false
set_option linter.unnecessarySimpa false
namespace Go.Proofs.H53
open Go Go.Eng
set_option maxRecDepth 100000

-- f49: 
abbrev A49 : Type := List AV × List AV × List AV × Int × Int × Int × Int × Int × Int × Int × Int × Int × Int × Int × Int × Int × Int × List AV × List AV × List AV × List AV × List AV × Int
abbrev B49 : Type := Int × Int × Int × Int × List UInt8 × List UInt8 × List UInt8 × Bool
def pa49 : PArgs := ⟨[.agg [.view 2, .view 3, .view 4, .int .i64, .int .i64, .int .i64, .int .i64, .int .i64, .int .i64, .int .i64, .int .i64, .int .i64, .int .i64, .int .i64, .int .i64, .int .i64, .int .i64, .view 19, .view 7, .view 10, .view 6, .view 7], .int .i64], []⟩
def to49 (ls : List Lf) : Option A49 := eatL ls fun x0 ls => eatL ls fun x1 ls => eatL ls fun x2 ls => eatI ls fun x3 ls => eatI ls fun x4 ls => eatI ls fun x5 ls => eatI ls fun x6 ls => eatI ls fun x7 ls => eatI ls fun x8 ls => eatI ls fun x9 ls => eatI ls fun x10 ls => eatI ls fun x11 ls => eatI ls fun x12 ls => eatI ls fun x13 ls => eatI ls fun x14 ls => eatI ls fun x15 ls => eatI ls fun x16 ls => eatL ls fun x17 ls => eatL ls fun x18 ls => eatL ls fun x19 ls => eatL ls fun x20 ls => eatL ls fun x21 ls => eatI ls fun x22 ls => eat0 ls (x0, x1, x2, x3, x4, x5, x6, x7, x8, x9, x10, x11, x12, x13, x14, x15, x16, x17, x18, x19, x20, x21, x22)
def ea49 (v : A49) : List AV × Heap := ([.agg [.view 2 v.1, .view 3 v.2.1, .view 4 v.2.2.1, .int .i64 v.2.2.2.1, .int .i64 v.2.2.2.2.1, .int .i64 v.2.2.2.2.2.1, .int .i64 v.2.2.2.2.2.2.1, .int .i64 v.2.2.2.2.2.2.2.1, .int .i64 v.2.2.2.2.2.2.2.2.1, .int .i64 v.2.2.2.2.2.2.2.2.2.1, .int .i64 v.2.2.2.2.2.2.2.2.2.2.1, .int .i64 v.2.2.2.2.2.2.2.2.2.2.2.1, .int .i64 v.2.2.2.2.2.2.2.2.2.2.2.2.1, .int .i64 v.2.2.2.2.2.2.2.2.2.2.2.2.2.1, .int .i64 v.2.2.2.2.2.2.2.2.2.2.2.2.2.2.1, .int .i64 v.2.2.2.2.2.2.2.2.2.2.2.2.2.2.2.1, .int .i64 v.2.2.2.2.2.2.2.2.2.2.2.2.2.2.2.2.1, .view 19 v.2.2.2.2.2.2.2.2.2.2.2.2.2.2.2.2.2.1, .view 7 v.2.2.2.2.2.2.2.2.2.2.2.2.2.2.2.2.2.2.1, .view 10 v.2.2.2.2.2.2.2.2.2.2.2.2.2.2.2.2.2.2.2.1, .view 6 v.2.2.2.2.2.2.2.2.2.2.2.2.2.2.2.2.2.2.2.2.1, .view 7 v.2.2.2.2.2.2.2.2.2.2.2.2.2.2.2.2.2.2.2.2.2.1], .int .i64 v.2.2.2.2.2.2.2.2.2.2.2.2.2.2.2.2.2.2.2.2.2.2], [])
def er49_0 (v : Int × Int × Int × Int × List UInt8 × List UInt8 × List UInt8 × Bool) : Res × Heap := (.ret (.tup [.agg [.int .i64 v.1, .int .i64 v.2.1, .int .i64 v.2.2.1, .int .i64 v.2.2.2.1, .str v.2.2.2.2.1, .str v.2.2.2.2.2.1, .str v.2.2.2.2.2.2.1], .bool v.2.2.2.2.2.2.2]), [])
def er49 : B49 → Res × Heap := er49_0
def en49 : Option B49 → List (Bool × Res × Heap) := (E1 er49_0)
def rd49 : Res → Heap → Option B49 := rDec ⟨false, .tup [.agg [.int .i64, .int .i64, .int .i64, .int .i64, .str, .str, .str], .bool], []⟩ (fun ls => eatI ls fun x0 ls => eatI ls fun x1 ls => eatI ls fun x2 ls => eatI ls fun x3 ls => eatS ls fun x4 ls => eatS ls fun x5 ls => eatS ls fun x6 ls => eatB ls fun x7 ls => eat0 ls (x0, x1, x2, x3, x4, x5, x6, x7)) (rNo)
theorem to49_ok : ∀ ls v, to49 ls = some v → fArgs pa49 ls = ea49 v := by
  intro ls v h0
  unfold to49 at h0
  obtain ⟨x0, ls0, rfl, h1⟩ := eatL_some h0
  obtain ⟨x1, ls1, rfl, h2⟩ := eatL_some h1
  obtain ⟨x2, ls2, rfl, h3⟩ := eatL_some h2
  obtain ⟨x3, ls3, rfl, h4⟩ := eatI_some h3
  obtain ⟨x4, ls4, rfl, h5⟩ := eatI_some h4
  obtain ⟨x5, ls5, rfl, h6⟩ := eatI_some h5
  obtain ⟨x6, ls6, rfl, h7⟩ := eatI_some h6
  obtain ⟨x7, ls7, rfl, h8⟩ := eatI_some h7
  obtain ⟨x8, ls8, rfl, h9⟩ := eatI_some h8
  obtain ⟨x9, ls9, rfl, h10⟩ := eatI_some h9
  obtain ⟨x10, ls10, rfl, h11⟩ := eatI_some h10
  obtain ⟨x11, ls11, rfl, h12⟩ := eatI_some h11
  obtain ⟨x12, ls12, rfl, h13⟩ := eatI_some h12
  obtain ⟨x13, ls13, rfl, h14⟩ := eatI_some h13
  obtain ⟨x14, ls14, rfl, h15⟩ := eatI_some h14
  obtain ⟨x15, ls15, rfl, h16⟩ := eatI_some h15
  obtain ⟨x16, ls16, rfl, h17⟩ := eatI_some h16
  obtain ⟨x17, ls17, rfl, h18⟩ := eatL_some h17
  obtain ⟨x18, ls18, rfl, h19⟩ := eatL_some h18
  obtain ⟨x19, ls19, rfl, h20⟩ := eatL_some h19
  obtain ⟨x20, ls20, rfl, h21⟩ := eatL_some h20
  obtain ⟨x21, ls21, rfl, h22⟩ := eatL_some h21
  obtain ⟨x22, ls22, rfl, h23⟩ := eatI_some h22
  obtain ⟨rfl, rfl⟩ := eat0_some h23
  rfl
theorem rd49_ok : ∀ r h y, rd49 r h = some y → (r, h) = er49 y := rDec_ok (by
  intro ls v h0
  obtain ⟨x0, ls0, rfl, h1⟩ := eatI_some h0
  obtain ⟨x1, ls1, rfl, h2⟩ := eatI_some h1
  obtain ⟨x2, ls2, rfl, h3⟩ := eatI_some h2
  obtain ⟨x3, ls3, rfl, h4⟩ := eatI_some h3
  obtain ⟨x4, ls4, rfl, h5⟩ := eatS_some h4
  obtain ⟨x5, ls5, rfl, h6⟩ := eatS_some h5
  obtain ⟨x6, ls6, rfl, h7⟩ := eatS_some h6
  obtain ⟨x7, ls7, rfl, h8⟩ := eatB_some h7
  obtain ⟨rfl, rfl⟩ := eat0_some h8
  rfl
) (rNo_ok)
noncomputable def g49 (G : (List AV) → (List AV) → (List AV) → Int → Int → Int → Int → Int → Int → Int → Int → Int → Int → Int → Int → Int → Int → (List AV) → (List AV) → (List AV) → (List AV) → (List AV) → Int → Option B49) : Ent := fEnt pa49 to49 (fun v => G v.1 v.2.1 v.2.2.1 v.2.2.2.1 v.2.2.2.2.1 v.2.2.2.2.2.1 v.2.2.2.2.2.2.1 v.2.2.2.2.2.2.2.1 v.2.2.2.2.2.2.2.2.1 v.2.2.2.2.2.2.2.2.2.1 v.2.2.2.2.2.2.2.2.2.2.1 v.2.2.2.2.2.2.2.2.2.2.2.1 v.2.2.2.2.2.2.2.2.2.2.2.2.1 v.2.2.2.2.2.2.2.2.2.2.2.2.2.1 v.2.2.2.2.2.2.2.2.2.2.2.2.2.2.1 v.2.2.2.2.2.2.2.2.2.2.2.2.2.2.2.1 v.2.2.2.2.2.2.2.2.2.2.2.2.2.2.2.2.1 v.2.2.2.2.2.2.2.2.2.2.2.2.2.2.2.2.2.1 v.2.2.2.2.2.2.2.2.2.2.2.2.2.2.2.2.2.2.1 v.2.2.2.2.2.2.2.2.2.2.2.2.2.2.2.2.2.2.2.1 v.2.2.2.2.2.2.2.2.2.2.2.2.2.2.2.2.2.2.2.2.1 v.2.2.2.2.2.2.2.2.2.2.2.2.2.2.2.2.2.2.2.2.2.1 v.2.2.2.2.2.2.2.2.2.2.2.2.2.2.2.2.2.2.2.2.2.2) en49
theorem g49_ok (G : (List AV) → (List AV) → (List AV) → Int → Int → Int → Int → Int → Int → Int → Int → Int → Int → Int → Int → Int → Int → (List AV) → (List AV) → (List AV) → (List AV) → (List AV) → Int → Option B49) (hG : ∀ v y, G v.1 v.2.1 v.2.2.1 v.2.2.2.1 v.2.2.2.2.1 v.2.2.2.2.2.1 v.2.2.2.2.2.2.1 v.2.2.2.2.2.2.2.1 v.2.2.2.2.2.2.2.2.1 v.2.2.2.2.2.2.2.2.2.1 v.2.2.2.2.2.2.2.2.2.2.1 v.2.2.2.2.2.2.2.2.2.2.2.1 v.2.2.2.2.2.2.2.2.2.2.2.2.1 v.2.2.2.2.2.2.2.2.2.2.2.2.2.1 v.2.2.2.2.2.2.2.2.2.2.2.2.2.2.1 v.2.2.2.2.2.2.2.2.2.2.2.2.2.2.2.1 v.2.2.2.2.2.2.2.2.2.2.2.2.2.2.2.2.1 v.2.2.2.2.2.2.2.2.2.2.2.2.2.2.2.2.2.1 v.2.2.2.2.2.2.2.2.2.2.2.2.2.2.2.2.2.2.1 v.2.2.2.2.2.2.2.2.2.2.2.2.2.2.2.2.2.2.2.1 v.2.2.2.2.2.2.2.2.2.2.2.2.2.2.2.2.2.2.2.2.1 v.2.2.2.2.2.2.2.2.2.2.2.2.2.2.2.2.2.2.2.2.2.1 v.2.2.2.2.2.2.2.2.2.2.2.2.2.2.2.2.2.2.2.2.2.2 = some y → callO IP 49 (ea49 v).1 (ea49 v).2 = some (er49 y)) : Snd IP 49 (g49 G) := fEnt_ok to49_ok E1_ok hG
noncomputable def tr49 (x0 : List AV) (x1 : List AV) (x2 : List AV) (x3 : Int) (x4 : Int) (x5 : Int) (x6 : Int) (x7 : Int) (x8 : Int) (x9 : Int) (x10 : Int) (x11 : Int) (x12 : Int) (x13 : Int) (x14 : Int) (x15 : Int) (x16 : Int) (x17 : List AV) (x18 : List AV) (x19 : List AV) (x20 : List AV) (x21 : List AV) (x22 : Int) : DT B49 :=
 .bi (pj 0 (l49_0 (x22, 0, x0, x1, x2, x3, x4, x5, x6, x7, x8, x9, x10, x11, x12, x13, x14, x15, x16, x17, x18, x19, x20, x21, 0, 0, 0, 0, [], [], []))) (fun y0 =>
  .at ((intOf (cellAt y0.snd.snd.snd.snd.snd.snd.snd.snd.snd.snd.snd.snd.snd.snd.snd.snd.snd.snd.snd.snd.fst y0.snd.fst 0), intOf (cellAt y0.snd.snd.snd.snd.snd.snd.snd.snd.snd.snd.snd.snd.snd.snd.snd.snd.snd.snd.snd.snd.fst y0.snd.fst 1), intOf (cellAt y0.snd.snd.snd.snd.snd.snd.snd.snd.snd.snd.snd.snd.snd.snd.snd.snd.snd.snd.snd.snd.fst y0.snd.fst 2), intOf (cellAt y0.snd.snd.snd.snd.snd.snd.snd.snd.snd.snd.snd.snd.snd.snd.snd.snd.snd.snd.snd.snd.fst y0.snd.fst 3), strOf (cellAt y0.snd.snd.snd.snd.snd.snd.snd.snd.snd.snd.snd.snd.snd.snd.snd.snd.snd.snd.snd.snd.fst y0.snd.fst 4), strOf (cellAt y0.snd.snd.snd.snd.snd.snd.snd.snd.snd.snd.snd.snd.snd.snd.snd.snd.snd.snd.snd.snd.fst y0.snd.fst 5), strOf (cellAt y0.snd.snd.snd.snd.snd.snd.snd.snd.snd.snd.snd.snd.snd.snd.snd.snd.snd.snd.snd.snd.fst y0.snd.fst 6), true)))
  (.bi (pj 1 (l49_0 (x22, 0, x0, x1, x2, x3, x4, x5, x6, x7, x8, x9, x10, x11, x12, x13, x14, x15, x16, x17, x18, x19, x20, x21, 0, 0, 0, 0, [], [], []))) (fun y0 =>
   .at ((0, 0, 0, 0, [], [], [], false)))
   (.no))
noncomputable def T49 : Tab := [(34, cloneE 3 24), (35, cloneE 3 32)]
theorem T49_ok : TabOk IP (T49) := ⟨sp34, sp35, trivial⟩
noncomputable def L49 : LTab := [(1004900, ll49_0)]
theorem L49_ok : LOk IP (L49) (loops F49.body) := LOk_of (l := [loopAt F49 0]) (by kernel_rfl) ⟨sel_one (by kernel_rfl) t49_0, trivial⟩
theorem b49 (v : A49) : bodyK (R := B49) IP (callT (T49)) (loopT (L49)) 49 F49 (ea49 v).1 (ea49 v).2 rd49 = (tr49 v.1 v.2.1 v.2.2.1 v.2.2.2.1 v.2.2.2.2.1 v.2.2.2.2.2.1 v.2.2.2.2.2.2.1 v.2.2.2.2.2.2.2.1 v.2.2.2.2.2.2.2.2.1 v.2.2.2.2.2.2.2.2.2.1 v.2.2.2.2.2.2.2.2.2.2.1 v.2.2.2.2.2.2.2.2.2.2.2.1 v.2.2.2.2.2.2.2.2.2.2.2.2.1 v.2.2.2.2.2.2.2.2.2.2.2.2.2.1 v.2.2.2.2.2.2.2.2.2.2.2.2.2.2.1 v.2.2.2.2.2.2.2.2.2.2.2.2.2.2.2.1 v.2.2.2.2.2.2.2.2.2.2.2.2.2.2.2.2.1 v.2.2.2.2.2.2.2.2.2.2.2.2.2.2.2.2.2.1 v.2.2.2.2.2.2.2.2.2.2.2.2.2.2.2.2.2.2.1 v.2.2.2.2.2.2.2.2.2.2.2.2.2.2.2.2.2.2.2.1 v.2.2.2.2.2.2.2.2.2.2.2.2.2.2.2.2.2.2.2.2.1 v.2.2.2.2.2.2.2.2.2.2.2.2.2.2.2.2.2.2.2.2.2.1 v.2.2.2.2.2.2.2.2.2.2.2.2.2.2.2.2.2.2.2.2.2.2).ev := by kernel_rfl
/--  -/
noncomputable def f49 (x0 : List AV) (x1 : List AV) (x2 : List AV) (x3 : Int) (x4 : Int) (x5 : Int) (x6 : Int) (x7 : Int) (x8 : Int) (x9 : Int) (x10 : Int) (x11 : Int) (x12 : Int) (x13 : Int) (x14 : Int) (x15 : Int) (x16 : Int) (x17 : List AV) (x18 : List AV) (x19 : List AV) (x20 : List AV) (x21 : List AV) (x22 : Int) : Option B49 := lock (tr49 x0 x1 x2 x3 x4 x5 x6 x7 x8 x9 x10 x11 x12 x13 x14 x15 x16 x17 x18 x19 x20 x21 x22).ev
theorem f49_eq (x0 : List AV) (x1 : List AV) (x2 : List AV) (x3 : Int) (x4 : Int) (x5 : Int) (x6 : Int) (x7 : Int) (x8 : Int) (x9 : Int) (x10 : Int) (x11 : Int) (x12 : Int) (x13 : Int) (x14 : Int) (x15 : Int) (x16 : Int) (x17 : List AV) (x18 : List AV) (x19 : List AV) (x20 : List AV) (x21 : List AV) (x22 : Int) : f49 x0 x1 x2 x3 x4 x5 x6 x7 x8 x9 x10 x11 x12 x13 x14 x15 x16 x17 x18 x19 x20 x21 x22 = (tr49 x0 x1 x2 x3 x4 x5 x6 x7 x8 x9 x10 x11 x12 x13 x14 x15 x16 x17 x18 x19 x20 x21 x22).ev := lock_eq _
theorem c49 : ∀ v y, f49 v.1 v.2.1 v.2.2.1 v.2.2.2.1 v.2.2.2.2.1 v.2.2.2.2.2.1 v.2.2.2.2.2.2.1 v.2.2.2.2.2.2.2.1 v.2.2.2.2.2.2.2.2.1 v.2.2.2.2.2.2.2.2.2.1 v.2.2.2.2.2.2.2.2.2.2.1 v.2.2.2.2.2.2.2.2.2.2.2.1 v.2.2.2.2.2.2.2.2.2.2.2.2.1 v.2.2.2.2.2.2.2.2.2.2.2.2.2.1 v.2.2.2.2.2.2.2.2.2.2.2.2.2.2.1 v.2.2.2.2.2.2.2.2.2.2.2.2.2.2.2.1 v.2.2.2.2.2.2.2.2.2.2.2.2.2.2.2.2.1 v.2.2.2.2.2.2.2.2.2.2.2.2.2.2.2.2.2.1 v.2.2.2.2.2.2.2.2.2.2.2.2.2.2.2.2.2.2.1 v.2.2.2.2.2.2.2.2.2.2.2.2.2.2.2.2.2.2.2.1 v.2.2.2.2.2.2.2.2.2.2.2.2.2.2.2.2.2.2.2.2.1 v.2.2.2.2.2.2.2.2.2.2.2.2.2.2.2.2.2.2.2.2.2.1 v.2.2.2.2.2.2.2.2.2.2.2.2.2.2.2.2.2.2.2.2.2.2 = some y → callO IP 49 (ea49 v).1 (ea49 v).2 = some (er49 y) := fun v y h => fun_of T49_ok (by kernel_rfl) L49_ok rd49_ok (b49 v) ((f49_eq v.1 v.2.1 v.2.2.1 v.2.2.2.1 v.2.2.2.2.1 v.2.2.2.2.2.1 v.2.2.2.2.2.2.1 v.2.2.2.2.2.2.2.1 v.2.2.2.2.2.2.2.2.1 v.2.2.2.2.2.2.2.2.2.1 v.2.2.2.2.2.2.2.2.2.2.1 v.2.2.2.2.2.2.2.2.2.2.2.1 v.2.2.2.2.2.2.2.2.2.2.2.2.1 v.2.2.2.2.2.2.2.2.2.2.2.2.2.1 v.2.2.2.2.2.2.2.2.2.2.2.2.2.2.1 v.2.2.2.2.2.2.2.2.2.2.2.2.2.2.2.1 v.2.2.2.2.2.2.2.2.2.2.2.2.2.2.2.2.1 v.2.2.2.2.2.2.2.2.2.2.2.2.2.2.2.2.2.1 v.2.2.2.2.2.2.2.2.2.2.2.2.2.2.2.2.2.2.1 v.2.2.2.2.2.2.2.2.2.2.2.2.2.2.2.2.2.2.2.1 v.2.2.2.2.2.2.2.2.2.2.2.2.2.2.2.2.2.2.2.2.1 v.2.2.2.2.2.2.2.2.2.2.2.2.2.2.2.2.2.2.2.2.2.1 v.2.2.2.2.2.2.2.2.2.2.2.2.2.2.2.2.2.2.2.2.2.2).symm.trans h)
theorem s49 : Snd IP 49 (g49 f49) := g49_ok f49 c49

-- l50_0: loop 0 of function 50
abbrev TT50_0 : Type := List AV × List UInt8 × Int × Int × Int × List UInt8 × List UInt8 × List UInt8 × Int × Int × Int × Int × Bool × Int × Int × Bool × Bool × Int × Int × Bool
def h50_0_0 (v : List AV × List UInt8 × Int × Int × Int × List UInt8 × List UInt8 × List UInt8 × Int × Int × Int × Int × Bool × Int × Int × Bool × Bool × Int × Int × Bool) : St := ⟨[(1005000, .junk), (0, .view 19 v.1), (1, .str v.2.1), (2, .int .i64 v.2.2.1), (6, .ref 0 0 0), (8, .int .i64 v.2.2.2.1), (9, .int .i64 v.2.2.2.2.1)], [(0, .box [.str v.2.2.2.2.2.1, .str v.2.2.2.2.2.2.1, .str v.2.2.2.2.2.2.2.1, .int .i64 v.2.2.2.2.2.2.2.2.1, .int .i64 v.2.2.2.2.2.2.2.2.2.1, .int .i64 v.2.2.2.2.2.2.2.2.2.2.1, .int .i64 v.2.2.2.2.2.2.2.2.2.2.2.1, .nils 2, .bool v.2.2.2.2.2.2.2.2.2.2.2.2.1, .int .i64 v.2.2.2.2.2.2.2.2.2.2.2.2.2.1, .int .i64 v.2.2.2.2.2.2.2.2.2.2.2.2.2.2.1, .bool v.2.2.2.2.2.2.2.2.2.2.2.2.2.2.2.1, .nils 2, .bool v.2.2.2.2.2.2.2.2.2.2.2.2.2.2.2.2.1, .int .i64 v.2.2.2.2.2.2.2.2.2.2.2.2.2.2.2.2.2.1, .int .i64 v.2.2.2.2.2.2.2.2.2.2.2.2.2.2.2.2.2.2.1, .bool v.2.2.2.2.2.2.2.2.2.2.2.2.2.2.2.2.2.2.2, .nils 10, .nils 6] false)], 1, 0⟩
def h50_0 : TT50_0 → St := (fun v => h50_0_0 v)
def d50_0 : St → Option TT50_0 := sDec ⟨[(1005000, .junk), (0, .view 19), (1, .str), (2, .int .i64), (6, .ref 0 0 0), (8, .int .i64), (9, .int .i64)], [(0, .box [.str, .str, .str, .int .i64, .int .i64, .int .i64, .int .i64, .nils 2, .bool, .int .i64, .int .i64, .bool, .nils 2, .bool, .int .i64, .int .i64, .bool, .nils 10, .nils 6] false)], 1, 0⟩ (fun ls => eatL ls fun x0 ls => eatS ls fun x1 ls => eatI ls fun x2 ls => eatI ls fun x3 ls => eatI ls fun x4 ls => eatS ls fun x5 ls => eatS ls fun x6 ls => eatS ls fun x7 ls => eatI ls fun x8 ls => eatI ls fun x9 ls => eatI ls fun x10 ls => eatI ls fun x11 ls => eatB ls fun x12 ls => eatI ls fun x13 ls => eatI ls fun x14 ls => eatB ls fun x15 ls => eatB ls fun x16 ls => eatI ls fun x17 ls => eatI ls fun x18 ls => eatB ls fun x19 ls => eat0 ls (x0, x1, x2, x3, x4, x5, x6, x7, x8, x9, x10, x11, x12, x13, x14, x15, x16, x17, x18, x19)) (sNo)
theorem d50_0_ok : ∀ s v, d50_0 s = some v → s = h50_0 v := sDec_ok (by
  intro ls v h0
  obtain ⟨x0, ls0, rfl, h1⟩ := eatL_some h0
  obtain ⟨x1, ls1, rfl, h2⟩ := eatS_some h1
  obtain ⟨x2, ls2, rfl, h3⟩ := eatI_some h2
  obtain ⟨x3, ls3, rfl, h4⟩ := eatI_some h3
  obtain ⟨x4, ls4, rfl, h5⟩ := eatI_some h4
  obtain ⟨x5, ls5, rfl, h6⟩ := eatS_some h5
  obtain ⟨x6, ls6, rfl, h7⟩ := eatS_some h6
  obtain ⟨x7, ls7, rfl, h8⟩ := eatS_some h7
  obtain ⟨x8, ls8, rfl, h9⟩ := eatI_some h8
  obtain ⟨x9, ls9, rfl, h10⟩ := eatI_some h9
  obtain ⟨x10, ls10, rfl, h11⟩ := eatI_some h10
  obtain ⟨x11, ls11, rfl, h12⟩ := eatI_some h11
  obtain ⟨x12, ls12, rfl, h13⟩ := eatB_some h12
  obtain ⟨x13, ls13, rfl, h14⟩ := eatI_some h13
  obtain ⟨x14, ls14, rfl, h15⟩ := eatI_some h14
  obtain ⟨x15, ls15, rfl, h16⟩ := eatB_some h15
  obtain ⟨x16, ls16, rfl, h17⟩ := eatB_some h16
  obtain ⟨x17, ls17, rfl, h18⟩ := eatI_some h17
  obtain ⟨x18, ls18, rfl, h19⟩ := eatI_some h18
  obtain ⟨x19, ls19, rfl, h20⟩ := eatB_some h19
  obtain ⟨rfl, rfl⟩ := eat0_some h20
  rfl
) (sNo_ok)
theorem n50_0_0 (v : List AV × List UInt8 × Int × Int × Int × List UInt8 × List UInt8 × List UInt8 × Int × Int × Int × Int × Bool × Int × Int × Bool × Bool × Int × Int × Bool) : norm (hk (loopAt F50 0).1) (h50_0_0 v) = some (h50_0_0 v) := by kernel_rfl
noncomputable def x50_0_0 (x0 : List AV) (x1 : List UInt8) (x2 : Int) (x3 : Int) (x4 : Int) (x5 : List UInt8) (x6 : List UInt8) (x7 : List UInt8) (x8 : Int) (x9 : Int) (x10 : Int) (x11 : Int) (x12 : Bool) (x13 : Int) (x14 : Int) (x15 : Bool) (x16 : Bool) (x17 : Int) (x18 : Int) (x19 : Bool) : X × St := (X.exit 0,
  { tm := [(0, AV.view 19 x0), (6, AV.ref 0 0 0), (8, AV.int IntKind.i64 x3)],
    hp :=
      [(0,
          Blk.box
            [AV.str x5, AV.str x6, AV.str x7, AV.int IntKind.i64 x8, AV.int IntKind.i64 x9, AV.int IntKind.i64 x10, AV.int IntKind.i64 x11, AV.nils { sz := 2, kd := NKd.nil },
              AV.bool x12, AV.int IntKind.i64 x13, AV.int IntKind.i64 x14, AV.bool x15, AV.nils { sz := 2, kd := NKd.nil }, AV.bool x16, AV.int IntKind.i64 x17,
              AV.int IntKind.i64 x18, AV.bool x19, AV.nils { sz := 10, kd := NKd.nil }, AV.nils { sz := 6, kd := NKd.nil }]
            false)],
    nx := 1, k := 0 })
noncomputable def x50_0 : Nat → TT50_0 → X × St := fun j w => match j with
  | 0 => x50_0_0 w.1 w.2.1 w.2.2.1 w.2.2.2.1 w.2.2.2.2.1 w.2.2.2.2.2.1 w.2.2.2.2.2.2.1 w.2.2.2.2.2.2.2.1 w.2.2.2.2.2.2.2.2.1 w.2.2.2.2.2.2.2.2.2.1 w.2.2.2.2.2.2.2.2.2.2.1 w.2.2.2.2.2.2.2.2.2.2.2.1 w.2.2.2.2.2.2.2.2.2.2.2.2.1 w.2.2.2.2.2.2.2.2.2.2.2.2.2.1 w.2.2.2.2.2.2.2.2.2.2.2.2.2.2.1 w.2.2.2.2.2.2.2.2.2.2.2.2.2.2.2.1 w.2.2.2.2.2.2.2.2.2.2.2.2.2.2.2.2.1 w.2.2.2.2.2.2.2.2.2.2.2.2.2.2.2.2.2.1 w.2.2.2.2.2.2.2.2.2.2.2.2.2.2.2.2.2.2.1 w.2.2.2.2.2.2.2.2.2.2.2.2.2.2.2.2.2.2.2
  | _ => (.ret, ⟨[], [], 0, 0⟩)
theorem e50_0 : ∀ j v, outB (x50_0 j v).1 = true := fun j v => match j with
  | 0 => rfl
  | _ + 1 => rfl
noncomputable def st50_0_0 (x0 : List AV) (x1 : List UInt8) (x2 : Int) (x3 : Int) (x4 : Int) (x5 : List UInt8) (x6 : List UInt8) (x7 : List UInt8) (x8 : Int) (x9 : Int) (x10 : Int) (x11 : Int) (x12 : Bool) (x13 : Int) (x14 : Int) (x15 : Bool) (x16 : Bool) (x17 : Int) (x18 : Int) (x19 : Bool) : DT (Rd TT50_0) :=
 .br (decide (x4 < (↑x0.length : Int)))
  (.br (okAt
      [CS.str, CS.str, CS.str, CS.int IntKind.i64, CS.int IntKind.i64, CS.int IntKind.i64, CS.int IntKind.i64, CS.slice 2, CS.bool, CS.int IntKind.i64, CS.int IntKind.i64, CS.bool,
        CS.slice 2, CS.bool, CS.int IntKind.i64, CS.int IntKind.i64, CS.bool, CS.slice 10, CS.slice 6]
      x0 x4)
   (.br (strOf (cellAt x0 x4 0) == x1)
    (.br (okAt
        [CS.str, CS.str, CS.str, CS.int IntKind.i64, CS.int IntKind.i64, CS.int IntKind.i64, CS.int IntKind.i64, CS.slice 2, CS.bool, CS.int IntKind.i64, CS.int IntKind.i64, CS.bool,
          CS.slice 2, CS.bool, CS.int IntKind.i64, CS.int IntKind.i64, CS.bool, CS.slice 10, CS.slice 6]
        x0 x4)
     (.br (decide (intOf (cellAt x0 x4 3) ≤ x2))
      (.br (decide (x3 < 0))
       (.at (.next ((x0, x1, x2, x4, IntKind.i64.wrap (x4 + 1), x5, x6, x7, x8, x9, x10, x11, x12, x13, x14, x15, x16, x17, x18, x19))))
       (.br (okAt
           [CS.str, CS.str, CS.str, CS.int IntKind.i64, CS.int IntKind.i64, CS.int IntKind.i64, CS.int IntKind.i64, CS.slice 2, CS.bool, CS.int IntKind.i64, CS.int IntKind.i64, CS.bool,
             CS.slice 2, CS.bool, CS.int IntKind.i64, CS.int IntKind.i64, CS.bool, CS.slice 10, CS.slice 6]
           x0 x4)
        (.br (okAt
            [CS.str, CS.str, CS.str, CS.int IntKind.i64, CS.int IntKind.i64, CS.int IntKind.i64, CS.int IntKind.i64, CS.slice 2, CS.bool, CS.int IntKind.i64, CS.int IntKind.i64, CS.bool,
              CS.slice 2, CS.bool, CS.int IntKind.i64, CS.int IntKind.i64, CS.bool, CS.slice 10, CS.slice 6]
            x0 x3)
         (.br (decide (intOf (cellAt x0 x4 3) > intOf (cellAt x0 x3 3)))
          (.at (.next ((x0, x1, x2, x4, IntKind.i64.wrap (x4 + 1), x5, x6, x7, x8, x9, x10, x11, x12, x13, x14, x15, x16, x17, x18, x19))))
          (.at (.next ((x0, x1, x2, x3, IntKind.i64.wrap (x4 + 1), x5, x6, x7, x8, x9, x10, x11, x12, x13, x14, x15, x16, x17, x18, x19)))))
         (.no))
        (.no)))
      (.at (.next ((x0, x1, x2, x3, IntKind.i64.wrap (x4 + 1), x5, x6, x7, x8, x9, x10, x11, x12, x13, x14, x15, x16, x17, x18, x19)))))
     (.no))
    (.at (.next ((x0, x1, x2, x3, IntKind.i64.wrap (x4 + 1), x5, x6, x7, x8, x9, x10, x11, x12, x13, x14, x15, x16, x17, x18, x19)))))
   (.no))
  (.at (.done 0))
noncomputable def st50_0 : TT50_0 → DT (Rd TT50_0) := (fun v => st50_0_0 v.1 v.2.1 v.2.2.1 v.2.2.2.1 v.2.2.2.2.1 v.2.2.2.2.2.1 v.2.2.2.2.2.2.1 v.2.2.2.2.2.2.2.1 v.2.2.2.2.2.2.2.2.1 v.2.2.2.2.2.2.2.2.2.1 v.2.2.2.2.2.2.2.2.2.2.1 v.2.2.2.2.2.2.2.2.2.2.2.1 v.2.2.2.2.2.2.2.2.2.2.2.2.1 v.2.2.2.2.2.2.2.2.2.2.2.2.2.1 v.2.2.2.2.2.2.2.2.2.2.2.2.2.2.1 v.2.2.2.2.2.2.2.2.2.2.2.2.2.2.2.1 v.2.2.2.2.2.2.2.2.2.2.2.2.2.2.2.2.1 v.2.2.2.2.2.2.2.2.2.2.2.2.2.2.2.2.2.1 v.2.2.2.2.2.2.2.2.2.2.2.2.2.2.2.2.2.2.1 v.2.2.2.2.2.2.2.2.2.2.2.2.2.2.2.2.2.2.2)
noncomputable def T50_0 : Tab := [(34, cloneE 3 24), (35, cloneE 3 32)]
theorem T50_0_ok : TabOk IP (T50_0) := ⟨sp34, sp35, trivial⟩
noncomputable def L50_0 : LTab := []
theorem L50_0_ok : LOk IP (L50_0) (loops (loopAt F50 0).2) := LOk_of (l := []) (by kernel_rfl) trivial
theorem b50_0_0 (v : List AV × List UInt8 × Int × Int × Int × List UInt8 × List UInt8 × List UInt8 × Int × Int × Int × Int × Bool × Int × Int × Bool × Bool × Int × Int × Bool) : execK (R := Rx TT50_0) IP (callT (T50_0)) (loopT (L50_0)) (loopAt F50 0).2 (h50_0_0 v) (endK (loopAt F50 0).1 d50_0) = (cvD (fun j => x50_0 j v) (st50_0_0 v.1 v.2.1 v.2.2.1 v.2.2.2.1 v.2.2.2.2.1 v.2.2.2.2.2.1 v.2.2.2.2.2.2.1 v.2.2.2.2.2.2.2.1 v.2.2.2.2.2.2.2.2.1 v.2.2.2.2.2.2.2.2.2.1 v.2.2.2.2.2.2.2.2.2.2.1 v.2.2.2.2.2.2.2.2.2.2.2.1 v.2.2.2.2.2.2.2.2.2.2.2.2.1 v.2.2.2.2.2.2.2.2.2.2.2.2.2.1 v.2.2.2.2.2.2.2.2.2.2.2.2.2.2.1 v.2.2.2.2.2.2.2.2.2.2.2.2.2.2.2.1 v.2.2.2.2.2.2.2.2.2.2.2.2.2.2.2.2.1 v.2.2.2.2.2.2.2.2.2.2.2.2.2.2.2.2.2.1 v.2.2.2.2.2.2.2.2.2.2.2.2.2.2.2.2.2.2.1 v.2.2.2.2.2.2.2.2.2.2.2.2.2.2.2.2.2.2.2)).ev := by kernel_rfl
noncomputable def l50_0 (v : TT50_0) : Option (Nat × TT50_0) := lock (iterO (fun v => (st50_0 v).ev) v)
theorem l50_0_eq (v : TT50_0) : l50_0 v = iterO (fun v => (st50_0 v).ev) v := lock_eq _
noncomputable def ll50_0 : LEnt := lEnt d50_0 (l50_0) (x50_0) 1
theorem t50_0 : Go.Eng.Told IP (loopAt F50 0).1 (loopAt F50 0).2 (ll50_0) := loop_of (st := st50_0) (T50_0_ok) (L50_0_ok) d50_0_ok (fun v => n50_0_0 v) (e50_0) (fun v => b50_0_0 v) (l50_0_eq)

-- f50: 
abbrev A50 : Type := List AV × List UInt8 × Int
abbrev B50 : Type := List UInt8 × List UInt8 × List UInt8 × Int × Int × Int × Int × List AV × Bool × Int × Int × Bool × List AV × Bool × Int × Int × Bool × List AV × List AV × Bool
def pa50 : PArgs := ⟨[.view 19, .str, .int .i64], []⟩
def to50 (ls : List Lf) : Option A50 := eatL ls fun x0 ls => eatS ls fun x1 ls => eatI ls fun x2 ls => eat0 ls (x0, x1, x2)
def ea50 (v : A50) : List AV × Heap := ([.view 19 v.1, .str v.2.1, .int .i64 v.2.2], [])
def er50_0 (v : List UInt8 × List UInt8 × List UInt8 × Int × Int × Int × Int × List AV × Bool × Int × Int × Bool × List AV × Bool × Int × Int × Bool × List AV × List AV × Bool) : Res × Heap := (.ret (.tup [.agg [.str v.1, .str v.2.1, .str v.2.2.1, .int .i64 v.2.2.2.1, .int .i64 v.2.2.2.2.1, .int .i64 v.2.2.2.2.2.1, .int .i64 v.2.2.2.2.2.2.1, .view 2 v.2.2.2.2.2.2.2.1, .bool v.2.2.2.2.2.2.2.2.1, .int .i64 v.2.2.2.2.2.2.2.2.2.1, .int .i64 v.2.2.2.2.2.2.2.2.2.2.1, .bool v.2.2.2.2.2.2.2.2.2.2.2.1, .view 2 v.2.2.2.2.2.2.2.2.2.2.2.2.1, .bool v.2.2.2.2.2.2.2.2.2.2.2.2.2.1, .int .i64 v.2.2.2.2.2.2.2.2.2.2.2.2.2.2.1, .int .i64 v.2.2.2.2.2.2.2.2.2.2.2.2.2.2.2.1, .bool v.2.2.2.2.2.2.2.2.2.2.2.2.2.2.2.2.1, .view 10 v.2.2.2.2.2.2.2.2.2.2.2.2.2.2.2.2.2.1, .view 6 v.2.2.2.2.2.2.2.2.2.2.2.2.2.2.2.2.2.2.1], .bool v.2.2.2.2.2.2.2.2.2.2.2.2.2.2.2.2.2.2.2]), [])
def er50 : B50 → Res × Heap := er50_0
def en50 : Option B50 → List (Bool × Res × Heap) := (E1 er50_0)
def rd50 : Res → Heap → Option B50 := rDec ⟨false, .tup [.agg [.str, .str, .str, .int .i64, .int .i64, .int .i64, .int .i64, .view 2, .bool, .int .i64, .int .i64, .bool, .view 2, .bool, .int .i64, .int .i64, .bool, .view 10, .view 6], .bool], []⟩ (fun ls => eatS ls fun x0 ls => eatS ls fun x1 ls => eatS ls fun x2 ls => eatI ls fun x3 ls => eatI ls fun x4 ls => eatI ls fun x5 ls => eatI ls fun x6 ls => eatL ls fun x7 ls => eatB ls fun x8 ls => eatI ls fun x9 ls => eatI ls fun x10 ls => eatB ls fun x11 ls => eatL ls fun x12 ls => eatB ls fun x13 ls => eatI ls fun x14 ls => eatI ls fun x15 ls => eatB ls fun x16 ls => eatL ls fun x17 ls => eatL ls fun x18 ls => eatB ls fun x19 ls => eat0 ls (x0, x1, x2, x3, x4, x5, x6, x7, x8, x9, x10, x11, x12, x13, x14, x15, x16, x17, x18, x19)) (rNo)
theorem to50_ok : ∀ ls v, to50 ls = some v → fArgs pa50 ls = ea50 v := by
  intro ls v h0
  unfold to50 at h0
  obtain ⟨x0, ls0, rfl, h1⟩ := eatL_some h0
  obtain ⟨x1, ls1, rfl, h2⟩ := eatS_some h1
  obtain ⟨x2, ls2, rfl, h3⟩ := eatI_some h2
  obtain ⟨rfl, rfl⟩ := eat0_some h3
  rfl
theorem rd50_ok : ∀ r h y, rd50 r h = some y → (r, h) = er50 y := rDec_ok (by
  intro ls v h0
  obtain ⟨x0, ls0, rfl, h1⟩ := eatS_some h0
  obtain ⟨x1, ls1, rfl, h2⟩ := eatS_some h1
  obtain ⟨x2, ls2, rfl, h3⟩ := eatS_some h2
  obtain ⟨x3, ls3, rfl, h4⟩ := eatI_some h3
  obtain ⟨x4, ls4, rfl, h5⟩ := eatI_some h4
  obtain ⟨x5, ls5, rfl, h6⟩ := eatI_some h5
  obtain ⟨x6, ls6, rfl, h7⟩ := eatI_some h6
  obtain ⟨x7, ls7, rfl, h8⟩ := eatL_some h7
  obtain ⟨x8, ls8, rfl, h9⟩ := eatB_some h8
  obtain ⟨x9, ls9, rfl, h10⟩ := eatI_some h9
  obtain ⟨x10, ls10, rfl, h11⟩ := eatI_some h10
  obtain ⟨x11, ls11, rfl, h12⟩ := eatB_some h11
  obtain ⟨x12, ls12, rfl, h13⟩ := eatL_some h12
  obtain ⟨x13, ls13, rfl, h14⟩ := eatB_some h13
  obtain ⟨x14, ls14, rfl, h15⟩ := eatI_some h14
  obtain ⟨x15, ls15, rfl, h16⟩ := eatI_some h15
  obtain ⟨x16, ls16, rfl, h17⟩ := eatB_some h16
  obtain ⟨x17, ls17, rfl, h18⟩ := eatL_some h17
  obtain ⟨x18, ls18, rfl, h19⟩ := eatL_some h18
  obtain ⟨x19, ls19, rfl, h20⟩ := eatB_some h19
  obtain ⟨rfl, rfl⟩ := eat0_some h20
  rfl
) (rNo_ok)
noncomputable def g50 (G : (List AV) → (List UInt8) → Int → Option B50) : Ent := fEnt pa50 to50 (fun v => G v.1 v.2.1 v.2.2) en50
theorem g50_ok (G : (List AV) → (List UInt8) → Int → Option B50) (hG : ∀ v y, G v.1 v.2.1 v.2.2 = some y → callO IP 50 (ea50 v).1 (ea50 v).2 = some (er50 y)) : Snd IP 50 (g50 G) := fEnt_ok to50_ok E1_ok hG
noncomputable def tr50 (x0 : List AV) (x1 : List UInt8) (x2 : Int) : DT B50 :=
 .bi (pj 0 (l50_0 (x0, x1, x2, -1, 0, [], [], [], 0, 0, 0, 0, false, 0, 0, false, false, 0, 0, false))) (fun y0 =>
  .br (decide (y0.snd.snd.snd.fst < 0))
   (.at (([], [], [], 0, 0, 0, 0, [], false, 0, 0, false, [], false, 0, 0, false, [], [], false)))
   (.br (okAt
       [CS.str, CS.str, CS.str, CS.int IntKind.i64, CS.int IntKind.i64, CS.int IntKind.i64, CS.int IntKind.i64, CS.slice 2, CS.bool, CS.int IntKind.i64, CS.int IntKind.i64, CS.bool,
         CS.slice 2, CS.bool, CS.int IntKind.i64, CS.int IntKind.i64, CS.bool, CS.slice 10, CS.slice 6]
       y0.fst y0.snd.snd.snd.fst)
    (.at ((strOf (cellAt y0.fst y0.snd.snd.snd.fst 0), strOf (cellAt y0.fst y0.snd.snd.snd.fst 1), strOf (cellAt y0.fst y0.snd.snd.snd.fst 2), intOf (cellAt y0.fst y0.snd.snd.snd.fst 3), intOf (cellAt y0.fst y0.snd.snd.snd.fst 4), intOf (cellAt y0.fst y0.snd.snd.snd.fst 5), intOf (cellAt y0.fst y0.snd.snd.snd.fst 6), viewOf (cellAt y0.fst y0.snd.snd.snd.fst 7), boolOf (cellAt y0.fst y0.snd.snd.snd.fst 8), intOf (cellAt y0.fst y0.snd.snd.snd.fst 9), intOf (cellAt y0.fst y0.snd.snd.snd.fst 10), boolOf (cellAt y0.fst y0.snd.snd.snd.fst 11), viewOf (cellAt y0.fst y0.snd.snd.snd.fst 12), boolOf (cellAt y0.fst y0.snd.snd.snd.fst 13), intOf (cellAt y0.fst y0.snd.snd.snd.fst 14), intOf (cellAt y0.fst y0.snd.snd.snd.fst 15), boolOf (cellAt y0.fst y0.snd.snd.snd.fst 16), viewOf (cellAt y0.fst y0.snd.snd.snd.fst 17), viewOf (cellAt y0.fst y0.snd.snd.snd.fst 18), true)))
    (.no)))
  (.no)
noncomputable def T50 : Tab := [(34, cloneE 3 24), (35, cloneE 3 32)]
theorem T50_ok : TabOk IP (T50) := ⟨sp34, sp35, trivial⟩
noncomputable def L50 : LTab := [(1005000, ll50_0)]
theorem L50_ok : LOk IP (L50) (loops F50.body) := LOk_of (l := [loopAt F50 0]) (by kernel_rfl) ⟨sel_one (by kernel_rfl) t50_0, trivial⟩
theorem b50 (v : A50) : bodyK (R := B50) IP (callT (T50)) (loopT (L50)) 50 F50 (ea50 v).1 (ea50 v).2 rd50 = (tr50 v.1 v.2.1 v.2.2).ev := by kernel_rfl
/--  -/
noncomputable def f50 (x0 : List AV) (x1 : List UInt8) (x2 : Int) : Option B50 := lock (tr50 x0 x1 x2).ev
theorem f50_eq (x0 : List AV) (x1 : List UInt8) (x2 : Int) : f50 x0 x1 x2 = (tr50 x0 x1 x2).ev := lock_eq _
theorem c50 : ∀ v y, f50 v.1 v.2.1 v.2.2 = some y → callO IP 50 (ea50 v).1 (ea50 v).2 = some (er50 y) := fun v y h => fun_of T50_ok (by kernel_rfl) L50_ok rd50_ok (b50 v) ((f50_eq v.1 v.2.1 v.2.2).symm.trans h)
theorem s50 : Snd IP 50 (g50 f50) := g50_ok f50 c50

-- f37: 
abbrev A37 : Type := List AV × List AV × List AV × Int × Int × Int × Int × Int × Int × Int × Int × Int × Int × Int × Int × Int × Int × List AV × List AV × List AV × List AV × List AV × Int × Int
abbrev B37 : Type := List UInt8 × List UInt8 × List UInt8 × Int × Int × Int × Int × List AV × Bool × Int × Int × Bool × List AV × Bool × Int × Int × Bool × List AV × List AV × Bool
def pa37 : PArgs := ⟨[.agg [.view 2, .view 3, .view 4, .int .i64, .int .i64, .int .i64, .int .i64, .int .i64, .int .i64, .int .i64, .int .i64, .int .i64, .int .i64, .int .i64, .int .i64, .int .i64, .int .i64, .view 19, .view 7, .view 10, .view 6, .view 7], .int .i64, .int .i64], []⟩
def to37 (ls : List Lf) : Option A37 := eatL ls fun x0 ls => eatL ls fun x1 ls => eatL ls fun x2 ls => eatI ls fun x3 ls => eatI ls fun x4 ls => eatI ls fun x5 ls => eatI ls fun x6 ls => eatI ls fun x7 ls => eatI ls fun x8 ls => eatI ls fun x9 ls => eatI ls fun x10 ls => eatI ls fun x11 ls => eatI ls fun x12 ls => eatI ls fun x13 ls => eatI ls fun x14 ls => eatI ls fun x15 ls => eatI ls fun x16 ls => eatL ls fun x17 ls => eatL ls fun x18 ls => eatL ls fun x19 ls => eatL ls fun x20 ls => eatL ls fun x21 ls => eatI ls fun x22 ls => eatI ls fun x23 ls => eat0 ls (x0, x1, x2, x3, x4, x5, x6, x7, x8, x9, x10, x11, x12, x13, x14, x15, x16, x17, x18, x19, x20, x21, x22, x23)
def ea37 (v : A37) : List AV × Heap := ([.agg [.view 2 v.1, .view 3 v.2.1, .view 4 v.2.2.1, .int .i64 v.2.2.2.1, .int .i64 v.2.2.2.2.1, .int .i64 v.2.2.2.2.2.1, .int .i64 v.2.2.2.2.2.2.1, .int .i64 v.2.2.2.2.2.2.2.1, .int .i64 v.2.2.2.2.2.2.2.2.1, .int .i64 v.2.2.2.2.2.2.2.2.2.1, .int .i64 v.2.2.2.2.2.2.2.2.2.2.1, .int .i64 v.2.2.2.2.2.2.2.2.2.2.2.1, .int .i64 v.2.2.2.2.2.2.2.2.2.2.2.2.1, .int .i64 v.2.2.2.2.2.2.2.2.2.2.2.2.2.1, .int .i64 v.2.2.2.2.2.2.2.2.2.2.2.2.2.2.1, .int .i64 v.2.2.2.2.2.2.2.2.2.2.2.2.2.2.2.1, .int .i64 v.2.2.2.2.2.2.2.2.2.2.2.2.2.2.2.2.1, .view 19 v.2.2.2.2.2.2.2.2.2.2.2.2.2.2.2.2.2.1, .view 7 v.2.2.2.2.2.2.2.2.2.2.2.2.2.2.2.2.2.2.1, .view 10 v.2.2.2.2.2.2.2.2.2.2.2.2.2.2.2.2.2.2.2.1, .view 6 v.2.2.2.2.2.2.2.2.2.2.2.2.2.2.2.2.2.2.2.2.1, .view 7 v.2.2.2.2.2.2.2.2.2.2.2.2.2.2.2.2.2.2.2.2.2.1], .int .i64 v.2.2.2.2.2.2.2.2.2.2.2.2.2.2.2.2.2.2.2.2.2.2.1, .int .i64 v.2.2.2.2.2.2.2.2.2.2.2.2.2.2.2.2.2.2.2.2.2.2.2], [])
def er37_0 (v : List UInt8 × List UInt8 × List UInt8 × Int × Int × Int × Int × List AV × Bool × Int × Int × Bool × List AV × Bool × Int × Int × Bool × List AV × List AV × Bool) : Res × Heap := (.ret (.tup [.agg [.str v.1, .str v.2.1, .str v.2.2.1, .int .i64 v.2.2.2.1, .int .i64 v.2.2.2.2.1, .int .i64 v.2.2.2.2.2.1, .int .i64 v.2.2.2.2.2.2.1, .view 2 v.2.2.2.2.2.2.2.1, .bool v.2.2.2.2.2.2.2.2.1, .int .i64 v.2.2.2.2.2.2.2.2.2.1, .int .i64 v.2.2.2.2.2.2.2.2.2.2.1, .bool v.2.2.2.2.2.2.2.2.2.2.2.1, .view 2 v.2.2.2.2.2.2.2.2.2.2.2.2.1, .bool v.2.2.2.2.2.2.2.2.2.2.2.2.2.1, .int .i64 v.2.2.2.2.2.2.2.2.2.2.2.2.2.2.1, .int .i64 v.2.2.2.2.2.2.2.2.2.2.2.2.2.2.2.1, .bool v.2.2.2.2.2.2.2.2.2.2.2.2.2.2.2.2.1, .view 10 v.2.2.2.2.2.2.2.2.2.2.2.2.2.2.2.2.2.1, .view 6 v.2.2.2.2.2.2.2.2.2.2.2.2.2.2.2.2.2.2.1], .bool v.2.2.2.2.2.2.2.2.2.2.2.2.2.2.2.2.2.2.2]), [])
def er37 : B37 → Res × Heap := er37_0
def en37 : Option B37 → List (Bool × Res × Heap) := (E1 er37_0)
def rd37 : Res → Heap → Option B37 := rDec ⟨false, .tup [.agg [.str, .str, .str, .int .i64, .int .i64, .int .i64, .int .i64, .view 2, .bool, .int .i64, .int .i64, .bool, .view 2, .bool, .int .i64, .int .i64, .bool, .view 10, .view 6], .bool], []⟩ (fun ls => eatS ls fun x0 ls => eatS ls fun x1 ls => eatS ls fun x2 ls => eatI ls fun x3 ls => eatI ls fun x4 ls => eatI ls fun x5 ls => eatI ls fun x6 ls => eatL ls fun x7 ls => eatB ls fun x8 ls => eatI ls fun x9 ls => eatI ls fun x10 ls => eatB ls fun x11 ls => eatL ls fun x12 ls => eatB ls fun x13 ls => eatI ls fun x14 ls => eatI ls fun x15 ls => eatB ls fun x16 ls => eatL ls fun x17 ls => eatL ls fun x18 ls => eatB ls fun x19 ls => eat0 ls (x0, x1, x2, x3, x4, x5, x6, x7, x8, x9, x10, x11, x12, x13, x14, x15, x16, x17, x18, x19)) (rNo)
theorem to37_ok : ∀ ls v, to37 ls = some v → fArgs pa37 ls = ea37 v := by
  intro ls v h0
  unfold to37 at h0
  obtain ⟨x0, ls0, rfl, h1⟩ := eatL_some h0
  obtain ⟨x1, ls1, rfl, h2⟩ := eatL_some h1
  obtain ⟨x2, ls2, rfl, h3⟩ := eatL_some h2
  obtain ⟨x3, ls3, rfl, h4⟩ := eatI_some h3
  obtain ⟨x4, ls4, rfl, h5⟩ := eatI_some h4
  obtain ⟨x5, ls5, rfl, h6⟩ := eatI_some h5
  obtain ⟨x6, ls6, rfl, h7⟩ := eatI_some h6
  obtain ⟨x7, ls7, rfl, h8⟩ := eatI_some h7
  obtain ⟨x8, ls8, rfl, h9⟩ := eatI_some h8
  obtain ⟨x9, ls9, rfl, h10⟩ := eatI_some h9
  obtain ⟨x10, ls10, rfl, h11⟩ := eatI_some h10
  obtain ⟨x11, ls11, rfl, h12⟩ := eatI_some h11
  obtain ⟨x12, ls12, rfl, h13⟩ := eatI_some h12
  obtain ⟨x13, ls13, rfl, h14⟩ := eatI_some h13
  obtain ⟨x14, ls14, rfl, h15⟩ := eatI_some h14
  obtain ⟨x15, ls15, rfl, h16⟩ := eatI_some h15
  obtain ⟨x16, ls16, rfl, h17⟩ := eatI_some h16
  obtain ⟨x17, ls17, rfl, h18⟩ := eatL_some h17
  obtain ⟨x18, ls18, rfl, h19⟩ := eatL_some h18
  obtain ⟨x19, ls19, rfl, h20⟩ := eatL_some h19
  obtain ⟨x20, ls20, rfl, h21⟩ := eatL_some h20
  obtain ⟨x21, ls21, rfl, h22⟩ := eatL_some h21
  obtain ⟨x22, ls22, rfl, h23⟩ := eatI_some h22
  obtain ⟨x23, ls23, rfl, h24⟩ := eatI_some h23
  obtain ⟨rfl, rfl⟩ := eat0_some h24
  rfl
theorem rd37_ok : ∀ r h y, rd37 r h = some y → (r, h) = er37 y := rDec_ok (by
  intro ls v h0
  obtain ⟨x0, ls0, rfl, h1⟩ := eatS_some h0
  obtain ⟨x1, ls1, rfl, h2⟩ := eatS_some h1
  obtain ⟨x2, ls2, rfl, h3⟩ := eatS_some h2
  obtain ⟨x3, ls3, rfl, h4⟩ := eatI_some h3
  obtain ⟨x4, ls4, rfl, h5⟩ := eatI_some h4
  obtain ⟨x5, ls5, rfl, h6⟩ := eatI_some h5
  obtain ⟨x6, ls6, rfl, h7⟩ := eatI_some h6
  obtain ⟨x7, ls7, rfl, h8⟩ := eatL_some h7
  obtain ⟨x8, ls8, rfl, h9⟩ := eatB_some h8
  obtain ⟨x9, ls9, rfl, h10⟩ := eatI_some h9
  obtain ⟨x10, ls10, rfl, h11⟩ := eatI_some h10
  obtain ⟨x11, ls11, rfl, h12⟩ := eatB_some h11
  obtain ⟨x12, ls12, rfl, h13⟩ := eatL_some h12
  obtain ⟨x13, ls13, rfl, h14⟩ := eatB_some h13
  obtain ⟨x14, ls14, rfl, h15⟩ := eatI_some h14
  obtain ⟨x15, ls15, rfl, h16⟩ := eatI_some h15
  obtain ⟨x16, ls16, rfl, h17⟩ := eatB_some h16
  obtain ⟨x17, ls17, rfl, h18⟩ := eatL_some h17
  obtain ⟨x18, ls18, rfl, h19⟩ := eatL_some h18
  obtain ⟨x19, ls19, rfl, h20⟩ := eatB_some h19
  obtain ⟨rfl, rfl⟩ := eat0_some h20
  rfl
) (rNo_ok)
noncomputable def g37 (G : (List AV) → (List AV) → (List AV) → Int → Int → Int → Int → Int → Int → Int → Int → Int → Int → Int → Int → Int → Int → (List AV) → (List AV) → (List AV) → (List AV) → (List AV) → Int → Int → Option B37) : Ent := fEnt pa37 to37 (fun v => G v.1 v.2.1 v.2.2.1 v.2.2.2.1 v.2.2.2.2.1 v.2.2.2.2.2.1 v.2.2.2.2.2.2.1 v.2.2.2.2.2.2.2.1 v.2.2.2.2.2.2.2.2.1 v.2.2.2.2.2.2.2.2.2.1 v.2.2.2.2.2.2.2.2.2.2.1 v.2.2.2.2.2.2.2.2.2.2.2.1 v.2.2.2.2.2.2.2.2.2.2.2.2.1 v.2.2.2.2.2.2.2.2.2.2.2.2.2.1 v.2.2.2.2.2.2.2.2.2.2.2.2.2.2.1 v.2.2.2.2.2.2.2.2.2.2.2.2.2.2.2.1 v.2.2.2.2.2.2.2.2.2.2.2.2.2.2.2.2.1 v.2.2.2.2.2.2.2.2.2.2.2.2.2.2.2.2.2.1 v.2.2.2.2.2.2.2.2.2.2.2.2.2.2.2.2.2.2.1 v.2.2.2.2.2.2.2.2.2.2.2.2.2.2.2.2.2.2.2.1 v.2.2.2.2.2.2.2.2.2.2.2.2.2.2.2.2.2.2.2.2.1 v.2.2.2.2.2.2.2.2.2.2.2.2.2.2.2.2.2.2.2.2.2.1 v.2.2.2.2.2.2.2.2.2.2.2.2.2.2.2.2.2.2.2.2.2.2.1 v.2.2.2.2.2.2.2.2.2.2.2.2.2.2.2.2.2.2.2.2.2.2.2) en37
theorem g37_ok (G : (List AV) → (List AV) → (List AV) → Int → Int → Int → Int → Int → Int → Int → Int → Int → Int → Int → Int → Int → Int → (List AV) → (List AV) → (List AV) → (List AV) → (List AV) → Int → Int → Option B37) (hG : ∀ v y, G v.1 v.2.1 v.2.2.1 v.2.2.2.1 v.2.2.2.2.1 v.2.2.2.2.2.1 v.2.2.2.2.2.2.1 v.2.2.2.2.2.2.2.1 v.2.2.2.2.2.2.2.2.1 v.2.2.2.2.2.2.2.2.2.1 v.2.2.2.2.2.2.2.2.2.2.1 v.2.2.2.2.2.2.2.2.2.2.2.1 v.2.2.2.2.2.2.2.2.2.2.2.2.1 v.2.2.2.2.2.2.2.2.2.2.2.2.2.1 v.2.2.2.2.2.2.2.2.2.2.2.2.2.2.1 v.2.2.2.2.2.2.2.2.2.2.2.2.2.2.2.1 v.2.2.2.2.2.2.2.2.2.2.2.2.2.2.2.2.1 v.2.2.2.2.2.2.2.2.2.2.2.2.2.2.2.2.2.1 v.2.2.2.2.2.2.2.2.2.2.2.2.2.2.2.2.2.2.1 v.2.2.2.2.2.2.2.2.2.2.2.2.2.2.2.2.2.2.2.1 v.2.2.2.2.2.2.2.2.2.2.2.2.2.2.2.2.2.2.2.2.1 v.2.2.2.2.2.2.2.2.2.2.2.2.2.2.2.2.2.2.2.2.2.1 v.2.2.2.2.2.2.2.2.2.2.2.2.2.2.2.2.2.2.2.2.2.2.1 v.2.2.2.2.2.2.2.2.2.2.2.2.2.2.2.2.2.2.2.2.2.2.2 = some y → callO IP 37 (ea37 v).1 (ea37 v).2 = some (er37 y)) : Snd IP 37 (g37 G) := fEnt_ok to37_ok E1_ok hG
noncomputable def tr37 (x0 : List AV) (x1 : List AV) (x2 : List AV) (x3 : Int) (x4 : Int) (x5 : Int) (x6 : Int) (x7 : Int) (x8 : Int) (x9 : Int) (x10 : Int) (x11 : Int) (x12 : Int) (x13 : Int) (x14 : Int) (x15 : Int) (x16 : Int) (x17 : List AV) (x18 : List AV) (x19 : List AV) (x20 : List AV) (x21 : List AV) (x22 : Int) (x23 : Int) : DT B37 :=
 .bi (f49 x0 x1 x2 x3 x4 x5 x6 x7 x8 x9 x10 x11 x12 x13 x14 x15 x16 x17 x18 x19 x20 x21 x22) (fun y0 =>
  .br (!y0.snd.snd.snd.snd.snd.snd.snd)
   (.at (([], [], [], 0, 0, 0, 0, [], false, 0, 0, false, [], false, 0, 0, false, [], [], false)))
   (.bi (f50 x17 y0.snd.snd.snd.snd.snd.fst x23) (fun y1 =>
    .at ((y1.fst, y1.snd.fst, y1.snd.snd.fst, y1.snd.snd.snd.fst, y1.snd.snd.snd.snd.fst, y1.snd.snd.snd.snd.snd.fst, y1.snd.snd.snd.snd.snd.snd.fst, y1.snd.snd.snd.snd.snd.snd.snd.fst, y1.snd.snd.snd.snd.snd.snd.snd.snd.fst, y1.snd.snd.snd.snd.snd.snd.snd.snd.snd.fst, y1.snd.snd.snd.snd.snd.snd.snd.snd.snd.snd.fst, y1.snd.snd.snd.snd.snd.snd.snd.snd.snd.snd.snd.fst, y1.snd.snd.snd.snd.snd.snd.snd.snd.snd.snd.snd.snd.fst, y1.snd.snd.snd.snd.snd.snd.snd.snd.snd.snd.snd.snd.snd.fst, y1.snd.snd.snd.snd.snd.snd.snd.snd.snd.snd.snd.snd.snd.snd.fst, y1.snd.snd.snd.snd.snd.snd.snd.snd.snd.snd.snd.snd.snd.snd.snd.fst, y1.snd.snd.snd.snd.snd.snd.snd.snd.snd.snd.snd.snd.snd.snd.snd.snd.fst, y1.snd.snd.snd.snd.snd.snd.snd.snd.snd.snd.snd.snd.snd.snd.snd.snd.snd.fst, y1.snd.snd.snd.snd.snd.snd.snd.snd.snd.snd.snd.snd.snd.snd.snd.snd.snd.snd.fst, y1.snd.snd.snd.snd.snd.snd.snd.snd.snd.snd.snd.snd.snd.snd.snd.snd.snd.snd.snd)))
    (.no)))
  (.no)
noncomputable def T37 : Tab := [(34, cloneE 3 24), (35, cloneE 3 32), (49, g49 f49), (50, g50 f50)]
theorem T37_ok : TabOk IP (T37) := ⟨sp34, sp35, s49, s50, trivial⟩
noncomputable def L37 : LTab := []
theorem L37_ok : LOk IP (L37) (loops F37.body) := LOk_of (l := []) (by kernel_rfl) trivial
theorem b37 (v : A37) : bodyK (R := B37) IP (callT (T37)) (loopT (L37)) 37 F37 (ea37 v).1 (ea37 v).2 rd37 = (tr37 v.1 v.2.1 v.2.2.1 v.2.2.2.1 v.2.2.2.2.1 v.2.2.2.2.2.1 v.2.2.2.2.2.2.1 v.2.2.2.2.2.2.2.1 v.2.2.2.2.2.2.2.2.1 v.2.2.2.2.2.2.2.2.2.1 v.2.2.2.2.2.2.2.2.2.2.1 v.2.2.2.2.2.2.2.2.2.2.2.1 v.2.2.2.2.2.2.2.2.2.2.2.2.1 v.2.2.2.2.2.2.2.2.2.2.2.2.2.1 v.2.2.2.2.2.2.2.2.2.2.2.2.2.2.1 v.2.2.2.2.2.2.2.2.2.2.2.2.2.2.2.1 v.2.2.2.2.2.2.2.2.2.2.2.2.2.2.2.2.1 v.2.2.2.2.2.2.2.2.2.2.2.2.2.2.2.2.2.1 v.2.2.2.2.2.2.2.2.2.2.2.2.2.2.2.2.2.2.1 v.2.2.2.2.2.2.2.2.2.2.2.2.2.2.2.2.2.2.2.1 v.2.2.2.2.2.2.2.2.2.2.2.2.2.2.2.2.2.2.2.2.1 v.2.2.2.2.2.2.2.2.2.2.2.2.2.2.2.2.2.2.2.2.2.1 v.2.2.2.2.2.2.2.2.2.2.2.2.2.2.2.2.2.2.2.2.2.2.1 v.2.2.2.2.2.2.2.2.2.2.2.2.2.2.2.2.2.2.2.2.2.2.2).ev := by kernel_rfl
/--  -/
noncomputable def f37 (x0 : List AV) (x1 : List AV) (x2 : List AV) (x3 : Int) (x4 : Int) (x5 : Int) (x6 : Int) (x7 : Int) (x8 : Int) (x9 : Int) (x10 : Int) (x11 : Int) (x12 : Int) (x13 : Int) (x14 : Int) (x15 : Int) (x16 : Int) (x17 : List AV) (x18 : List AV) (x19 : List AV) (x20 : List AV) (x21 : List AV) (x22 : Int) (x23 : Int) : Option B37 := lock (tr37 x0 x1 x2 x3 x4 x5 x6 x7 x8 x9 x10 x11 x12 x13 x14 x15 x16 x17 x18 x19 x20 x21 x22 x23).ev
theorem f37_eq (x0 : List AV) (x1 : List AV) (x2 : List AV) (x3 : Int) (x4 : Int) (x5 : Int) (x6 : Int) (x7 : Int) (x8 : Int) (x9 : Int) (x10 : Int) (x11 : Int) (x12 : Int) (x13 : Int) (x14 : Int) (x15 : Int) (x16 : Int) (x17 : List AV) (x18 : List AV) (x19 : List AV) (x20 : List AV) (x21 : List AV) (x22 : Int) (x23 : Int) : f37 x0 x1 x2 x3 x4 x5 x6 x7 x8 x9 x10 x11 x12 x13 x14 x15 x16 x17 x18 x19 x20 x21 x22 x23 = (tr37 x0 x1 x2 x3 x4 x5 x6 x7 x8 x9 x10 x11 x12 x13 x14 x15 x16 x17 x18 x19 x20 x21 x22 x23).ev := lock_eq _
theorem c37 : ∀ v y, f37 v.1 v.2.1 v.2.2.1 v.2.2.2.1 v.2.2.2.2.1 v.2.2.2.2.2.1 v.2.2.2.2.2.2.1 v.2.2.2.2.2.2.2.1 v.2.2.2.2.2.2.2.2.1 v.2.2.2.2.2.2.2.2.2.1 v.2.2.2.2.2.2.2.2.2.2.1 v.2.2.2.2.2.2.2.2.2.2.2.1 v.2.2.2.2.2.2.2.2.2.2.2.2.1 v.2.2.2.2.2.2.2.2.2.2.2.2.2.1 v.2.2.2.2.2.2.2.2.2.2.2.2.2.2.1 v.2.2.2.2.2.2.2.2.2.2.2.2.2.2.2.1 v.2.2.2.2.2.2.2.2.2.2.2.2.2.2.2.2.1 v.2.2.2.2.2.2.2.2.2.2.2.2.2.2.2.2.2.1 v.2.2.2.2.2.2.2.2.2.2.2.2.2.2.2.2.2.2.1 v.2.2.2.2.2.2.2.2.2.2.2.2.2.2.2.2.2.2.2.1 v.2.2.2.2.2.2.2.2.2.2.2.2.2.2.2.2.2.2.2.2.1 v.2.2.2.2.2.2.2.2.2.2.2.2.2.2.2.2.2.2.2.2.2.1 v.2.2.2.2.2.2.2.2.2.2.2.2.2.2.2.2.2.2.2.2.2.2.1 v.2.2.2.2.2.2.2.2.2.2.2.2.2.2.2.2.2.2.2.2.2.2.2 = some y → callO IP 37 (ea37 v).1 (ea37 v).2 = some (er37 y) := fun v y h => fun_of T37_ok (by kernel_rfl) L37_ok rd37_ok (b37 v) ((f37_eq v.1 v.2.1 v.2.2.1 v.2.2.2.1 v.2.2.2.2.1 v.2.2.2.2.2.1 v.2.2.2.2.2.2.1 v.2.2.2.2.2.2.2.1 v.2.2.2.2.2.2.2.2.1 v.2.2.2.2.2.2.2.2.2.1 v.2.2.2.2.2.2.2.2.2.2.1 v.2.2.2.2.2.2.2.2.2.2.2.1 v.2.2.2.2.2.2.2.2.2.2.2.2.1 v.2.2.2.2.2.2.2.2.2.2.2.2.2.1 v.2.2.2.2.2.2.2.2.2.2.2.2.2.2.1 v.2.2.2.2.2.2.2.2.2.2.2.2.2.2.2.1 v.2.2.2.2.2.2.2.2.2.2.2.2.2.2.2.2.1 v.2.2.2.2.2.2.2.2.2.2.2.2.2.2.2.2.2.1 v.2.2.2.2.2.2.2.2.2.2.2.2.2.2.2.2.2.2.1 v.2.2.2.2.2.2.2.2.2.2.2.2.2.2.2.2.2.2.2.1 v.2.2.2.2.2.2.2.2.2.2.2.2.2.2.2.2.2.2.2.2.1 v.2.2.2.2.2.2.2.2.2.2.2.2.2.2.2.2.2.2.2.2.2.1 v.2.2.2.2.2.2.2.2.2.2.2.2.2.2.2.2.2.2.2.2.2.2.1 v.2.2.2.2.2.2.2.2.2.2.2.2.2.2.2.2.2.2.2.2.2.2.2).symm.trans h)
theorem s37 : Snd IP 37 (g37 f37) := g37_ok f37 c37

end Go.Proofs.H53

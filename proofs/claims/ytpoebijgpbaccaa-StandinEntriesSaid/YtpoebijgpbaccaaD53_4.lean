/- Functions over plain data. Printed by a program of mine. -/
import Derived.Test.YtpoebijgpbaccaaD53_3
import Derived.KernelRfl
set_option linter.unusedVariables false
set_option linter.unusedSimpArgs false
set_option linter.unnecessarySimpa false
namespace Go.Proofs.H53
open Go Go.Eng
set_option maxRecDepth 100000

-- f59: 
abbrev A59 : Type := List AV × Int
abbrev B59 : Type := Int
def pa59 : PArgs := ⟨[.view 7, .fn (.func 60) [.ptr [.int .i64]]], []⟩
def to59 (ls : List Lf) : Option A59 := eatL ls fun x0 ls => eatI ls fun x1 ls => eat0 ls (x0, x1)
def ea59 (v : A59) : List AV × Heap := ([.view 7 v.1, .fn (.func 60) [.ptr [.int .i64 v.2]]], [])
def er59_0 (v : Int) : Res × Heap := (.ret (.int .i64 v), [])
def er59 : B59 → Res × Heap := er59_0
def en59 : Option B59 → List (Bool × Res × Heap) := (E1 er59_0)
def rd59 : Res → Heap → Option B59 := rDec ⟨false, .int .i64, []⟩ (fun ls => eatI ls fun x0 ls => eat0 ls x0) (rNo)
theorem to59_ok : ∀ ls v, to59 ls = some v → fArgs pa59 ls = ea59 v := by
  intro ls v h0
  unfold to59 at h0
  obtain ⟨x0, ls0, rfl, h1⟩ := eatL_some h0
  obtain ⟨x1, ls1, rfl, h2⟩ := eatI_some h1
  obtain ⟨rfl, rfl⟩ := eat0_some h2
  rfl
theorem rd59_ok : ∀ r h y, rd59 r h = some y → (r, h) = er59 y := rDec_ok (by
  intro ls v h0
  obtain ⟨x0, ls0, rfl, h1⟩ := eatI_some h0
  obtain ⟨rfl, rfl⟩ := eat0_some h1
  rfl
) (rNo_ok)
noncomputable def g59 (G : (List AV) → Int → Option B59) : Ent := fEnt pa59 to59 (fun v => G v.1 v.2) en59
theorem g59_ok (G : (List AV) → Int → Option B59) (hG : ∀ v y, G v.1 v.2 = some y → callO IP 59 (ea59 v).1 (ea59 v).2 = some (er59 y)) : Snd IP 59 (g59 G) := fEnt_ok to59_ok E1_ok hG
noncomputable def tr59 (x0 : List AV) (x1 : Int) : DT B59 :=
 .bi (pj 0 (l59_0 (x0, x1, (↑x0.length : Int), 0))) (fun y0 =>
  .at (y0.snd.snd.snd))
  (.bi (pj 1 (l59_0 (x0, x1, (↑x0.length : Int), 0))) (fun y0 =>
   .at (-1))
   (.no))
noncomputable def T59 : Tab := [(34, cloneE 3 24), (35, cloneE 3 32)]
theorem T59_ok : TabOk IP (T59) := ⟨sp34, sp35, trivial⟩
noncomputable def L59 : LTab := [(1005900, ll59_0)]
theorem L59_ok : LOk IP (L59) (loops F59.body) := LOk_of (l := [loopAt F59 0]) (by kernel_rfl) ⟨sel_one (by kernel_rfl) t59_0, trivial⟩
theorem b59 (v : A59) : bodyK (R := B59) IP (callT (T59)) (loopT (L59)) 59 F59 (ea59 v).1 (ea59 v).2 rd59 = (tr59 v.1 v.2).ev := by kernel_rfl
/--  -/
noncomputable def f59 (x0 : List AV) (x1 : Int) : Option B59 := lock (tr59 x0 x1).ev
theorem f59_eq (x0 : List AV) (x1 : Int) : f59 x0 x1 = (tr59 x0 x1).ev := lock_eq _
theorem c59 : ∀ v y, f59 v.1 v.2 = some y → callO IP 59 (ea59 v).1 (ea59 v).2 = some (er59 y) := fun v y h => fun_of T59_ok (by kernel_rfl) L59_ok rd59_ok (b59 v) ((f59_eq v.1 v.2).symm.trans h)
theorem s59 : Snd IP 59 (g59 f59) := g59_ok f59 c59

-- f55: 
abbrev A55 : Type := List AV × List AV × List AV × Int × Int × Int × Int × Int × Int × Int × Int × Int × Int × Int × Int × Int × Int × List AV × List AV × List AV × List AV × List AV × Int
abbrev B55 : Type := Int
def pa55 : PArgs := ⟨[.agg [.view 2, .view 3, .view 4, .int .i64, .int .i64, .int .i64, .int .i64, .int .i64, .int .i64, .int .i64, .int .i64, .int .i64, .int .i64, .int .i64, .int .i64, .int .i64, .int .i64, .view 19, .view 7, .view 10, .view 6, .view 7], .int .i64], []⟩
def to55 (ls : List Lf) : Option A55 := eatL ls fun x0 ls => eatL ls fun x1 ls => eatL ls fun x2 ls => eatI ls fun x3 ls => eatI ls fun x4 ls => eatI ls fun x5 ls => eatI ls fun x6 ls => eatI ls fun x7 ls => eatI ls fun x8 ls => eatI ls fun x9 ls => eatI ls fun x10 ls => eatI ls fun x11 ls => eatI ls fun x12 ls => eatI ls fun x13 ls => eatI ls fun x14 ls => eatI ls fun x15 ls => eatI ls fun x16 ls => eatL ls fun x17 ls => eatL ls fun x18 ls => eatL ls fun x19 ls => eatL ls fun x20 ls => eatL ls fun x21 ls => eatI ls fun x22 ls => eat0 ls (x0, x1, x2, x3, x4, x5, x6, x7, x8, x9, x10, x11, x12, x13, x14, x15, x16, x17, x18, x19, x20, x21, x22)
def ea55 (v : A55) : List AV × Heap := ([.agg [.view 2 v.1, .view 3 v.2.1, .view 4 v.2.2.1, .int .i64 v.2.2.2.1, .int .i64 v.2.2.2.2.1, .int .i64 v.2.2.2.2.2.1, .int .i64 v.2.2.2.2.2.2.1, .int .i64 v.2.2.2.2.2.2.2.1, .int .i64 v.2.2.2.2.2.2.2.2.1, .int .i64 v.2.2.2.2.2.2.2.2.2.1, .int .i64 v.2.2.2.2.2.2.2.2.2.2.1, .int .i64 v.2.2.2.2.2.2.2.2.2.2.2.1, .int .i64 v.2.2.2.2.2.2.2.2.2.2.2.2.1, .int .i64 v.2.2.2.2.2.2.2.2.2.2.2.2.2.1, .int .i64 v.2.2.2.2.2.2.2.2.2.2.2.2.2.2.1, .int .i64 v.2.2.2.2.2.2.2.2.2.2.2.2.2.2.2.1, .int .i64 v.2.2.2.2.2.2.2.2.2.2.2.2.2.2.2.2.1, .view 19 v.2.2.2.2.2.2.2.2.2.2.2.2.2.2.2.2.2.1, .view 7 v.2.2.2.2.2.2.2.2.2.2.2.2.2.2.2.2.2.2.1, .view 10 v.2.2.2.2.2.2.2.2.2.2.2.2.2.2.2.2.2.2.2.1, .view 6 v.2.2.2.2.2.2.2.2.2.2.2.2.2.2.2.2.2.2.2.2.1, .view 7 v.2.2.2.2.2.2.2.2.2.2.2.2.2.2.2.2.2.2.2.2.2.1], .int .i64 v.2.2.2.2.2.2.2.2.2.2.2.2.2.2.2.2.2.2.2.2.2.2], [])
def er55_0 (v : Int) : Res × Heap := (.ret (.int .i64 v), [])
def er55 : B55 → Res × Heap := er55_0
def en55 : Option B55 → List (Bool × Res × Heap) := (E1 er55_0)
def rd55 : Res → Heap → Option B55 := rDec ⟨false, .int .i64, []⟩ (fun ls => eatI ls fun x0 ls => eat0 ls x0) (rNo)
theorem to55_ok : ∀ ls v, to55 ls = some v → fArgs pa55 ls = ea55 v := by
  intro ls v h0
  unfold to55 at h0
  obtain ⟨x0, ls0, rfl, h1⟩ := eatL_some h0
  obtain ⟨x1, ls1, rfl, h2⟩ := eatL_some h1
  obtain ⟨x2, ls2, rfl, h3⟩ := eatL_some h2
  obtain ⟨x3, ls3, rfl, h4⟩ := eatI_some h3
  obtain ⟨x4, ls4, rfl, h5⟩ := eatI_some h4
  obtain ⟨x5, ls5, rfl, h6⟩ := eatI_some h5
  obtain ⟨x6, ls6, rfl, h7⟩ := eatI_some h6
  obtain ⟨x7, ls7, rfl, h8⟩ := eatI_some h7
  obtain ⟨x8, ls8, rfl, h9⟩ := eatI_some h8
  obtain ⟨x9, ls9, rfl, h10⟩ := eatI_some h9
  obtain ⟨x10, ls10, rfl, h11⟩ := eatI_some h10
  obtain ⟨x11, ls11, rfl, h12⟩ := eatI_some h11
  obtain ⟨x12, ls12, rfl, h13⟩ := eatI_some h12
  obtain ⟨x13, ls13, rfl, h14⟩ := eatI_some h13
  obtain ⟨x14, ls14, rfl, h15⟩ := eatI_some h14
  obtain ⟨x15, ls15, rfl, h16⟩ := eatI_some h15
  obtain ⟨x16, ls16, rfl, h17⟩ := eatI_some h16
  obtain ⟨x17, ls17, rfl, h18⟩ := eatL_some h17
  obtain ⟨x18, ls18, rfl, h19⟩ := eatL_some h18
  obtain ⟨x19, ls19, rfl, h20⟩ := eatL_some h19
  obtain ⟨x20, ls20, rfl, h21⟩ := eatL_some h20
  obtain ⟨x21, ls21, rfl, h22⟩ := eatL_some h21
  obtain ⟨x22, ls22, rfl, h23⟩ := eatI_some h22
  obtain ⟨rfl, rfl⟩ := eat0_some h23
  rfl
theorem rd55_ok : ∀ r h y, rd55 r h = some y → (r, h) = er55 y := rDec_ok (by
  intro ls v h0
  obtain ⟨x0, ls0, rfl, h1⟩ := eatI_some h0
  obtain ⟨rfl, rfl⟩ := eat0_some h1
  rfl
) (rNo_ok)
noncomputable def g55 (G : (List AV) → (List AV) → (List AV) → Int → Int → Int → Int → Int → Int → Int → Int → Int → Int → Int → Int → Int → Int → (List AV) → (List AV) → (List AV) → (List AV) → (List AV) → Int → Option B55) : Ent := fEnt pa55 to55 (fun v => G v.1 v.2.1 v.2.2.1 v.2.2.2.1 v.2.2.2.2.1 v.2.2.2.2.2.1 v.2.2.2.2.2.2.1 v.2.2.2.2.2.2.2.1 v.2.2.2.2.2.2.2.2.1 v.2.2.2.2.2.2.2.2.2.1 v.2.2.2.2.2.2.2.2.2.2.1 v.2.2.2.2.2.2.2.2.2.2.2.1 v.2.2.2.2.2.2.2.2.2.2.2.2.1 v.2.2.2.2.2.2.2.2.2.2.2.2.2.1 v.2.2.2.2.2.2.2.2.2.2.2.2.2.2.1 v.2.2.2.2.2.2.2.2.2.2.2.2.2.2.2.1 v.2.2.2.2.2.2.2.2.2.2.2.2.2.2.2.2.1 v.2.2.2.2.2.2.2.2.2.2.2.2.2.2.2.2.2.1 v.2.2.2.2.2.2.2.2.2.2.2.2.2.2.2.2.2.2.1 v.2.2.2.2.2.2.2.2.2.2.2.2.2.2.2.2.2.2.2.1 v.2.2.2.2.2.2.2.2.2.2.2.2.2.2.2.2.2.2.2.2.1 v.2.2.2.2.2.2.2.2.2.2.2.2.2.2.2.2.2.2.2.2.2.1 v.2.2.2.2.2.2.2.2.2.2.2.2.2.2.2.2.2.2.2.2.2.2) en55
theorem g55_ok (G : (List AV) → (List AV) → (List AV) → Int → Int → Int → Int → Int → Int → Int → Int → Int → Int → Int → Int → Int → Int → (List AV) → (List AV) → (List AV) → (List AV) → (List AV) → Int → Option B55) (hG : ∀ v y, G v.1 v.2.1 v.2.2.1 v.2.2.2.1 v.2.2.2.2.1 v.2.2.2.2.2.1 v.2.2.2.2.2.2.1 v.2.2.2.2.2.2.2.1 v.2.2.2.2.2.2.2.2.1 v.2.2.2.2.2.2.2.2.2.1 v.2.2.2.2.2.2.2.2.2.2.1 v.2.2.2.2.2.2.2.2.2.2.2.1 v.2.2.2.2.2.2.2.2.2.2.2.2.1 v.2.2.2.2.2.2.2.2.2.2.2.2.2.1 v.2.2.2.2.2.2.2.2.2.2.2.2.2.2.1 v.2.2.2.2.2.2.2.2.2.2.2.2.2.2.2.1 v.2.2.2.2.2.2.2.2.2.2.2.2.2.2.2.2.1 v.2.2.2.2.2.2.2.2.2.2.2.2.2.2.2.2.2.1 v.2.2.2.2.2.2.2.2.2.2.2.2.2.2.2.2.2.2.1 v.2.2.2.2.2.2.2.2.2.2.2.2.2.2.2.2.2.2.2.1 v.2.2.2.2.2.2.2.2.2.2.2.2.2.2.2.2.2.2.2.2.1 v.2.2.2.2.2.2.2.2.2.2.2.2.2.2.2.2.2.2.2.2.2.1 v.2.2.2.2.2.2.2.2.2.2.2.2.2.2.2.2.2.2.2.2.2.2 = some y → callO IP 55 (ea55 v).1 (ea55 v).2 = some (er55 y)) : Snd IP 55 (g55 G) := fEnt_ok to55_ok E1_ok hG
noncomputable def tr55 (x0 : List AV) (x1 : List AV) (x2 : List AV) (x3 : Int) (x4 : Int) (x5 : Int) (x6 : Int) (x7 : Int) (x8 : Int) (x9 : Int) (x10 : Int) (x11 : Int) (x12 : Int) (x13 : Int) (x14 : Int) (x15 : Int) (x16 : Int) (x17 : List AV) (x18 : List AV) (x19 : List AV) (x20 : List AV) (x21 : List AV) (x22 : Int) : DT B55 :=
 .bi (f59 x18 x22) (fun y0 =>
  .at (y0))
  (.no)
noncomputable def T55 : Tab := [(34, cloneE 3 24), (35, cloneE 3 32), (59, g59 f59)]
theorem T55_ok : TabOk IP (T55) := ⟨sp34, sp35, s59, trivial⟩
noncomputable def L55 : LTab := []
theorem L55_ok : LOk IP (L55) (loops F55.body) := LOk_of (l := []) (by kernel_rfl) trivial
theorem b55 (v : A55) : bodyK (R := B55) IP (callT (T55)) (loopT (L55)) 55 F55 (ea55 v).1 (ea55 v).2 rd55 = (tr55 v.1 v.2.1 v.2.2.1 v.2.2.2.1 v.2.2.2.2.1 v.2.2.2.2.2.1 v.2.2.2.2.2.2.1 v.2.2.2.2.2.2.2.1 v.2.2.2.2.2.2.2.2.1 v.2.2.2.2.2.2.2.2.2.1 v.2.2.2.2.2.2.2.2.2.2.1 v.2.2.2.2.2.2.2.2.2.2.2.1 v.2.2.2.2.2.2.2.2.2.2.2.2.1 v.2.2.2.2.2.2.2.2.2.2.2.2.2.1 v.2.2.2.2.2.2.2.2.2.2.2.2.2.2.1 v.2.2.2.2.2.2.2.2.2.2.2.2.2.2.2.1 v.2.2.2.2.2.2.2.2.2.2.2.2.2.2.2.2.1 v.2.2.2.2.2.2.2.2.2.2.2.2.2.2.2.2.2.1 v.2.2.2.2.2.2.2.2.2.2.2.2.2.2.2.2.2.2.1 v.2.2.2.2.2.2.2.2.2.2.2.2.2.2.2.2.2.2.2.1 v.2.2.2.2.2.2.2.2.2.2.2.2.2.2.2.2.2.2.2.2.1 v.2.2.2.2.2.2.2.2.2.2.2.2.2.2.2.2.2.2.2.2.2.1 v.2.2.2.2.2.2.2.2.2.2.2.2.2.2.2.2.2.2.2.2.2.2).ev := by kernel_rfl
/--  -/
noncomputable def f55 (x0 : List AV) (x1 : List AV) (x2 : List AV) (x3 : Int) (x4 : Int) (x5 : Int) (x6 : Int) (x7 : Int) (x8 : Int) (x9 : Int) (x10 : Int) (x11 : Int) (x12 : Int) (x13 : Int) (x14 : Int) (x15 : Int) (x16 : Int) (x17 : List AV) (x18 : List AV) (x19 : List AV) (x20 : List AV) (x21 : List AV) (x22 : Int) : Option B55 := lock (tr55 x0 x1 x2 x3 x4 x5 x6 x7 x8 x9 x10 x11 x12 x13 x14 x15 x16 x17 x18 x19 x20 x21 x22).ev
theorem f55_eq (x0 : List AV) (x1 : List AV) (x2 : List AV) (x3 : Int) (x4 : Int) (x5 : Int) (x6 : Int) (x7 : Int) (x8 : Int) (x9 : Int) (x10 : Int) (x11 : Int) (x12 : Int) (x13 : Int) (x14 : Int) (x15 : Int) (x16 : Int) (x17 : List AV) (x18 : List AV) (x19 : List AV) (x20 : List AV) (x21 : List AV) (x22 : Int) : f55 x0 x1 x2 x3 x4 x5 x6 x7 x8 x9 x10 x11 x12 x13 x14 x15 x16 x17 x18 x19 x20 x21 x22 = (tr55 x0 x1 x2 x3 x4 x5 x6 x7 x8 x9 x10 x11 x12 x13 x14 x15 x16 x17 x18 x19 x20 x21 x22).ev := lock_eq _
theorem c55 : ∀ v y, f55 v.1 v.2.1 v.2.2.1 v.2.2.2.1 v.2.2.2.2.1 v.2.2.2.2.2.1 v.2.2.2.2.2.2.1 v.2.2.2.2.2.2.2.1 v.2.2.2.2.2.2.2.2.1 v.2.2.2.2.2.2.2.2.2.1 v.2.2.2.2.2.2.2.2.2.2.1 v.2.2.2.2.2.2.2.2.2.2.2.1 v.2.2.2.2.2.2.2.2.2.2.2.2.1 v.2.2.2.2.2.2.2.2.2.2.2.2.2.1 v.2.2.2.2.2.2.2.2.2.2.2.2.2.2.1 v.2.2.2.2.2.2.2.2.2.2.2.2.2.2.2.1 v.2.2.2.2.2.2.2.2.2.2.2.2.2.2.2.2.1 v.2.2.2.2.2.2.2.2.2.2.2.2.2.2.2.2.2.1 v.2.2.2.2.2.2.2.2.2.2.2.2.2.2.2.2.2.2.1 v.2.2.2.2.2.2.2.2.2.2.2.2.2.2.2.2.2.2.2.1 v.2.2.2.2.2.2.2.2.2.2.2.2.2.2.2.2.2.2.2.2.1 v.2.2.2.2.2.2.2.2.2.2.2.2.2.2.2.2.2.2.2.2.2.1 v.2.2.2.2.2.2.2.2.2.2.2.2.2.2.2.2.2.2.2.2.2.2 = some y → callO IP 55 (ea55 v).1 (ea55 v).2 = some (er55 y) := fun v y h => fun_of T55_ok (by kernel_rfl) L55_ok rd55_ok (b55 v) ((f55_eq v.1 v.2.1 v.2.2.1 v.2.2.2.1 v.2.2.2.2.1 v.2.2.2.2.2.1 v.2.2.2.2.2.2.1 v.2.2.2.2.2.2.2.1 v.2.2.2.2.2.2.2.2.1 v.2.2.2.2.2.2.2.2.2.1 v.2.2.2.2.2.2.2.2.2.2.1 v.2.2.2.2.2.2.2.2.2.2.2.1 v.2.2.2.2.2.2.2.2.2.2.2.2.1 v.2.2.2.2.2.2.2.2.2.2.2.2.2.1 v.2.2.2.2.2.2.2.2.2.2.2.2.2.2.1 v.2.2.2.2.2.2.2.2.2.2.2.2.2.2.2.1 v.2.2.2.2.2.2.2.2.2.2.2.2.2.2.2.2.1 v.2.2.2.2.2.2.2.2.2.2.2.2.2.2.2.2.2.1 v.2.2.2.2.2.2.2.2.2.2.2.2.2.2.2.2.2.2.1 v.2.2.2.2.2.2.2.2.2.2.2.2.2.2.2.2.2.2.2.1 v.2.2.2.2.2.2.2.2.2.2.2.2.2.2.2.2.2.2.2.2.1 v.2.2.2.2.2.2.2.2.2.2.2.2.2.2.2.2.2.2.2.2.2.1 v.2.2.2.2.2.2.2.2.2.2.2.2.2.2.2.2.2.2.2.2.2.2).symm.trans h)
theorem s55 : Snd IP 55 (g55 f55) := g55_ok f55 c55

-- f47: 
abbrev A47 : Type := List AV × List AV × List AV × Int × Int × Int × Int × Int × Int × Int × Int × Int × Int × Int × Int × Int × Int × List AV × List AV × List AV × List AV × List AV × Int
abbrev B47 : Type := Int × Int × Int × Int × List UInt8 × List UInt8 × List UInt8 × Bool
def pa47 : PArgs := ⟨[.agg [.view 2, .view 3, .view 4, .int .i64, .int .i64, .int .i64, .int .i64, .int .i64, .int .i64, .int .i64, .int .i64, .int .i64, .int .i64, .int .i64, .int .i64, .int .i64, .int .i64, .view 19, .view 7, .view 10, .view 6, .view 7], .int .i64], []⟩
def to47 (ls : List Lf) : Option A47 := eatL ls fun x0 ls => eatL ls fun x1 ls => eatL ls fun x2 ls => eatI ls fun x3 ls => eatI ls fun x4 ls => eatI ls fun x5 ls => eatI ls fun x6 ls => eatI ls fun x7 ls => eatI ls fun x8 ls => eatI ls fun x9 ls => eatI ls fun x10 ls => eatI ls fun x11 ls => eatI ls fun x12 ls => eatI ls fun x13 ls => eatI ls fun x14 ls => eatI ls fun x15 ls => eatI ls fun x16 ls => eatL ls fun x17 ls => eatL ls fun x18 ls => eatL ls fun x19 ls => eatL ls fun x20 ls => eatL ls fun x21 ls => eatI ls fun x22 ls => eat0 ls (x0, x1, x2, x3, x4, x5, x6, x7, x8, x9, x10, x11, x12, x13, x14, x15, x16, x17, x18, x19, x20, x21, x22)
def ea47 (v : A47) : List AV × Heap := ([.agg [.view 2 v.1, .view 3 v.2.1, .view 4 v.2.2.1, .int .i64 v.2.2.2.1, .int .i64 v.2.2.2.2.1, .int .i64 v.2.2.2.2.2.1, .int .i64 v.2.2.2.2.2.2.1, .int .i64 v.2.2.2.2.2.2.2.1, .int .i64 v.2.2.2.2.2.2.2.2.1, .int .i64 v.2.2.2.2.2.2.2.2.2.1, .int .i64 v.2.2.2.2.2.2.2.2.2.2.1, .int .i64 v.2.2.2.2.2.2.2.2.2.2.2.1, .int .i64 v.2.2.2.2.2.2.2.2.2.2.2.2.1, .int .i64 v.2.2.2.2.2.2.2.2.2.2.2.2.2.1, .int .i64 v.2.2.2.2.2.2.2.2.2.2.2.2.2.2.1, .int .i64 v.2.2.2.2.2.2.2.2.2.2.2.2.2.2.2.1, .int .i64 v.2.2.2.2.2.2.2.2.2.2.2.2.2.2.2.2.1, .view 19 v.2.2.2.2.2.2.2.2.2.2.2.2.2.2.2.2.2.1, .view 7 v.2.2.2.2.2.2.2.2.2.2.2.2.2.2.2.2.2.2.1, .view 10 v.2.2.2.2.2.2.2.2.2.2.2.2.2.2.2.2.2.2.2.1, .view 6 v.2.2.2.2.2.2.2.2.2.2.2.2.2.2.2.2.2.2.2.2.1, .view 7 v.2.2.2.2.2.2.2.2.2.2.2.2.2.2.2.2.2.2.2.2.2.1], .int .i64 v.2.2.2.2.2.2.2.2.2.2.2.2.2.2.2.2.2.2.2.2.2.2], [])
def er47_0 (v : Int × Int × Int × Int × List UInt8 × List UInt8 × List UInt8 × Bool) : Res × Heap := (.ret (.tup [.agg [.int .i64 v.1, .int .i64 v.2.1, .int .i64 v.2.2.1, .int .i64 v.2.2.2.1, .str v.2.2.2.2.1, .str v.2.2.2.2.2.1, .str v.2.2.2.2.2.2.1], .bool v.2.2.2.2.2.2.2]), [])
def er47 : B47 → Res × Heap := er47_0
def en47 : Option B47 → List (Bool × Res × Heap) := (E1 er47_0)
def rd47 : Res → Heap → Option B47 := rDec ⟨false, .tup [.agg [.int .i64, .int .i64, .int .i64, .int .i64, .str, .str, .str], .bool], []⟩ (fun ls => eatI ls fun x0 ls => eatI ls fun x1 ls => eatI ls fun x2 ls => eatI ls fun x3 ls => eatS ls fun x4 ls => eatS ls fun x5 ls => eatS ls fun x6 ls => eatB ls fun x7 ls => eat0 ls (x0, x1, x2, x3, x4, x5, x6, x7)) (rNo)
theorem to47_ok : ∀ ls v, to47 ls = some v → fArgs pa47 ls = ea47 v := by
  intro ls v h0
  unfold to47 at h0
  obtain ⟨x0, ls0, rfl, h1⟩ := eatL_some h0
  obtain ⟨x1, ls1, rfl, h2⟩ := eatL_some h1
  obtain ⟨x2, ls2, rfl, h3⟩ := eatL_some h2
  obtain ⟨x3, ls3, rfl, h4⟩ := eatI_some h3
  obtain ⟨x4, ls4, rfl, h5⟩ := eatI_some h4
  obtain ⟨x5, ls5, rfl, h6⟩ := eatI_some h5
  obtain ⟨x6, ls6, rfl, h7⟩ := eatI_some h6
  obtain ⟨x7, ls7, rfl, h8⟩ := eatI_some h7
  obtain ⟨x8, ls8, rfl, h9⟩ := eatI_some h8
  obtain ⟨x9, ls9, rfl, h10⟩ := eatI_some h9
  obtain ⟨x10, ls10, rfl, h11⟩ := eatI_some h10
  obtain ⟨x11, ls11, rfl, h12⟩ := eatI_some h11
  obtain ⟨x12, ls12, rfl, h13⟩ := eatI_some h12
  obtain ⟨x13, ls13, rfl, h14⟩ := eatI_some h13
  obtain ⟨x14, ls14, rfl, h15⟩ := eatI_some h14
  obtain ⟨x15, ls15, rfl, h16⟩ := eatI_some h15
  obtain ⟨x16, ls16, rfl, h17⟩ := eatI_some h16
  obtain ⟨x17, ls17, rfl, h18⟩ := eatL_some h17
  obtain ⟨x18, ls18, rfl, h19⟩ := eatL_some h18
  obtain ⟨x19, ls19, rfl, h20⟩ := eatL_some h19
  obtain ⟨x20, ls20, rfl, h21⟩ := eatL_some h20
  obtain ⟨x21, ls21, rfl, h22⟩ := eatL_some h21
  obtain ⟨x22, ls22, rfl, h23⟩ := eatI_some h22
  obtain ⟨rfl, rfl⟩ := eat0_some h23
  rfl
theorem rd47_ok : ∀ r h y, rd47 r h = some y → (r, h) = er47 y := rDec_ok (by
  intro ls v h0
  obtain ⟨x0, ls0, rfl, h1⟩ := eatI_some h0
  obtain ⟨x1, ls1, rfl, h2⟩ := eatI_some h1
  obtain ⟨x2, ls2, rfl, h3⟩ := eatI_some h2
  obtain ⟨x3, ls3, rfl, h4⟩ := eatI_some h3
  obtain ⟨x4, ls4, rfl, h5⟩ := eatS_some h4
  obtain ⟨x5, ls5, rfl, h6⟩ := eatS_some h5
  obtain ⟨x6, ls6, rfl, h7⟩ := eatS_some h6
  obtain ⟨x7, ls7, rfl, h8⟩ := eatB_some h7
  obtain ⟨rfl, rfl⟩ := eat0_some h8
  rfl
) (rNo_ok)
noncomputable def g47 (G : (List AV) → (List AV) → (List AV) → Int → Int → Int → Int → Int → Int → Int → Int → Int → Int → Int → Int → Int → Int → (List AV) → (List AV) → (List AV) → (List AV) → (List AV) → Int → Option B47) : Ent := fEnt pa47 to47 (fun v => G v.1 v.2.1 v.2.2.1 v.2.2.2.1 v.2.2.2.2.1 v.2.2.2.2.2.1 v.2.2.2.2.2.2.1 v.2.2.2.2.2.2.2.1 v.2.2.2.2.2.2.2.2.1 v.2.2.2.2.2.2.2.2.2.1 v.2.2.2.2.2.2.2.2.2.2.1 v.2.2.2.2.2.2.2.2.2.2.2.1 v.2.2.2.2.2.2.2.2.2.2.2.2.1 v.2.2.2.2.2.2.2.2.2.2.2.2.2.1 v.2.2.2.2.2.2.2.2.2.2.2.2.2.2.1 v.2.2.2.2.2.2.2.2.2.2.2.2.2.2.2.1 v.2.2.2.2.2.2.2.2.2.2.2.2.2.2.2.2.1 v.2.2.2.2.2.2.2.2.2.2.2.2.2.2.2.2.2.1 v.2.2.2.2.2.2.2.2.2.2.2.2.2.2.2.2.2.2.1 v.2.2.2.2.2.2.2.2.2.2.2.2.2.2.2.2.2.2.2.1 v.2.2.2.2.2.2.2.2.2.2.2.2.2.2.2.2.2.2.2.2.1 v.2.2.2.2.2.2.2.2.2.2.2.2.2.2.2.2.2.2.2.2.2.1 v.2.2.2.2.2.2.2.2.2.2.2.2.2.2.2.2.2.2.2.2.2.2) en47
theorem g47_ok (G : (List AV) → (List AV) → (List AV) → Int → Int → Int → Int → Int → Int → Int → Int → Int → Int → Int → Int → Int → Int → (List AV) → (List AV) → (List AV) → (List AV) → (List AV) → Int → Option B47) (hG : ∀ v y, G v.1 v.2.1 v.2.2.1 v.2.2.2.1 v.2.2.2.2.1 v.2.2.2.2.2.1 v.2.2.2.2.2.2.1 v.2.2.2.2.2.2.2.1 v.2.2.2.2.2.2.2.2.1 v.2.2.2.2.2.2.2.2.2.1 v.2.2.2.2.2.2.2.2.2.2.1 v.2.2.2.2.2.2.2.2.2.2.2.1 v.2.2.2.2.2.2.2.2.2.2.2.2.1 v.2.2.2.2.2.2.2.2.2.2.2.2.2.1 v.2.2.2.2.2.2.2.2.2.2.2.2.2.2.1 v.2.2.2.2.2.2.2.2.2.2.2.2.2.2.2.1 v.2.2.2.2.2.2.2.2.2.2.2.2.2.2.2.2.1 v.2.2.2.2.2.2.2.2.2.2.2.2.2.2.2.2.2.1 v.2.2.2.2.2.2.2.2.2.2.2.2.2.2.2.2.2.2.1 v.2.2.2.2.2.2.2.2.2.2.2.2.2.2.2.2.2.2.2.1 v.2.2.2.2.2.2.2.2.2.2.2.2.2.2.2.2.2.2.2.2.1 v.2.2.2.2.2.2.2.2.2.2.2.2.2.2.2.2.2.2.2.2.2.1 v.2.2.2.2.2.2.2.2.2.2.2.2.2.2.2.2.2.2.2.2.2.2 = some y → callO IP 47 (ea47 v).1 (ea47 v).2 = some (er47 y)) : Snd IP 47 (g47 G) := fEnt_ok to47_ok E1_ok hG
noncomputable def tr47 (x0 : List AV) (x1 : List AV) (x2 : List AV) (x3 : Int) (x4 : Int) (x5 : Int) (x6 : Int) (x7 : Int) (x8 : Int) (x9 : Int) (x10 : Int) (x11 : Int) (x12 : Int) (x13 : Int) (x14 : Int) (x15 : Int) (x16 : Int) (x17 : List AV) (x18 : List AV) (x19 : List AV) (x20 : List AV) (x21 : List AV) (x22 : Int) : DT B47 :=
 .bi (f55 x0 x1 x2 x3 x4 x5 x6 x7 x8 x9 x10 x11 x12 x13 x14 x15 x16 x17 x18 x19 x20 x21 x22) (fun y0 =>
  .br (decide (y0 < 0))
   (.at ((0, 0, 0, 0, [], [], [], false)))
   (.br (okAt [CS.int IntKind.i64, CS.int IntKind.i64, CS.int IntKind.i64, CS.int IntKind.i64, CS.str, CS.str, CS.str] x18 y0)
    (.at ((intOf (cellAt x18 y0 0), intOf (cellAt x18 y0 1), intOf (cellAt x18 y0 2), intOf (cellAt x18 y0 3), strOf (cellAt x18 y0 4), strOf (cellAt x18 y0 5), strOf (cellAt x18 y0 6), true)))
    (.no)))
  (.no)
noncomputable def T47 : Tab := [(34, cloneE 3 24), (35, cloneE 3 32), (55, g55 f55)]
theorem T47_ok : TabOk IP (T47) := ⟨sp34, sp35, s55, trivial⟩
noncomputable def L47 : LTab := []
theorem L47_ok : LOk IP (L47) (loops F47.body) := LOk_of (l := []) (by kernel_rfl) trivial
theorem b47 (v : A47) : bodyK (R := B47) IP (callT (T47)) (loopT (L47)) 47 F47 (ea47 v).1 (ea47 v).2 rd47 = (tr47 v.1 v.2.1 v.2.2.1 v.2.2.2.1 v.2.2.2.2.1 v.2.2.2.2.2.1 v.2.2.2.2.2.2.1 v.2.2.2.2.2.2.2.1 v.2.2.2.2.2.2.2.2.1 v.2.2.2.2.2.2.2.2.2.1 v.2.2.2.2.2.2.2.2.2.2.1 v.2.2.2.2.2.2.2.2.2.2.2.1 v.2.2.2.2.2.2.2.2.2.2.2.2.1 v.2.2.2.2.2.2.2.2.2.2.2.2.2.1 v.2.2.2.2.2.2.2.2.2.2.2.2.2.2.1 v.2.2.2.2.2.2.2.2.2.2.2.2.2.2.2.1 v.2.2.2.2.2.2.2.2.2.2.2.2.2.2.2.2.1 v.2.2.2.2.2.2.2.2.2.2.2.2.2.2.2.2.2.1 v.2.2.2.2.2.2.2.2.2.2.2.2.2.2.2.2.2.2.1 v.2.2.2.2.2.2.2.2.2.2.2.2.2.2.2.2.2.2.2.1 v.2.2.2.2.2.2.2.2.2.2.2.2.2.2.2.2.2.2.2.2.1 v.2.2.2.2.2.2.2.2.2.2.2.2.2.2.2.2.2.2.2.2.2.1 v.2.2.2.2.2.2.2.2.2.2.2.2.2.2.2.2.2.2.2.2.2.2).ev := by kernel_rfl
/--  -/
noncomputable def f47 (x0 : List AV) (x1 : List AV) (x2 : List AV) (x3 : Int) (x4 : Int) (x5 : Int) (x6 : Int) (x7 : Int) (x8 : Int) (x9 : Int) (x10 : Int) (x11 : Int) (x12 : Int) (x13 : Int) (x14 : Int) (x15 : Int) (x16 : Int) (x17 : List AV) (x18 : List AV) (x19 : List AV) (x20 : List AV) (x21 : List AV) (x22 : Int) : Option B47 := lock (tr47 x0 x1 x2 x3 x4 x5 x6 x7 x8 x9 x10 x11 x12 x13 x14 x15 x16 x17 x18 x19 x20 x21 x22).ev
theorem f47_eq (x0 : List AV) (x1 : List AV) (x2 : List AV) (x3 : Int) (x4 : Int) (x5 : Int) (x6 : Int) (x7 : Int) (x8 : Int) (x9 : Int) (x10 : Int) (x11 : Int) (x12 : Int) (x13 : Int) (x14 : Int) (x15 : Int) (x16 : Int) (x17 : List AV) (x18 : List AV) (x19 : List AV) (x20 : List AV) (x21 : List AV) (x22 : Int) : f47 x0 x1 x2 x3 x4 x5 x6 x7 x8 x9 x10 x11 x12 x13 x14 x15 x16 x17 x18 x19 x20 x21 x22 = (tr47 x0 x1 x2 x3 x4 x5 x6 x7 x8 x9 x10 x11 x12 x13 x14 x15 x16 x17 x18 x19 x20 x21 x22).ev := lock_eq _
theorem c47 : ∀ v y, f47 v.1 v.2.1 v.2.2.1 v.2.2.2.1 v.2.2.2.2.1 v.2.2.2.2.2.1 v.2.2.2.2.2.2.1 v.2.2.2.2.2.2.2.1 v.2.2.2.2.2.2.2.2.1 v.2.2.2.2.2.2.2.2.2.1 v.2.2.2.2.2.2.2.2.2.2.1 v.2.2.2.2.2.2.2.2.2.2.2.1 v.2.2.2.2.2.2.2.2.2.2.2.2.1 v.2.2.2.2.2.2.2.2.2.2.2.2.2.1 v.2.2.2.2.2.2.2.2.2.2.2.2.2.2.1 v.2.2.2.2.2.2.2.2.2.2.2.2.2.2.2.1 v.2.2.2.2.2.2.2.2.2.2.2.2.2.2.2.2.1 v.2.2.2.2.2.2.2.2.2.2.2.2.2.2.2.2.2.1 v.2.2.2.2.2.2.2.2.2.2.2.2.2.2.2.2.2.2.1 v.2.2.2.2.2.2.2.2.2.2.2.2.2.2.2.2.2.2.2.1 v.2.2.2.2.2.2.2.2.2.2.2.2.2.2.2.2.2.2.2.2.1 v.2.2.2.2.2.2.2.2.2.2.2.2.2.2.2.2.2.2.2.2.2.1 v.2.2.2.2.2.2.2.2.2.2.2.2.2.2.2.2.2.2.2.2.2.2 = some y → callO IP 47 (ea47 v).1 (ea47 v).2 = some (er47 y) := fun v y h => fun_of T47_ok (by kernel_rfl) L47_ok rd47_ok (b47 v) ((f47_eq v.1 v.2.1 v.2.2.1 v.2.2.2.1 v.2.2.2.2.1 v.2.2.2.2.2.1 v.2.2.2.2.2.2.1 v.2.2.2.2.2.2.2.1 v.2.2.2.2.2.2.2.2.1 v.2.2.2.2.2.2.2.2.2.1 v.2.2.2.2.2.2.2.2.2.2.1 v.2.2.2.2.2.2.2.2.2.2.2.1 v.2.2.2.2.2.2.2.2.2.2.2.2.1 v.2.2.2.2.2.2.2.2.2.2.2.2.2.1 v.2.2.2.2.2.2.2.2.2.2.2.2.2.2.1 v.2.2.2.2.2.2.2.2.2.2.2.2.2.2.2.1 v.2.2.2.2.2.2.2.2.2.2.2.2.2.2.2.2.1 v.2.2.2.2.2.2.2.2.2.2.2.2.2.2.2.2.2.1 v.2.2.2.2.2.2.2.2.2.2.2.2.2.2.2.2.2.2.1 v.2.2.2.2.2.2.2.2.2.2.2.2.2.2.2.2.2.2.2.1 v.2.2.2.2.2.2.2.2.2.2.2.2.2.2.2.2.2.2.2.2.1 v.2.2.2.2.2.2.2.2.2.2.2.2.2.2.2.2.2.2.2.2.2.1 v.2.2.2.2.2.2.2.2.2.2.2.2.2.2.2.2.2.2.2.2.2.2).symm.trans h)
theorem s47 : Snd IP 47 (g47 f47) := g47_ok f47 c47

-- l48_0: loop 0 of function 48
abbrev TT48_0 : Type := List AV × List UInt8 × Int × Int × List AV × Int × Int × List UInt8 × List UInt8 × List UInt8 × Int × Int × Int × Int × Bool × Int × Int × Bool × Bool × Int × Int × Bool
def h48_0_0 (v : List AV × List UInt8 × Int × Int × List AV × Int × Int × List UInt8 × List UInt8 × List UInt8 × Int × Int × Int × Int × Bool × Int × Int × Bool × Bool × Int × Int × Bool) : St := ⟨[(1004800, .junk), (0, .view 19 v.1), (1, .str v.2.1), (2, .int .i64 v.2.2.1), (6, .ref 0 0 0), (8, .int .i64 v.2.2.2.1), (11, .view 19 v.2.2.2.2.1), (12, .int .i64 v.2.2.2.2.2.1), (13, .int .i64 v.2.2.2.2.2.2.1)], [(0, .box [.str v.2.2.2.2.2.2.2.1, .str v.2.2.2.2.2.2.2.2.1, .str v.2.2.2.2.2.2.2.2.2.1, .int .i64 v.2.2.2.2.2.2.2.2.2.2.1, .int .i64 v.2.2.2.2.2.2.2.2.2.2.2.1, .int .i64 v.2.2.2.2.2.2.2.2.2.2.2.2.1, .int .i64 v.2.2.2.2.2.2.2.2.2.2.2.2.2.1, .nils 2, .bool v.2.2.2.2.2.2.2.2.2.2.2.2.2.2.1, .int .i64 v.2.2.2.2.2.2.2.2.2.2.2.2.2.2.2.1, .int .i64 v.2.2.2.2.2.2.2.2.2.2.2.2.2.2.2.2.1, .bool v.2.2.2.2.2.2.2.2.2.2.2.2.2.2.2.2.2.1, .nils 2, .bool v.2.2.2.2.2.2.2.2.2.2.2.2.2.2.2.2.2.2.1, .int .i64 v.2.2.2.2.2.2.2.2.2.2.2.2.2.2.2.2.2.2.2.1, .int .i64 v.2.2.2.2.2.2.2.2.2.2.2.2.2.2.2.2.2.2.2.2.1, .bool v.2.2.2.2.2.2.2.2.2.2.2.2.2.2.2.2.2.2.2.2.2, .nils 10, .nils 6] false)], 1, 0⟩
def h48_0 : TT48_0 → St := (fun v => h48_0_0 v)
def d48_0 : St → Option TT48_0 := sDec ⟨[(1004800, .junk), (0, .view 19), (1, .str), (2, .int .i64), (6, .ref 0 0 0), (8, .int .i64), (11, .view 19), (12, .int .i64), (13, .int .i64)], [(0, .box [.str, .str, .str, .int .i64, .int .i64, .int .i64, .int .i64, .nils 2, .bool, .int .i64, .int .i64, .bool, .nils 2, .bool, .int .i64, .int .i64, .bool, .nils 10, .nils 6] false)], 1, 0⟩ (fun ls => eatL ls fun x0 ls => eatS ls fun x1 ls => eatI ls fun x2 ls => eatI ls fun x3 ls => eatL ls fun x4 ls => eatI ls fun x5 ls => eatI ls fun x6 ls => eatS ls fun x7 ls => eatS ls fun x8 ls => eatS ls fun x9 ls => eatI ls fun x10 ls => eatI ls fun x11 ls => eatI ls fun x12 ls => eatI ls fun x13 ls => eatB ls fun x14 ls => eatI ls fun x15 ls => eatI ls fun x16 ls => eatB ls fun x17 ls => eatB ls fun x18 ls => eatI ls fun x19 ls => eatI ls fun x20 ls => eatB ls fun x21 ls => eat0 ls (x0, x1, x2, x3, x4, x5, x6, x7, x8, x9, x10, x11, x12, x13, x14, x15, x16, x17, x18, x19, x20, x21)) (sNo)
theorem d48_0_ok : ∀ s v, d48_0 s = some v → s = h48_0 v := sDec_ok (by
  intro ls v h0
  obtain ⟨x0, ls0, rfl, h1⟩ := eatL_some h0
  obtain ⟨x1, ls1, rfl, h2⟩ := eatS_some h1
  obtain ⟨x2, ls2, rfl, h3⟩ := eatI_some h2
  obtain ⟨x3, ls3, rfl, h4⟩ := eatI_some h3
  obtain ⟨x4, ls4, rfl, h5⟩ := eatL_some h4
  obtain ⟨x5, ls5, rfl, h6⟩ := eatI_some h5
  obtain ⟨x6, ls6, rfl, h7⟩ := eatI_some h6
  obtain ⟨x7, ls7, rfl, h8⟩ := eatS_some h7
  obtain ⟨x8, ls8, rfl, h9⟩ := eatS_some h8
  obtain ⟨x9, ls9, rfl, h10⟩ := eatS_some h9
  obtain ⟨x10, ls10, rfl, h11⟩ := eatI_some h10
  obtain ⟨x11, ls11, rfl, h12⟩ := eatI_some h11
  obtain ⟨x12, ls12, rfl, h13⟩ := eatI_some h12
  obtain ⟨x13, ls13, rfl, h14⟩ := eatI_some h13
  obtain ⟨x14, ls14, rfl, h15⟩ := eatB_some h14
  obtain ⟨x15, ls15, rfl, h16⟩ := eatI_some h15
  obtain ⟨x16, ls16, rfl, h17⟩ := eatI_some h16
  obtain ⟨x17, ls17, rfl, h18⟩ := eatB_some h17
  obtain ⟨x18, ls18, rfl, h19⟩ := eatB_some h18
  obtain ⟨x19, ls19, rfl, h20⟩ := eatI_some h19
  obtain ⟨x20, ls20, rfl, h21⟩ := eatI_some h20
  obtain ⟨x21, ls21, rfl, h22⟩ := eatB_some h21
  obtain ⟨rfl, rfl⟩ := eat0_some h22
  rfl
) (sNo_ok)
theorem n48_0_0 (v : List AV × List UInt8 × Int × Int × List AV × Int × Int × List UInt8 × List UInt8 × List UInt8 × Int × Int × Int × Int × Bool × Int × Int × Bool × Bool × Int × Int × Bool) : norm (hk (loopAt F48 0).1) (h48_0_0 v) = some (h48_0_0 v) := by kernel_rfl
noncomputable def x48_0_0 (x0 : List AV) (x1 : List UInt8) (x2 : Int) (x3 : Int) (x4 : List AV) (x5 : Int) (x6 : Int) (x7 : List UInt8) (x8 : List UInt8) (x9 : List UInt8) (x10 : Int) (x11 : Int) (x12 : Int) (x13 : Int) (x14 : Bool) (x15 : Int) (x16 : Int) (x17 : Bool) (x18 : Bool) (x19 : Int) (x20 : Int) (x21 : Bool) : X × St := (X.exit 0,
  { tm := [(0, AV.view 19 x0), (6, AV.ref 0 0 0), (8, AV.int IntKind.i64 x3)],
    hp :=
      [(0,
          Blk.box
            [AV.str x7, AV.str x8, AV.str x9, AV.int IntKind.i64 x10, AV.int IntKind.i64 x11, AV.int IntKind.i64 x12, AV.int IntKind.i64 x13, AV.nils { sz := 2, kd := NKd.nil },
              AV.bool x14, AV.int IntKind.i64 x15, AV.int IntKind.i64 x16, AV.bool x17, AV.nils { sz := 2, kd := NKd.nil }, AV.bool x18, AV.int IntKind.i64 x19,
              AV.int IntKind.i64 x20, AV.bool x21, AV.nils { sz := 10, kd := NKd.nil }, AV.nils { sz := 6, kd := NKd.nil }]
            false)],
    nx := 1, k := 0 })
noncomputable def x48_0 : Nat → TT48_0 → X × St := fun j w => match j with
  | 0 => x48_0_0 w.1 w.2.1 w.2.2.1 w.2.2.2.1 w.2.2.2.2.1 w.2.2.2.2.2.1 w.2.2.2.2.2.2.1 w.2.2.2.2.2.2.2.1 w.2.2.2.2.2.2.2.2.1 w.2.2.2.2.2.2.2.2.2.1 w.2.2.2.2.2.2.2.2.2.2.1 w.2.2.2.2.2.2.2.2.2.2.2.1 w.2.2.2.2.2.2.2.2.2.2.2.2.1 w.2.2.2.2.2.2.2.2.2.2.2.2.2.1 w.2.2.2.2.2.2.2.2.2.2.2.2.2.2.1 w.2.2.2.2.2.2.2.2.2.2.2.2.2.2.2.1 w.2.2.2.2.2.2.2.2.2.2.2.2.2.2.2.2.1 w.2.2.2.2.2.2.2.2.2.2.2.2.2.2.2.2.2.1 w.2.2.2.2.2.2.2.2.2.2.2.2.2.2.2.2.2.2.1 w.2.2.2.2.2.2.2.2.2.2.2.2.2.2.2.2.2.2.2.1 w.2.2.2.2.2.2.2.2.2.2.2.2.2.2.2.2.2.2.2.2.1 w.2.2.2.2.2.2.2.2.2.2.2.2.2.2.2.2.2.2.2.2.2
  | _ => (.ret, ⟨[], [], 0, 0⟩)
theorem e48_0 : ∀ j v, outB (x48_0 j v).1 = true := fun j v => match j with
  | 0 => rfl
  | _ + 1 => rfl
noncomputable def st48_0_0 (x0 : List AV) (x1 : List UInt8) (x2 : Int) (x3 : Int) (x4 : List AV) (x5 : Int) (x6 : Int) (x7 : List UInt8) (x8 : List UInt8) (x9 : List UInt8) (x10 : Int) (x11 : Int) (x12 : Int) (x13 : Int) (x14 : Bool) (x15 : Int) (x16 : Int) (x17 : Bool) (x18 : Bool) (x19 : Int) (x20 : Int) (x21 : Bool) : DT (Rd TT48_0) :=
 .br (decide (x6 < x5))
  (.br (okAt
      [CS.str, CS.str, CS.str, CS.int IntKind.i64, CS.int IntKind.i64, CS.int IntKind.i64, CS.int IntKind.i64, CS.slice 2, CS.bool, CS.int IntKind.i64, CS.int IntKind.i64, CS.bool,
        CS.slice 2, CS.bool, CS.int IntKind.i64, CS.int IntKind.i64, CS.bool, CS.slice 10, CS.slice 6]
      x4 x6)
   (.br (strOf (cellAt x4 x6 0) == x1)
    (.br (decide (intOf (cellAt x4 x6 3) ≤ x2))
     (.br (decide (x3 < 0))
      (.at (.next ((x0, x1, x2, x6, x4, x5, IntKind.i64.wrap (x6 + 1), x7, x8, x9, x10, x11, x12, x13, x14, x15, x16, x17, x18, x19, x20, x21))))
      (.br (okAt
          [CS.str, CS.str, CS.str, CS.int IntKind.i64, CS.int IntKind.i64, CS.int IntKind.i64, CS.int IntKind.i64, CS.slice 2, CS.bool, CS.int IntKind.i64, CS.int IntKind.i64, CS.bool,
            CS.slice 2, CS.bool, CS.int IntKind.i64, CS.int IntKind.i64, CS.bool, CS.slice 10, CS.slice 6]
          x0 x3)
       (.br (decide (intOf (cellAt x4 x6 3) > intOf (cellAt x0 x3 3)))
        (.at (.next ((x0, x1, x2, x6, x4, x5, IntKind.i64.wrap (x6 + 1), x7, x8, x9, x10, x11, x12, x13, x14, x15, x16, x17, x18, x19, x20, x21))))
        (.at (.next ((x0, x1, x2, x3, x4, x5, IntKind.i64.wrap (x6 + 1), x7, x8, x9, x10, x11, x12, x13, x14, x15, x16, x17, x18, x19, x20, x21)))))
       (.no)))
     (.at (.next ((x0, x1, x2, x3, x4, x5, IntKind.i64.wrap (x6 + 1), x7, x8, x9, x10, x11, x12, x13, x14, x15, x16, x17, x18, x19, x20, x21)))))
    (.at (.next ((x0, x1, x2, x3, x4, x5, IntKind.i64.wrap (x6 + 1), x7, x8, x9, x10, x11, x12, x13, x14, x15, x16, x17, x18, x19, x20, x21)))))
   (.no))
  (.at (.done 0))
noncomputable def st48_0 : TT48_0 → DT (Rd TT48_0) := (fun v => st48_0_0 v.1 v.2.1 v.2.2.1 v.2.2.2.1 v.2.2.2.2.1 v.2.2.2.2.2.1 v.2.2.2.2.2.2.1 v.2.2.2.2.2.2.2.1 v.2.2.2.2.2.2.2.2.1 v.2.2.2.2.2.2.2.2.2.1 v.2.2.2.2.2.2.2.2.2.2.1 v.2.2.2.2.2.2.2.2.2.2.2.1 v.2.2.2.2.2.2.2.2.2.2.2.2.1 v.2.2.2.2.2.2.2.2.2.2.2.2.2.1 v.2.2.2.2.2.2.2.2.2.2.2.2.2.2.1 v.2.2.2.2.2.2.2.2.2.2.2.2.2.2.2.1 v.2.2.2.2.2.2.2.2.2.2.2.2.2.2.2.2.1 v.2.2.2.2.2.2.2.2.2.2.2.2.2.2.2.2.2.1 v.2.2.2.2.2.2.2.2.2.2.2.2.2.2.2.2.2.2.1 v.2.2.2.2.2.2.2.2.2.2.2.2.2.2.2.2.2.2.2.1 v.2.2.2.2.2.2.2.2.2.2.2.2.2.2.2.2.2.2.2.2.1 v.2.2.2.2.2.2.2.2.2.2.2.2.2.2.2.2.2.2.2.2.2)
noncomputable def T48_0 : Tab := [(34, cloneE 3 24), (35, cloneE 3 32)]
theorem T48_0_ok : TabOk IP (T48_0) := ⟨sp34, sp35, trivial⟩
noncomputable def L48_0 : LTab := []
theorem L48_0_ok : LOk IP (L48_0) (loops (loopAt F48 0).2) := LOk_of (l := []) (by kernel_rfl) trivial
theorem b48_0_0 (v : List AV × List UInt8 × Int × Int × List AV × Int × Int × List UInt8 × List UInt8 × List UInt8 × Int × Int × Int × Int × Bool × Int × Int × Bool × Bool × Int × Int × Bool) : execK (R := Rx TT48_0) IP (callT (T48_0)) (loopT (L48_0)) (loopAt F48 0).2 (h48_0_0 v) (endK (loopAt F48 0).1 d48_0) = (cvD (fun j => x48_0 j v) (st48_0_0 v.1 v.2.1 v.2.2.1 v.2.2.2.1 v.2.2.2.2.1 v.2.2.2.2.2.1 v.2.2.2.2.2.2.1 v.2.2.2.2.2.2.2.1 v.2.2.2.2.2.2.2.2.1 v.2.2.2.2.2.2.2.2.2.1 v.2.2.2.2.2.2.2.2.2.2.1 v.2.2.2.2.2.2.2.2.2.2.2.1 v.2.2.2.2.2.2.2.2.2.2.2.2.1 v.2.2.2.2.2.2.2.2.2.2.2.2.2.1 v.2.2.2.2.2.2.2.2.2.2.2.2.2.2.1 v.2.2.2.2.2.2.2.2.2.2.2.2.2.2.2.1 v.2.2.2.2.2.2.2.2.2.2.2.2.2.2.2.2.1 v.2.2.2.2.2.2.2.2.2.2.2.2.2.2.2.2.2.1 v.2.2.2.2.2.2.2.2.2.2.2.2.2.2.2.2.2.2.1 v.2.2.2.2.2.2.2.2.2.2.2.2.2.2.2.2.2.2.2.1 v.2.2.2.2.2.2.2.2.2.2.2.2.2.2.2.2.2.2.2.2.1 v.2.2.2.2.2.2.2.2.2.2.2.2.2.2.2.2.2.2.2.2.2)).ev := by kernel_rfl
noncomputable def l48_0 (v : TT48_0) : Option (Nat × TT48_0) := lock (iterO (fun v => (st48_0 v).ev) v)
theorem l48_0_eq (v : TT48_0) : l48_0 v = iterO (fun v => (st48_0 v).ev) v := lock_eq _
noncomputable def ll48_0 : LEnt := lEnt d48_0 (l48_0) (x48_0) 1
theorem t48_0 : Go.Eng.Told IP (loopAt F48 0).1 (loopAt F48 0).2 (ll48_0) := loop_of (st := st48_0) (T48_0_ok) (L48_0_ok) d48_0_ok (fun v => n48_0_0 v) (e48_0) (fun v => b48_0_0 v) (l48_0_eq)

-- f48: 
abbrev A48 : Type := List AV × List UInt8 × Int
abbrev B48 : Type := List UInt8 × List UInt8 × List UInt8 × Int × Int × Int × Int × List AV × Bool × Int × Int × Bool × List AV × Bool × Int × Int × Bool × List AV × List AV × Bool
def pa48 : PArgs := ⟨[.view 19, .str, .int .i64], []⟩
def to48 (ls : List Lf) : Option A48 := eatL ls fun x0 ls => eatS ls fun x1 ls => eatI ls fun x2 ls => eat0 ls (x0, x1, x2)
def ea48 (v : A48) : List AV × Heap := ([.view 19 v.1, .str v.2.1, .int .i64 v.2.2], [])
def er48_0 (v : List UInt8 × List UInt8 × List UInt8 × Int × Int × Int × Int × List AV × Bool × Int × Int × Bool × List AV × Bool × Int × Int × Bool × List AV × List AV × Bool) : Res × Heap := (.ret (.tup [.agg [.str v.1, .str v.2.1, .str v.2.2.1, .int .i64 v.2.2.2.1, .int .i64 v.2.2.2.2.1, .int .i64 v.2.2.2.2.2.1, .int .i64 v.2.2.2.2.2.2.1, .view 2 v.2.2.2.2.2.2.2.1, .bool v.2.2.2.2.2.2.2.2.1, .int .i64 v.2.2.2.2.2.2.2.2.2.1, .int .i64 v.2.2.2.2.2.2.2.2.2.2.1, .bool v.2.2.2.2.2.2.2.2.2.2.2.1, .view 2 v.2.2.2.2.2.2.2.2.2.2.2.2.1, .bool v.2.2.2.2.2.2.2.2.2.2.2.2.2.1, .int .i64 v.2.2.2.2.2.2.2.2.2.2.2.2.2.2.1, .int .i64 v.2.2.2.2.2.2.2.2.2.2.2.2.2.2.2.1, .bool v.2.2.2.2.2.2.2.2.2.2.2.2.2.2.2.2.1, .view 10 v.2.2.2.2.2.2.2.2.2.2.2.2.2.2.2.2.2.1, .view 6 v.2.2.2.2.2.2.2.2.2.2.2.2.2.2.2.2.2.2.1], .bool v.2.2.2.2.2.2.2.2.2.2.2.2.2.2.2.2.2.2.2]), [])
def er48 : B48 → Res × Heap := er48_0
def en48 : Option B48 → List (Bool × Res × Heap) := (E1 er48_0)
def rd48 : Res → Heap → Option B48 := rDec ⟨false, .tup [.agg [.str, .str, .str, .int .i64, .int .i64, .int .i64, .int .i64, .view 2, .bool, .int .i64, .int .i64, .bool, .view 2, .bool, .int .i64, .int .i64, .bool, .view 10, .view 6], .bool], []⟩ (fun ls => eatS ls fun x0 ls => eatS ls fun x1 ls => eatS ls fun x2 ls => eatI ls fun x3 ls => eatI ls fun x4 ls => eatI ls fun x5 ls => eatI ls fun x6 ls => eatL ls fun x7 ls => eatB ls fun x8 ls => eatI ls fun x9 ls => eatI ls fun x10 ls => eatB ls fun x11 ls => eatL ls fun x12 ls => eatB ls fun x13 ls => eatI ls fun x14 ls => eatI ls fun x15 ls => eatB ls fun x16 ls => eatL ls fun x17 ls => eatL ls fun x18 ls => eatB ls fun x19 ls => eat0 ls (x0, x1, x2, x3, x4, x5, x6, x7, x8, x9, x10, x11, x12, x13, x14, x15, x16, x17, x18, x19)) (rNo)
theorem to48_ok : ∀ ls v, to48 ls = some v → fArgs pa48 ls = ea48 v := by
  intro ls v h0
  unfold to48 at h0
  obtain ⟨x0, ls0, rfl, h1⟩ := eatL_some h0
  obtain ⟨x1, ls1, rfl, h2⟩ := eatS_some h1
  obtain ⟨x2, ls2, rfl, h3⟩ := eatI_some h2
  obtain ⟨rfl, rfl⟩ := eat0_some h3
  rfl
theorem rd48_ok : ∀ r h y, rd48 r h = some y → (r, h) = er48 y := rDec_ok (by
  intro ls v h0
  obtain ⟨x0, ls0, rfl, h1⟩ := eatS_some h0
  obtain ⟨x1, ls1, rfl, h2⟩ := eatS_some h1
  obtain ⟨x2, ls2, rfl, h3⟩ := eatS_some h2
  obtain ⟨x3, ls3, rfl, h4⟩ := eatI_some h3
  obtain ⟨x4, ls4, rfl, h5⟩ := eatI_some h4
  obtain ⟨x5, ls5, rfl, h6⟩ := eatI_some h5
  obtain ⟨x6, ls6, rfl, h7⟩ := eatI_some h6
  obtain ⟨x7, ls7, rfl, h8⟩ := eatL_some h7
  obtain ⟨x8, ls8, rfl, h9⟩ := eatB_some h8
  obtain ⟨x9, ls9, rfl, h10⟩ := eatI_some h9
  obtain ⟨x10, ls10, rfl, h11⟩ := eatI_some h10
  obtain ⟨x11, ls11, rfl, h12⟩ := eatB_some h11
  obtain ⟨x12, ls12, rfl, h13⟩ := eatL_some h12
  obtain ⟨x13, ls13, rfl, h14⟩ := eatB_some h13
  obtain ⟨x14, ls14, rfl, h15⟩ := eatI_some h14
  obtain ⟨x15, ls15, rfl, h16⟩ := eatI_some h15
  obtain ⟨x16, ls16, rfl, h17⟩ := eatB_some h16
  obtain ⟨x17, ls17, rfl, h18⟩ := eatL_some h17
  obtain ⟨x18, ls18, rfl, h19⟩ := eatL_some h18
  obtain ⟨x19, ls19, rfl, h20⟩ := eatB_some h19
  obtain ⟨rfl, rfl⟩ := eat0_some h20
  rfl
) (rNo_ok)
noncomputable def g48 (G : (List AV) → (List UInt8) → Int → Option B48) : Ent := fEnt pa48 to48 (fun v => G v.1 v.2.1 v.2.2) en48
theorem g48_ok (G : (List AV) → (List UInt8) → Int → Option B48) (hG : ∀ v y, G v.1 v.2.1 v.2.2 = some y → callO IP 48 (ea48 v).1 (ea48 v).2 = some (er48 y)) : Snd IP 48 (g48 G) := fEnt_ok to48_ok E1_ok hG
noncomputable def tr48 (x0 : List AV) (x1 : List UInt8) (x2 : Int) : DT B48 :=
 .bi (pj 0 (l48_0 (x0, x1, x2, -1, x0, (↑x0.length : Int), 0, [], [], [], 0, 0, 0, 0, false, 0, 0, false, false, 0, 0, false))) (fun y0 =>
  .br (decide (y0.snd.snd.snd.fst < 0))
   (.at (([], [], [], 0, 0, 0, 0, [], false, 0, 0, false, [], false, 0, 0, false, [], [], false)))
   (.br (okAt
       [CS.str, CS.str, CS.str, CS.int IntKind.i64, CS.int IntKind.i64, CS.int IntKind.i64, CS.int IntKind.i64, CS.slice 2, CS.bool, CS.int IntKind.i64, CS.int IntKind.i64, CS.bool,
         CS.slice 2, CS.bool, CS.int IntKind.i64, CS.int IntKind.i64, CS.bool, CS.slice 10, CS.slice 6]
       y0.fst y0.snd.snd.snd.fst)
    (.at ((strOf (cellAt y0.fst y0.snd.snd.snd.fst 0), strOf (cellAt y0.fst y0.snd.snd.snd.fst 1), strOf (cellAt y0.fst y0.snd.snd.snd.fst 2), intOf (cellAt y0.fst y0.snd.snd.snd.fst 3), intOf (cellAt y0.fst y0.snd.snd.snd.fst 4), intOf (cellAt y0.fst y0.snd.snd.snd.fst 5), intOf (cellAt y0.fst y0.snd.snd.snd.fst 6), viewOf (cellAt y0.fst y0.snd.snd.snd.fst 7), boolOf (cellAt y0.fst y0.snd.snd.snd.fst 8), intOf (cellAt y0.fst y0.snd.snd.snd.fst 9), intOf (cellAt y0.fst y0.snd.snd.snd.fst 10), boolOf (cellAt y0.fst y0.snd.snd.snd.fst 11), viewOf (cellAt y0.fst y0.snd.snd.snd.fst 12), boolOf (cellAt y0.fst y0.snd.snd.snd.fst 13), intOf (cellAt y0.fst y0.snd.snd.snd.fst 14), intOf (cellAt y0.fst y0.snd.snd.snd.fst 15), boolOf (cellAt y0.fst y0.snd.snd.snd.fst 16), viewOf (cellAt y0.fst y0.snd.snd.snd.fst 17), viewOf (cellAt y0.fst y0.snd.snd.snd.fst 18), true)))
    (.no)))
  (.no)
noncomputable def T48 : Tab := [(34, cloneE 3 24), (35, cloneE 3 32)]
theorem T48_ok : TabOk IP (T48) := ⟨sp34, sp35, trivial⟩
noncomputable def L48 : LTab := [(1004800, ll48_0)]
theorem L48_ok : LOk IP (L48) (loops F48.body) := LOk_of (l := [loopAt F48 0]) (by kernel_rfl) ⟨sel_one (by kernel_rfl) t48_0, trivial⟩
theorem b48 (v : A48) : bodyK (R := B48) IP (callT (T48)) (loopT (L48)) 48 F48 (ea48 v).1 (ea48 v).2 rd48 = (tr48 v.1 v.2.1 v.2.2).ev := by kernel_rfl
/--  -/
noncomputable def f48 (x0 : List AV) (x1 : List UInt8) (x2 : Int) : Option B48 := lock (tr48 x0 x1 x2).ev
theorem f48_eq (x0 : List AV) (x1 : List UInt8) (x2 : Int) : f48 x0 x1 x2 = (tr48 x0 x1 x2).ev := lock_eq _
theorem c48 : ∀ v y, f48 v.1 v.2.1 v.2.2 = some y → callO IP 48 (ea48 v).1 (ea48 v).2 = some (er48 y) := fun v y h => fun_of T48_ok (by kernel_rfl) L48_ok rd48_ok (b48 v) ((f48_eq v.1 v.2.1 v.2.2).symm.trans h)
theorem s48 : Snd IP 48 (g48 f48) := g48_ok f48 c48

-- f36: 
abbrev A36 : Type := List AV × List AV × List AV × Int × Int × Int × Int × Int × Int × Int × Int × Int × Int × Int × Int × Int × Int × List AV × List AV × List AV × List AV × List AV × Int × Int
abbrev B36 : Type := List UInt8 × List UInt8 × List UInt8 × Int × Int × Int × Int × List AV × Bool × Int × Int × Bool × List AV × Bool × Int × Int × Bool × List AV × List AV × Bool
def pa36 : PArgs := ⟨[.agg [.view 2, .view 3, .view 4, .int .i64, .int .i64, .int .i64, .int .i64, .int .i64, .int .i64, .int .i64, .int .i64, .int .i64, .int .i64, .int .i64, .int .i64, .int .i64, .int .i64, .view 19, .view 7, .view 10, .view 6, .view 7], .int .i64, .int .i64], []⟩
def to36 (ls : List Lf) : Option A36 := eatL ls fun x0 ls => eatL ls fun x1 ls => eatL ls fun x2 ls => eatI ls fun x3 ls => eatI ls fun x4 ls => eatI ls fun x5 ls => eatI ls fun x6 ls => eatI ls fun x7 ls => eatI ls fun x8 ls => eatI ls fun x9 ls => eatI ls fun x10 ls => eatI ls fun x11 ls => eatI ls fun x12 ls => eatI ls fun x13 ls => eatI ls fun x14 ls => eatI ls fun x15 ls => eatI ls fun x16 ls => eatL ls fun x17 ls => eatL ls fun x18 ls => eatL ls fun x19 ls => eatL ls fun x20 ls => eatL ls fun x21 ls => eatI ls fun x22 ls => eatI ls fun x23 ls => eat0 ls (x0, x1, x2, x3, x4, x5, x6, x7, x8, x9, x10, x11, x12, x13, x14, x15, x16, x17, x18, x19, x20, x21, x22, x23)
def ea36 (v : A36) : List AV × Heap := ([.agg [.view 2 v.1, .view 3 v.2.1, .view 4 v.2.2.1, .int .i64 v.2.2.2.1, .int .i64 v.2.2.2.2.1, .int .i64 v.2.2.2.2.2.1, .int .i64 v.2.2.2.2.2.2.1, .int .i64 v.2.2.2.2.2.2.2.1, .int .i64 v.2.2.2.2.2.2.2.2.1, .int .i64 v.2.2.2.2.2.2.2.2.2.1, .int .i64 v.2.2.2.2.2.2.2.2.2.2.1, .int .i64 v.2.2.2.2.2.2.2.2.2.2.2.1, .int .i64 v.2.2.2.2.2.2.2.2.2.2.2.2.1, .int .i64 v.2.2.2.2.2.2.2.2.2.2.2.2.2.1, .int .i64 v.2.2.2.2.2.2.2.2.2.2.2.2.2.2.1, .int .i64 v.2.2.2.2.2.2.2.2.2.2.2.2.2.2.2.1, .int .i64 v.2.2.2.2.2.2.2.2.2.2.2.2.2.2.2.2.1, .view 19 v.2.2.2.2.2.2.2.2.2.2.2.2.2.2.2.2.2.1, .view 7 v.2.2.2.2.2.2.2.2.2.2.2.2.2.2.2.2.2.2.1, .view 10 v.2.2.2.2.2.2.2.2.2.2.2.2.2.2.2.2.2.2.2.1, .view 6 v.2.2.2.2.2.2.2.2.2.2.2.2.2.2.2.2.2.2.2.2.1, .view 7 v.2.2.2.2.2.2.2.2.2.2.2.2.2.2.2.2.2.2.2.2.2.1], .int .i64 v.2.2.2.2.2.2.2.2.2.2.2.2.2.2.2.2.2.2.2.2.2.2.1, .int .i64 v.2.2.2.2.2.2.2.2.2.2.2.2.2.2.2.2.2.2.2.2.2.2.2], [])
def er36_0 (v : List UInt8 × List UInt8 × List UInt8 × Int × Int × Int × Int × List AV × Bool × Int × Int × Bool × List AV × Bool × Int × Int × Bool × List AV × List AV × Bool) : Res × Heap := (.ret (.tup [.agg [.str v.1, .str v.2.1, .str v.2.2.1, .int .i64 v.2.2.2.1, .int .i64 v.2.2.2.2.1, .int .i64 v.2.2.2.2.2.1, .int .i64 v.2.2.2.2.2.2.1, .view 2 v.2.2.2.2.2.2.2.1, .bool v.2.2.2.2.2.2.2.2.1, .int .i64 v.2.2.2.2.2.2.2.2.2.1, .int .i64 v.2.2.2.2.2.2.2.2.2.2.1, .bool v.2.2.2.2.2.2.2.2.2.2.2.1, .view 2 v.2.2.2.2.2.2.2.2.2.2.2.2.1, .bool v.2.2.2.2.2.2.2.2.2.2.2.2.2.1, .int .i64 v.2.2.2.2.2.2.2.2.2.2.2.2.2.2.1, .int .i64 v.2.2.2.2.2.2.2.2.2.2.2.2.2.2.2.1, .bool v.2.2.2.2.2.2.2.2.2.2.2.2.2.2.2.2.1, .view 10 v.2.2.2.2.2.2.2.2.2.2.2.2.2.2.2.2.2.1, .view 6 v.2.2.2.2.2.2.2.2.2.2.2.2.2.2.2.2.2.2.1], .bool v.2.2.2.2.2.2.2.2.2.2.2.2.2.2.2.2.2.2.2]), [])
def er36 : B36 → Res × Heap := er36_0
def en36 : Option B36 → List (Bool × Res × Heap) := (E1 er36_0)
def rd36 : Res → Heap → Option B36 := rDec ⟨false, .tup [.agg [.str, .str, .str, .int .i64, .int .i64, .int .i64, .int .i64, .view 2, .bool, .int .i64, .int .i64, .bool, .view 2, .bool, .int .i64, .int .i64, .bool, .view 10, .view 6], .bool], []⟩ (fun ls => eatS ls fun x0 ls => eatS ls fun x1 ls => eatS ls fun x2 ls => eatI ls fun x3 ls => eatI ls fun x4 ls => eatI ls fun x5 ls => eatI ls fun x6 ls => eatL ls fun x7 ls => eatB ls fun x8 ls => eatI ls fun x9 ls => eatI ls fun x10 ls => eatB ls fun x11 ls => eatL ls fun x12 ls => eatB ls fun x13 ls => eatI ls fun x14 ls => eatI ls fun x15 ls => eatB ls fun x16 ls => eatL ls fun x17 ls => eatL ls fun x18 ls => eatB ls fun x19 ls => eat0 ls (x0, x1, x2, x3, x4, x5, x6, x7, x8, x9, x10, x11, x12, x13, x14, x15, x16, x17, x18, x19)) (rNo)
theorem to36_ok : ∀ ls v, to36 ls = some v → fArgs pa36 ls = ea36 v := by
  intro ls v h0
  unfold to36 at h0
  obtain ⟨x0, ls0, rfl, h1⟩ := eatL_some h0
  obtain ⟨x1, ls1, rfl, h2⟩ := eatL_some h1
  obtain ⟨x2, ls2, rfl, h3⟩ := eatL_some h2
  obtain ⟨x3, ls3, rfl, h4⟩ := eatI_some h3
  obtain ⟨x4, ls4, rfl, h5⟩ := eatI_some h4
  obtain ⟨x5, ls5, rfl, h6⟩ := eatI_some h5
  obtain ⟨x6, ls6, rfl, h7⟩ := eatI_some h6
  obtain ⟨x7, ls7, rfl, h8⟩ := eatI_some h7
  obtain ⟨x8, ls8, rfl, h9⟩ := eatI_some h8
  obtain ⟨x9, ls9, rfl, h10⟩ := eatI_some h9
  obtain ⟨x10, ls10, rfl, h11⟩ := eatI_some h10
  obtain ⟨x11, ls11, rfl, h12⟩ := eatI_some h11
  obtain ⟨x12, ls12, rfl, h13⟩ := eatI_some h12
  obtain ⟨x13, ls13, rfl, h14⟩ := eatI_some h13
  obtain ⟨x14, ls14, rfl, h15⟩ := eatI_some h14
  obtain ⟨x15, ls15, rfl, h16⟩ := eatI_some h15
  obtain ⟨x16, ls16, rfl, h17⟩ := eatI_some h16
  obtain ⟨x17, ls17, rfl, h18⟩ := eatL_some h17
  obtain ⟨x18, ls18, rfl, h19⟩ := eatL_some h18
  obtain ⟨x19, ls19, rfl, h20⟩ := eatL_some h19
  obtain ⟨x20, ls20, rfl, h21⟩ := eatL_some h20
  obtain ⟨x21, ls21, rfl, h22⟩ := eatL_some h21
  obtain ⟨x22, ls22, rfl, h23⟩ := eatI_some h22
  obtain ⟨x23, ls23, rfl, h24⟩ := eatI_some h23
  obtain ⟨rfl, rfl⟩ := eat0_some h24
  rfl
theorem rd36_ok : ∀ r h y, rd36 r h = some y → (r, h) = er36 y := rDec_ok (by
  intro ls v h0
  obtain ⟨x0, ls0, rfl, h1⟩ := eatS_some h0
  obtain ⟨x1, ls1, rfl, h2⟩ := eatS_some h1
  obtain ⟨x2, ls2, rfl, h3⟩ := eatS_some h2
  obtain ⟨x3, ls3, rfl, h4⟩ := eatI_some h3
  obtain ⟨x4, ls4, rfl, h5⟩ := eatI_some h4
  obtain ⟨x5, ls5, rfl, h6⟩ := eatI_some h5
  obtain ⟨x6, ls6, rfl, h7⟩ := eatI_some h6
  obtain ⟨x7, ls7, rfl, h8⟩ := eatL_some h7
  obtain ⟨x8, ls8, rfl, h9⟩ := eatB_some h8
  obtain ⟨x9, ls9, rfl, h10⟩ := eatI_some h9
  obtain ⟨x10, ls10, rfl, h11⟩ := eatI_some h10
  obtain ⟨x11, ls11, rfl, h12⟩ := eatB_some h11
  obtain ⟨x12, ls12, rfl, h13⟩ := eatL_some h12
  obtain ⟨x13, ls13, rfl, h14⟩ := eatB_some h13
  obtain ⟨x14, ls14, rfl, h15⟩ := eatI_some h14
  obtain ⟨x15, ls15, rfl, h16⟩ := eatI_some h15
  obtain ⟨x16, ls16, rfl, h17⟩ := eatB_some h16
  obtain ⟨x17, ls17, rfl, h18⟩ := eatL_some h17
  obtain ⟨x18, ls18, rfl, h19⟩ := eatL_some h18
  obtain ⟨x19, ls19, rfl, h20⟩ := eatB_some h19
  obtain ⟨rfl, rfl⟩ := eat0_some h20
  rfl
) (rNo_ok)
noncomputable def g36 (G : (List AV) → (List AV) → (List AV) → Int → Int → Int → Int → Int → Int → Int → Int → Int → Int → Int → Int → Int → Int → (List AV) → (List AV) → (List AV) → (List AV) → (List AV) → Int → Int → Option B36) : Ent := fEnt pa36 to36 (fun v => G v.1 v.2.1 v.2.2.1 v.2.2.2.1 v.2.2.2.2.1 v.2.2.2.2.2.1 v.2.2.2.2.2.2.1 v.2.2.2.2.2.2.2.1 v.2.2.2.2.2.2.2.2.1 v.2.2.2.2.2.2.2.2.2.1 v.2.2.2.2.2.2.2.2.2.2.1 v.2.2.2.2.2.2.2.2.2.2.2.1 v.2.2.2.2.2.2.2.2.2.2.2.2.1 v.2.2.2.2.2.2.2.2.2.2.2.2.2.1 v.2.2.2.2.2.2.2.2.2.2.2.2.2.2.1 v.2.2.2.2.2.2.2.2.2.2.2.2.2.2.2.1 v.2.2.2.2.2.2.2.2.2.2.2.2.2.2.2.2.1 v.2.2.2.2.2.2.2.2.2.2.2.2.2.2.2.2.2.1 v.2.2.2.2.2.2.2.2.2.2.2.2.2.2.2.2.2.2.1 v.2.2.2.2.2.2.2.2.2.2.2.2.2.2.2.2.2.2.2.1 v.2.2.2.2.2.2.2.2.2.2.2.2.2.2.2.2.2.2.2.2.1 v.2.2.2.2.2.2.2.2.2.2.2.2.2.2.2.2.2.2.2.2.2.1 v.2.2.2.2.2.2.2.2.2.2.2.2.2.2.2.2.2.2.2.2.2.2.1 v.2.2.2.2.2.2.2.2.2.2.2.2.2.2.2.2.2.2.2.2.2.2.2) en36
theorem g36_ok (G : (List AV) → (List AV) → (List AV) → Int → Int → Int → Int → Int → Int → Int → Int → Int → Int → Int → Int → Int → Int → (List AV) → (List AV) → (List AV) → (List AV) → (List AV) → Int → Int → Option B36) (hG : ∀ v y, G v.1 v.2.1 v.2.2.1 v.2.2.2.1 v.2.2.2.2.1 v.2.2.2.2.2.1 v.2.2.2.2.2.2.1 v.2.2.2.2.2.2.2.1 v.2.2.2.2.2.2.2.2.1 v.2.2.2.2.2.2.2.2.2.1 v.2.2.2.2.2.2.2.2.2.2.1 v.2.2.2.2.2.2.2.2.2.2.2.1 v.2.2.2.2.2.2.2.2.2.2.2.2.1 v.2.2.2.2.2.2.2.2.2.2.2.2.2.1 v.2.2.2.2.2.2.2.2.2.2.2.2.2.2.1 v.2.2.2.2.2.2.2.2.2.2.2.2.2.2.2.1 v.2.2.2.2.2.2.2.2.2.2.2.2.2.2.2.2.1 v.2.2.2.2.2.2.2.2.2.2.2.2.2.2.2.2.2.1 v.2.2.2.2.2.2.2.2.2.2.2.2.2.2.2.2.2.2.1 v.2.2.2.2.2.2.2.2.2.2.2.2.2.2.2.2.2.2.2.1 v.2.2.2.2.2.2.2.2.2.2.2.2.2.2.2.2.2.2.2.2.1 v.2.2.2.2.2.2.2.2.2.2.2.2.2.2.2.2.2.2.2.2.2.1 v.2.2.2.2.2.2.2.2.2.2.2.2.2.2.2.2.2.2.2.2.2.2.1 v.2.2.2.2.2.2.2.2.2.2.2.2.2.2.2.2.2.2.2.2.2.2.2 = some y → callO IP 36 (ea36 v).1 (ea36 v).2 = some (er36 y)) : Snd IP 36 (g36 G) := fEnt_ok to36_ok E1_ok hG
noncomputable def tr36 (x0 : List AV) (x1 : List AV) (x2 : List AV) (x3 : Int) (x4 : Int) (x5 : Int) (x6 : Int) (x7 : Int) (x8 : Int) (x9 : Int) (x10 : Int) (x11 : Int) (x12 : Int) (x13 : Int) (x14 : Int) (x15 : Int) (x16 : Int) (x17 : List AV) (x18 : List AV) (x19 : List AV) (x20 : List AV) (x21 : List AV) (x22 : Int) (x23 : Int) : DT B36 :=
 .bi (f47 x0 x1 x2 x3 x4 x5 x6 x7 x8 x9 x10 x11 x12 x13 x14 x15 x16 x17 x18 x19 x20 x21 x22) (fun y0 =>
  .br (!y0.snd.snd.snd.snd.snd.snd.snd)
   (.at (([], [], [], 0, 0, 0, 0, [], false, 0, 0, false, [], false, 0, 0, false, [], [], false)))
   (.bi (f48 x17 y0.snd.snd.snd.snd.snd.fst x23) (fun y1 =>
    .at ((y1.fst, y1.snd.fst, y1.snd.snd.fst, y1.snd.snd.snd.fst, y1.snd.snd.snd.snd.fst, y1.snd.snd.snd.snd.snd.fst, y1.snd.snd.snd.snd.snd.snd.fst, y1.snd.snd.snd.snd.snd.snd.snd.fst, y1.snd.snd.snd.snd.snd.snd.snd.snd.fst, y1.snd.snd.snd.snd.snd.snd.snd.snd.snd.fst, y1.snd.snd.snd.snd.snd.snd.snd.snd.snd.snd.fst, y1.snd.snd.snd.snd.snd.snd.snd.snd.snd.snd.snd.fst, y1.snd.snd.snd.snd.snd.snd.snd.snd.snd.snd.snd.snd.fst, y1.snd.snd.snd.snd.snd.snd.snd.snd.snd.snd.snd.snd.snd.fst, y1.snd.snd.snd.snd.snd.snd.snd.snd.snd.snd.snd.snd.snd.snd.fst, y1.snd.snd.snd.snd.snd.snd.snd.snd.snd.snd.snd.snd.snd.snd.snd.fst, y1.snd.snd.snd.snd.snd.snd.snd.snd.snd.snd.snd.snd.snd.snd.snd.snd.fst, y1.snd.snd.snd.snd.snd.snd.snd.snd.snd.snd.snd.snd.snd.snd.snd.snd.snd.fst, y1.snd.snd.snd.snd.snd.snd.snd.snd.snd.snd.snd.snd.snd.snd.snd.snd.snd.snd.fst, y1.snd.snd.snd.snd.snd.snd.snd.snd.snd.snd.snd.snd.snd.snd.snd.snd.snd.snd.snd)))
    (.no)))
  (.no)
noncomputable def T36 : Tab := [(34, cloneE 3 24), (35, cloneE 3 32), (47, g47 f47), (48, g48 f48)]
theorem T36_ok : TabOk IP (T36) := ⟨sp34, sp35, s47, s48, trivial⟩
noncomputable def L36 : LTab := []
theorem L36_ok : LOk IP (L36) (loops F36.body) := LOk_of (l := []) (by kernel_rfl) trivial
theorem b36 (v : A36) : bodyK (R := B36) IP (callT (T36)) (loopT (L36)) 36 F36 (ea36 v).1 (ea36 v).2 rd36 = (tr36 v.1 v.2.1 v.2.2.1 v.2.2.2.1 v.2.2.2.2.1 v.2.2.2.2.2.1 v.2.2.2.2.2.2.1 v.2.2.2.2.2.2.2.1 v.2.2.2.2.2.2.2.2.1 v.2.2.2.2.2.2.2.2.2.1 v.2.2.2.2.2.2.2.2.2.2.1 v.2.2.2.2.2.2.2.2.2.2.2.1 v.2.2.2.2.2.2.2.2.2.2.2.2.1 v.2.2.2.2.2.2.2.2.2.2.2.2.2.1 v.2.2.2.2.2.2.2.2.2.2.2.2.2.2.1 v.2.2.2.2.2.2.2.2.2.2.2.2.2.2.2.1 v.2.2.2.2.2.2.2.2.2.2.2.2.2.2.2.2.1 v.2.2.2.2.2.2.2.2.2.2.2.2.2.2.2.2.2.1 v.2.2.2.2.2.2.2.2.2.2.2.2.2.2.2.2.2.2.1 v.2.2.2.2.2.2.2.2.2.2.2.2.2.2.2.2.2.2.2.1 v.2.2.2.2.2.2.2.2.2.2.2.2.2.2.2.2.2.2.2.2.1 v.2.2.2.2.2.2.2.2.2.2.2.2.2.2.2.2.2.2.2.2.2.1 v.2.2.2.2.2.2.2.2.2.2.2.2.2.2.2.2.2.2.2.2.2.2.1 v.2.2.2.2.2.2.2.2.2.2.2.2.2.2.2.2.2.2.2.2.2.2.2).ev := by kernel_rfl
/--  -/
noncomputable def f36 (x0 : List AV) (x1 : List AV) (x2 : List AV) (x3 : Int) (x4 : Int) (x5 : Int) (x6 : Int) (x7 : Int) (x8 : Int) (x9 : Int) (x10 : Int) (x11 : Int) (x12 : Int) (x13 : Int) (x14 : Int) (x15 : Int) (x16 : Int) (x17 : List AV) (x18 : List AV) (x19 : List AV) (x20 : List AV) (x21 : List AV) (x22 : Int) (x23 : Int) : Option B36 := lock (tr36 x0 x1 x2 x3 x4 x5 x6 x7 x8 x9 x10 x11 x12 x13 x14 x15 x16 x17 x18 x19 x20 x21 x22 x23).ev
theorem f36_eq (x0 : List AV) (x1 : List AV) (x2 : List AV) (x3 : Int) (x4 : Int) (x5 : Int) (x6 : Int) (x7 : Int) (x8 : Int) (x9 : Int) (x10 : Int) (x11 : Int) (x12 : Int) (x13 : Int) (x14 : Int) (x15 : Int) (x16 : Int) (x17 : List AV) (x18 : List AV) (x19 : List AV) (x20 : List AV) (x21 : List AV) (x22 : Int) (x23 : Int) : f36 x0 x1 x2 x3 x4 x5 x6 x7 x8 x9 x10 x11 x12 x13 x14 x15 x16 x17 x18 x19 x20 x21 x22 x23 = (tr36 x0 x1 x2 x3 x4 x5 x6 x7 x8 x9 x10 x11 x12 x13 x14 x15 x16 x17 x18 x19 x20 x21 x22 x23).ev := lock_eq _
theorem c36 : ∀ v y, f36 v.1 v.2.1 v.2.2.1 v.2.2.2.1 v.2.2.2.2.1 v.2.2.2.2.2.1 v.2.2.2.2.2.2.1 v.2.2.2.2.2.2.2.1 v.2.2.2.2.2.2.2.2.1 v.2.2.2.2.2.2.2.2.2.1 v.2.2.2.2.2.2.2.2.2.2.1 v.2.2.2.2.2.2.2.2.2.2.2.1 v.2.2.2.2.2.2.2.2.2.2.2.2.1 v.2.2.2.2.2.2.2.2.2.2.2.2.2.1 v.2.2.2.2.2.2.2.2.2.2.2.2.2.2.1 v.2.2.2.2.2.2.2.2.2.2.2.2.2.2.2.1 v.2.2.2.2.2.2.2.2.2.2.2.2.2.2.2.2.1 v.2.2.2.2.2.2.2.2.2.2.2.2.2.2.2.2.2.1 v.2.2.2.2.2.2.2.2.2.2.2.2.2.2.2.2.2.2.1 v.2.2.2.2.2.2.2.2.2.2.2.2.2.2.2.2.2.2.2.1 v.2.2.2.2.2.2.2.2.2.2.2.2.2.2.2.2.2.2.2.2.1 v.2.2.2.2.2.2.2.2.2.2.2.2.2.2.2.2.2.2.2.2.2.1 v.2.2.2.2.2.2.2.2.2.2.2.2.2.2.2.2.2.2.2.2.2.2.1 v.2.2.2.2.2.2.2.2.2.2.2.2.2.2.2.2.2.2.2.2.2.2.2 = some y → callO IP 36 (ea36 v).1 (ea36 v).2 = some (er36 y) := fun v y h => fun_of T36_ok (by kernel_rfl) L36_ok rd36_ok (b36 v) ((f36_eq v.1 v.2.1 v.2.2.1 v.2.2.2.1 v.2.2.2.2.1 v.2.2.2.2.2.1 v.2.2.2.2.2.2.1 v.2.2.2.2.2.2.2.1 v.2.2.2.2.2.2.2.2.1 v.2.2.2.2.2.2.2.2.2.1 v.2.2.2.2.2.2.2.2.2.2.1 v.2.2.2.2.2.2.2.2.2.2.2.1 v.2.2.2.2.2.2.2.2.2.2.2.2.1 v.2.2.2.2.2.2.2.2.2.2.2.2.2.1 v.2.2.2.2.2.2.2.2.2.2.2.2.2.2.1 v.2.2.2.2.2.2.2.2.2.2.2.2.2.2.2.1 v.2.2.2.2.2.2.2.2.2.2.2.2.2.2.2.2.1 v.2.2.2.2.2.2.2.2.2.2.2.2.2.2.2.2.2.1 v.2.2.2.2.2.2.2.2.2.2.2.2.2.2.2.2.2.2.1 v.2.2.2.2.2.2.2.2.2.2.2.2.2.2.2.2.2.2.2.1 v.2.2.2.2.2.2.2.2.2.2.2.2.2.2.2.2.2.2.2.2.1 v.2.2.2.2.2.2.2.2.2.2.2.2.2.2.2.2.2.2.2.2.2.1 v.2.2.2.2.2.2.2.2.2.2.2.2.2.2.2.2.2.2.2.2.2.2.1 v.2.2.2.2.2.2.2.2.2.2.2.2.2.2.2.2.2.2.2.2.2.2.2).symm.trans h)
theorem s36 : Snd IP 36 (g36 f36) := g36_ok f36 c36

end Go.Proofs.H53

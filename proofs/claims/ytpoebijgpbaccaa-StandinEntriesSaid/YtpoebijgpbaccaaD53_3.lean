/- Functions over plain data. Printed by a program of mine. -/
import Derived.Test.YtpoebijgpbaccaaD53_2
import Derived.KernelRfl
set_option linter.unusedVariables false
set_option linter.unusedSimpArgs false
set_option linter.unnecessarySimpa false
namespace Go.Proofs.H53
open Go Go.Eng
set_option maxRecDepth 100000

-- f32: 
abbrev A32 : Type := Int × Int × List UInt8 × List UInt8
abbrev B32 : Type := Bool
def pa32 : PArgs := ⟨[.agg [.int .i64, .int .i64, .str], .ptr [.str]], []⟩
def to32 (ls : List Lf) : Option A32 := eatI ls fun x0 ls => eatI ls fun x1 ls => eatS ls fun x2 ls => eatS ls fun x3 ls => eat0 ls (x0, x1, x2, x3)
def ea32 (v : A32) : List AV × Heap := ([.agg [.int .i64 v.1, .int .i64 v.2.1, .str v.2.2.1], .ptr [.str v.2.2.2]], [])
def er32_0 (v : Bool) : Res × Heap := (.ret (.bool v), [])
def er32 : B32 → Res × Heap := er32_0
def en32 : Option B32 → List (Bool × Res × Heap) := (E1 er32_0)
def rd32 : Res → Heap → Option B32 := rDec ⟨false, .bool, []⟩ (fun ls => eatB ls fun x0 ls => eat0 ls x0) (rNo)
theorem to32_ok : ∀ ls v, to32 ls = some v → fArgs pa32 ls = ea32 v := by
  intro ls v h0
  unfold to32 at h0
  obtain ⟨x0, ls0, rfl, h1⟩ := eatI_some h0
  obtain ⟨x1, ls1, rfl, h2⟩ := eatI_some h1
  obtain ⟨x2, ls2, rfl, h3⟩ := eatS_some h2
  obtain ⟨x3, ls3, rfl, h4⟩ := eatS_some h3
  obtain ⟨rfl, rfl⟩ := eat0_some h4
  rfl
theorem rd32_ok : ∀ r h y, rd32 r h = some y → (r, h) = er32 y := rDec_ok (by
  intro ls v h0
  obtain ⟨x0, ls0, rfl, h1⟩ := eatB_some h0
  obtain ⟨rfl, rfl⟩ := eat0_some h1
  rfl
) (rNo_ok)
noncomputable def g32 (G : Int → Int → (List UInt8) → (List UInt8) → Option B32) : Ent := fEnt pa32 to32 (fun v => G v.1 v.2.1 v.2.2.1 v.2.2.2) en32
theorem g32_ok (G : Int → Int → (List UInt8) → (List UInt8) → Option B32) (hG : ∀ v y, G v.1 v.2.1 v.2.2.1 v.2.2.2 = some y → callO IP 32 (ea32 v).1 (ea32 v).2 = some (er32 y)) : Snd IP 32 (g32 G) := fEnt_ok to32_ok E1_ok hG
noncomputable def tr32 (x0 : Int) (x1 : Int) (x2 : List UInt8) (x3 : List UInt8) : DT B32 :=
 .at (x2 == x3)
noncomputable def T32 : Tab := [(34, cloneE 3 24), (35, cloneE 3 32)]
theorem T32_ok : TabOk IP (T32) := ⟨sp34, sp35, trivial⟩
noncomputable def L32 : LTab := []
theorem L32_ok : LOk IP (L32) (loops F32.body) := LOk_of (l := []) (by kernel_rfl) trivial
theorem b32 (v : A32) : bodyK (R := B32) IP (callT (T32)) (loopT (L32)) 32 F32 (ea32 v).1 (ea32 v).2 rd32 = (tr32 v.1 v.2.1 v.2.2.1 v.2.2.2).ev := by kernel_rfl
/--  -/
noncomputable def f32 (x0 : Int) (x1 : Int) (x2 : List UInt8) (x3 : List UInt8) : Option B32 := lock (tr32 x0 x1 x2 x3).ev
theorem f32_eq (x0 : Int) (x1 : Int) (x2 : List UInt8) (x3 : List UInt8) : f32 x0 x1 x2 x3 = (tr32 x0 x1 x2 x3).ev := lock_eq _
theorem c32 : ∀ v y, f32 v.1 v.2.1 v.2.2.1 v.2.2.2 = some y → callO IP 32 (ea32 v).1 (ea32 v).2 = some (er32 y) := fun v y h => fun_of T32_ok (by kernel_rfl) L32_ok rd32_ok (b32 v) ((f32_eq v.1 v.2.1 v.2.2.1 v.2.2.2).symm.trans h)
theorem s32 : Snd IP 32 (g32 f32) := g32_ok f32 c32

-- l46a_0: loop 0 of function 46
abbrev TT46a_0 : Type := List AV × List UInt8 × Int × Int
def h46a_0_0 (v : List AV × List UInt8 × Int × Int) : St := ⟨[(1004600, .junk), (0, .view 3 v.1), (1, .fn (.func 32) [.ptr [.str v.2.1]]), (7, .int .i64 v.2.2.1), (8, .int .i64 v.2.2.2)], [], 0, 0⟩
def h46a_0 : TT46a_0 → St := (fun v => h46a_0_0 v)
def d46a_0 : St → Option TT46a_0 := sDec ⟨[(1004600, .junk), (0, .view 3), (1, .fn (.func 32) [.ptr [.str]]), (7, .int .i64), (8, .int .i64)], [], 0, 0⟩ (fun ls => eatL ls fun x0 ls => eatS ls fun x1 ls => eatI ls fun x2 ls => eatI ls fun x3 ls => eat0 ls (x0, x1, x2, x3)) (sNo)
theorem d46a_0_ok : ∀ s v, d46a_0 s = some v → s = h46a_0 v := sDec_ok (by
  intro ls v h0
  obtain ⟨x0, ls0, rfl, h1⟩ := eatL_some h0
  obtain ⟨x1, ls1, rfl, h2⟩ := eatS_some h1
  obtain ⟨x2, ls2, rfl, h3⟩ := eatI_some h2
  obtain ⟨x3, ls3, rfl, h4⟩ := eatI_some h3
  obtain ⟨rfl, rfl⟩ := eat0_some h4
  rfl
) (sNo_ok)
theorem n46a_0_0 (v : List AV × List UInt8 × Int × Int) : norm (hk (loopAt F46 0).1) (h46a_0_0 v) = some (h46a_0_0 v) := by kernel_rfl
noncomputable def x46a_0_0 (x0 : List AV) (x1 : List UInt8) (x2 : Int) (x3 : Int) : X × St := (X.ret, { tm := [(4, AV.int IntKind.i64 x3)], hp := [], nx := 0, k := 0 })
noncomputable def x46a_0_1 (x0 : List AV) (x1 : List UInt8) (x2 : Int) (x3 : Int) : X × St := (X.exit 0, { tm := [(4, AV.junk)], hp := [], nx := 0, k := 0 })
noncomputable def x46a_0 : Nat → TT46a_0 → X × St := fun j w => match j with
  | 0 => x46a_0_0 w.1 w.2.1 w.2.2.1 w.2.2.2
  | 1 => x46a_0_1 w.1 w.2.1 w.2.2.1 w.2.2.2
  | _ => (.ret, ⟨[], [], 0, 0⟩)
theorem e46a_0 : ∀ j v, outB (x46a_0 j v).1 = true := fun j v => match j with
  | 0 => rfl
  | 1 => rfl
  | _ + 2 => rfl
noncomputable def st46a_0_0 (x0 : List AV) (x1 : List UInt8) (x2 : Int) (x3 : Int) : DT (Rd TT46a_0) :=
 .br (decide (x3 < x2))
  (.br (okAt [CS.int IntKind.i64, CS.int IntKind.i64, CS.str] x0 x3)
   (.bi (f32 (intOf (cellAt x0 x3 0)) (intOf (cellAt x0 x3 1)) (strOf (cellAt x0 x3 2)) x1) (fun y0 =>
    .br (y0) (.at (.done 0)) (.at (.next ((x0, x1, x2, IntKind.i64.wrap (x3 + 1))))))
    (.no))
   (.no))
  (.at (.done 1))
noncomputable def st46a_0 : TT46a_0 → DT (Rd TT46a_0) := (fun v => st46a_0_0 v.1 v.2.1 v.2.2.1 v.2.2.2)
noncomputable def T46a_0 : Tab := [(34, cloneE 3 24), (35, cloneE 3 32), (32, g32 f32)]
theorem T46a_0_ok : TabOk IP (T46a_0) := ⟨sp34, sp35, s32, trivial⟩
noncomputable def L46a_0 : LTab := []
theorem L46a_0_ok : LOk IP (L46a_0) (loops (loopAt F46 0).2) := LOk_of (l := []) (by kernel_rfl) trivial
theorem b46a_0_0 (v : List AV × List UInt8 × Int × Int) : execK (R := Rx TT46a_0) IP (callT (T46a_0)) (loopT (L46a_0)) (loopAt F46 0).2 (h46a_0_0 v) (endK (loopAt F46 0).1 d46a_0) = (cvD (fun j => x46a_0 j v) (st46a_0_0 v.1 v.2.1 v.2.2.1 v.2.2.2)).ev := by kernel_rfl
noncomputable def l46a_0 (v : TT46a_0) : Option (Nat × TT46a_0) := lock (iterO (fun v => (st46a_0 v).ev) v)
theorem l46a_0_eq (v : TT46a_0) : l46a_0 v = iterO (fun v => (st46a_0 v).ev) v := lock_eq _
noncomputable def ll46a_0 : LEnt := lEnt d46a_0 (l46a_0) (x46a_0) 2
theorem t46a_0 : Go.Eng.Told IP (loopAt F46 0).1 (loopAt F46 0).2 (ll46a_0) := loop_of (st := st46a_0) (T46a_0_ok) (L46a_0_ok) d46a_0_ok (fun v => n46a_0_0 v) (e46a_0) (fun v => b46a_0_0 v) (l46a_0_eq)

-- f46a: 
abbrev A46a : Type := List AV × List UInt8
abbrev B46a : Type := Int
def pa46a : PArgs := ⟨[.view 3, .fn (.func 32) [.ptr [.str]]], []⟩
def to46a (ls : List Lf) : Option A46a := eatL ls fun x0 ls => eatS ls fun x1 ls => eat0 ls (x0, x1)
def ea46a (v : A46a) : List AV × Heap := ([.view 3 v.1, .fn (.func 32) [.ptr [.str v.2]]], [])
def er46a_0 (v : Int) : Res × Heap := (.ret (.int .i64 v), [])
def er46a : B46a → Res × Heap := er46a_0
def en46a : Option B46a → List (Bool × Res × Heap) := (E1 er46a_0)
def rd46a : Res → Heap → Option B46a := rDec ⟨false, .int .i64, []⟩ (fun ls => eatI ls fun x0 ls => eat0 ls x0) (rNo)
theorem to46a_ok : ∀ ls v, to46a ls = some v → fArgs pa46a ls = ea46a v := by
  intro ls v h0
  unfold to46a at h0
  obtain ⟨x0, ls0, rfl, h1⟩ := eatL_some h0
  obtain ⟨x1, ls1, rfl, h2⟩ := eatS_some h1
  obtain ⟨rfl, rfl⟩ := eat0_some h2
  rfl
theorem rd46a_ok : ∀ r h y, rd46a r h = some y → (r, h) = er46a y := rDec_ok (by
  intro ls v h0
  obtain ⟨x0, ls0, rfl, h1⟩ := eatI_some h0
  obtain ⟨rfl, rfl⟩ := eat0_some h1
  rfl
) (rNo_ok)
noncomputable def g46a (G : (List AV) → (List UInt8) → Option B46a) : Ent := fEnt pa46a to46a (fun v => G v.1 v.2) en46a
theorem g46a_ok (G : (List AV) → (List UInt8) → Option B46a) (hG : ∀ v y, G v.1 v.2 = some y → callO IP 46 (ea46a v).1 (ea46a v).2 = some (er46a y)) : Snd IP 46 (g46a G) := fEnt_ok to46a_ok E1_ok hG
noncomputable def tr46a (x0 : List AV) (x1 : List UInt8) : DT B46a :=
 .bi (pj 0 (l46a_0 (x0, x1, (↑x0.length : Int), 0))) (fun y0 =>
  .at (y0.snd.snd.snd))
  (.bi (pj 1 (l46a_0 (x0, x1, (↑x0.length : Int), 0))) (fun y0 =>
   .at (-1))
   (.no))
noncomputable def T46a : Tab := [(34, cloneE 3 24), (35, cloneE 3 32)]
theorem T46a_ok : TabOk IP (T46a) := ⟨sp34, sp35, trivial⟩
noncomputable def L46a : LTab := [(1004600, ll46a_0)]
theorem L46a_ok : LOk IP (L46a) (loops F46.body) := LOk_of (l := [loopAt F46 0]) (by kernel_rfl) ⟨sel_one (by kernel_rfl) t46a_0, trivial⟩
theorem b46a (v : A46a) : bodyK (R := B46a) IP (callT (T46a)) (loopT (L46a)) 46 F46 (ea46a v).1 (ea46a v).2 rd46a = (tr46a v.1 v.2).ev := by kernel_rfl
/--  -/
noncomputable def f46a (x0 : List AV) (x1 : List UInt8) : Option B46a := lock (tr46a x0 x1).ev
theorem f46a_eq (x0 : List AV) (x1 : List UInt8) : f46a x0 x1 = (tr46a x0 x1).ev := lock_eq _
theorem c46a : ∀ v y, f46a v.1 v.2 = some y → callO IP 46 (ea46a v).1 (ea46a v).2 = some (er46a y) := fun v y h => fun_of T46a_ok (by kernel_rfl) L46a_ok rd46a_ok (b46a v) ((f46a_eq v.1 v.2).symm.trans h)
theorem s46a : Snd IP 46 (g46a f46a) := g46a_ok f46a c46a

-- f31a: 
abbrev A31a : Type := List AV × List UInt8
abbrev B31a : Type := Bool
def pa31a : PArgs := ⟨[.view 3, .fn (.func 32) [.ptr [.str]]], []⟩
def to31a (ls : List Lf) : Option A31a := eatL ls fun x0 ls => eatS ls fun x1 ls => eat0 ls (x0, x1)
def ea31a (v : A31a) : List AV × Heap := ([.view 3 v.1, .fn (.func 32) [.ptr [.str v.2]]], [])
def er31a_0 (v : Bool) : Res × Heap := (.ret (.bool v), [])
def er31a : B31a → Res × Heap := er31a_0
def en31a : Option B31a → List (Bool × Res × Heap) := (E1 er31a_0)
def rd31a : Res → Heap → Option B31a := rDec ⟨false, .bool, []⟩ (fun ls => eatB ls fun x0 ls => eat0 ls x0) (rNo)
theorem to31a_ok : ∀ ls v, to31a ls = some v → fArgs pa31a ls = ea31a v := by
  intro ls v h0
  unfold to31a at h0
  obtain ⟨x0, ls0, rfl, h1⟩ := eatL_some h0
  obtain ⟨x1, ls1, rfl, h2⟩ := eatS_some h1
  obtain ⟨rfl, rfl⟩ := eat0_some h2
  rfl
theorem rd31a_ok : ∀ r h y, rd31a r h = some y → (r, h) = er31a y := rDec_ok (by
  intro ls v h0
  obtain ⟨x0, ls0, rfl, h1⟩ := eatB_some h0
  obtain ⟨rfl, rfl⟩ := eat0_some h1
  rfl
) (rNo_ok)
noncomputable def g31a (G : (List AV) → (List UInt8) → Option B31a) : Ent := fEnt pa31a to31a (fun v => G v.1 v.2) en31a
theorem g31a_ok (G : (List AV) → (List UInt8) → Option B31a) (hG : ∀ v y, G v.1 v.2 = some y → callO IP 31 (ea31a v).1 (ea31a v).2 = some (er31a y)) : Snd IP 31 (g31a G) := fEnt_ok to31a_ok E1_ok hG
noncomputable def tr31a (x0 : List AV) (x1 : List UInt8) : DT B31a :=
 .bi (f46a x0 x1) (fun y0 =>
  .at (decide (y0 ≥ 0)))
  (.no)
noncomputable def T31a : Tab := [(34, cloneE 3 24), (35, cloneE 3 32), (46, g46a f46a)]
theorem T31a_ok : TabOk IP (T31a) := ⟨sp34, sp35, s46a, trivial⟩
noncomputable def L31a : LTab := []
theorem L31a_ok : LOk IP (L31a) (loops F31.body) := LOk_of (l := []) (by kernel_rfl) trivial
theorem b31a (v : A31a) : bodyK (R := B31a) IP (callT (T31a)) (loopT (L31a)) 31 F31 (ea31a v).1 (ea31a v).2 rd31a = (tr31a v.1 v.2).ev := by kernel_rfl
/--  -/
noncomputable def f31a (x0 : List AV) (x1 : List UInt8) : Option B31a := lock (tr31a x0 x1).ev
theorem f31a_eq (x0 : List AV) (x1 : List UInt8) : f31a x0 x1 = (tr31a x0 x1).ev := lock_eq _
theorem c31a : ∀ v y, f31a v.1 v.2 = some y → callO IP 31 (ea31a v).1 (ea31a v).2 = some (er31a y) := fun v y h => fun_of T31a_ok (by kernel_rfl) L31a_ok rd31a_ok (b31a v) ((f31a_eq v.1 v.2).symm.trans h)
theorem s31a : Snd IP 31 (g31a f31a) := g31a_ok f31a c31a

-- f33: 
abbrev A33 : Type := Int
abbrev B33 : Type := (Int) ⊕ (Unit)
def pa33 : PArgs := ⟨[.int .i64], []⟩
def to33 (ls : List Lf) : Option A33 := eatI ls fun x0 ls => eat0 ls x0
def ea33 (v : A33) : List AV × Heap := ([.int .i64 v], [])
def er33_0 (v : Int) : Res × Heap := (.ret (.iface 101 (.agg [.int .i64 v])), [])
def er33_1 (v : Unit) : Res × Heap := (.ret (.iface 103 (.agg [])), [])
def er33 : B33 → Res × Heap := (Sum.elim er33_0 er33_1)
def en33 : Option B33 → List (Bool × Res × Heap) := (E2 er33_0 (E1 er33_1))
def rd33 : Res → Heap → Option B33 := rDec ⟨false, .iface 101 (.agg [.int .i64]), []⟩ (fun ls => eatI ls fun x0 ls => eat0 ls (.inl x0)) (rDec ⟨false, .iface 103 (.agg []), []⟩ (fun ls => eat0 ls (.inr ())) (rNo))
theorem to33_ok : ∀ ls v, to33 ls = some v → fArgs pa33 ls = ea33 v := by
  intro ls v h0
  unfold to33 at h0
  obtain ⟨x0, ls0, rfl, h1⟩ := eatI_some h0
  obtain ⟨rfl, rfl⟩ := eat0_some h1
  rfl
theorem rd33_ok : ∀ r h y, rd33 r h = some y → (r, h) = er33 y := rDec_ok (by
  intro ls v h0
  obtain ⟨x0, ls0, rfl, h1⟩ := eatI_some h0
  obtain ⟨rfl, rfl⟩ := eat0_some h1
  rfl
) (rDec_ok (by
  intro ls v h0
  obtain ⟨rfl, rfl⟩ := eat0_some h0
  rfl
) (rNo_ok))
noncomputable def g33 (G : Int → Option B33) : Ent := fEnt pa33 to33 (fun v => G v) en33
theorem g33_ok (G : Int → Option B33) (hG : ∀ v y, G v = some y → callO IP 33 (ea33 v).1 (ea33 v).2 = some (er33 y)) : Snd IP 33 (g33 G) := fEnt_ok to33_ok (E2_ok E1_ok) hG
noncomputable def tr33 (x0 : Int) : DT B33 :=
 .br (decide (x0 < 0)) (.at ((.inl (IntKind.i64.wrap (0 - x0))))) (.at ((.inr ())))
noncomputable def T33 : Tab := [(34, cloneE 3 24), (35, cloneE 3 32)]
theorem T33_ok : TabOk IP (T33) := ⟨sp34, sp35, trivial⟩
noncomputable def L33 : LTab := []
theorem L33_ok : LOk IP (L33) (loops F33.body) := LOk_of (l := []) (by kernel_rfl) trivial
theorem b33 (v : A33) : bodyK (R := B33) IP (callT (T33)) (loopT (L33)) 33 F33 (ea33 v).1 (ea33 v).2 rd33 = (tr33 v).ev := by kernel_rfl
/--  -/
noncomputable def f33 (x0 : Int) : Option B33 := lock (tr33 x0).ev
theorem f33_eq (x0 : Int) : f33 x0 = (tr33 x0).ev := lock_eq _
theorem c33 : ∀ v y, f33 v = some y → callO IP 33 (ea33 v).1 (ea33 v).2 = some (er33 y) := fun v y h => fun_of T33_ok (by kernel_rfl) L33_ok rd33_ok (b33 v) ((f33_eq v).symm.trans h)
theorem s33 : Snd IP 33 (g33 f33) := g33_ok f33 c33

-- f77: 
abbrev A77 : Type := Int × Int × Int × Int × Int
abbrev B77 : Type := Int × Int × Int × Int
def pa77 : PArgs := ⟨[.agg [.int .i64], .agg [.int .i64, .int .i64, .int .i64], .int .i64], []⟩
def to77 (ls : List Lf) : Option A77 := eatI ls fun x0 ls => eatI ls fun x1 ls => eatI ls fun x2 ls => eatI ls fun x3 ls => eatI ls fun x4 ls => eat0 ls (x0, x1, x2, x3, x4)
def ea77 (v : A77) : List AV × Heap := ([.agg [.int .i64 v.1], .agg [.int .i64 v.2.1, .int .i64 v.2.2.1, .int .i64 v.2.2.2.1], .int .i64 v.2.2.2.2], [])
def er77_0 (v : Int × Int × Int × Int) : Res × Heap := (.ret (.tup [.agg [.int .i64 v.1, .int .i64 v.2.1, .int .i64 v.2.2.1], .int .i64 v.2.2.2]), [])
def er77 : B77 → Res × Heap := er77_0
def en77 : Option B77 → List (Bool × Res × Heap) := (E1 er77_0)
def rd77 : Res → Heap → Option B77 := rDec ⟨false, .tup [.agg [.int .i64, .int .i64, .int .i64], .int .i64], []⟩ (fun ls => eatI ls fun x0 ls => eatI ls fun x1 ls => eatI ls fun x2 ls => eatI ls fun x3 ls => eat0 ls (x0, x1, x2, x3)) (rNo)
theorem to77_ok : ∀ ls v, to77 ls = some v → fArgs pa77 ls = ea77 v := by
  intro ls v h0
  unfold to77 at h0
  obtain ⟨x0, ls0, rfl, h1⟩ := eatI_some h0
  obtain ⟨x1, ls1, rfl, h2⟩ := eatI_some h1
  obtain ⟨x2, ls2, rfl, h3⟩ := eatI_some h2
  obtain ⟨x3, ls3, rfl, h4⟩ := eatI_some h3
  obtain ⟨x4, ls4, rfl, h5⟩ := eatI_some h4
  obtain ⟨rfl, rfl⟩ := eat0_some h5
  rfl
theorem rd77_ok : ∀ r h y, rd77 r h = some y → (r, h) = er77 y := rDec_ok (by
  intro ls v h0
  obtain ⟨x0, ls0, rfl, h1⟩ := eatI_some h0
  obtain ⟨x1, ls1, rfl, h2⟩ := eatI_some h1
  obtain ⟨x2, ls2, rfl, h3⟩ := eatI_some h2
  obtain ⟨x3, ls3, rfl, h4⟩ := eatI_some h3
  obtain ⟨rfl, rfl⟩ := eat0_some h4
  rfl
) (rNo_ok)
noncomputable def g77 (G : Int → Int → Int → Int → Int → Option B77) : Ent := fEnt pa77 to77 (fun v => G v.1 v.2.1 v.2.2.1 v.2.2.2.1 v.2.2.2.2) en77
theorem g77_ok (G : Int → Int → Int → Int → Int → Option B77) (hG : ∀ v y, G v.1 v.2.1 v.2.2.1 v.2.2.2.1 v.2.2.2.2 = some y → callO IP 77 (ea77 v).1 (ea77 v).2 = some (er77 y)) : Snd IP 77 (g77 G) := fEnt_ok to77_ok E1_ok hG
noncomputable def tr77 (x0 : Int) (x1 : Int) (x2 : Int) (x3 : Int) (x4 : Int) : DT B77 :=
 .br (decide (x0 > IntKind.i64.wrap ((if x4 < x2 then x4 else x2) - x3))) (.at ((0, 0, 0, 18))) (.at ((x1, x2, IntKind.i64.wrap (x3 + x0), 0)))
noncomputable def T77 : Tab := [(34, cloneE 3 24), (35, cloneE 3 32)]
theorem T77_ok : TabOk IP (T77) := ⟨sp34, sp35, trivial⟩
noncomputable def L77 : LTab := []
theorem L77_ok : LOk IP (L77) (loops F77.body) := LOk_of (l := []) (by kernel_rfl) trivial
theorem b77 (v : A77) : bodyK (R := B77) IP (callT (T77)) (loopT (L77)) 77 F77 (ea77 v).1 (ea77 v).2 rd77 = (tr77 v.1 v.2.1 v.2.2.1 v.2.2.2.1 v.2.2.2.2).ev := by kernel_rfl
/--  -/
noncomputable def f77 (x0 : Int) (x1 : Int) (x2 : Int) (x3 : Int) (x4 : Int) : Option B77 := lock (tr77 x0 x1 x2 x3 x4).ev
theorem f77_eq (x0 : Int) (x1 : Int) (x2 : Int) (x3 : Int) (x4 : Int) : f77 x0 x1 x2 x3 x4 = (tr77 x0 x1 x2 x3 x4).ev := lock_eq _
theorem c77 : ∀ v y, f77 v.1 v.2.1 v.2.2.1 v.2.2.2.1 v.2.2.2.2 = some y → callO IP 77 (ea77 v).1 (ea77 v).2 = some (er77 y) := fun v y h => fun_of T77_ok (by kernel_rfl) L77_ok rd77_ok (b77 v) ((f77_eq v.1 v.2.1 v.2.2.1 v.2.2.2.1 v.2.2.2.2).symm.trans h)
theorem s77 : Snd IP 77 (g77 f77) := g77_ok f77 c77

-- f78: 
abbrev A78 : Type := Int × Int × Int × Int
abbrev B78 : Type := Int × Int × Int × Int
def pa78 : PArgs := ⟨[.agg [], .agg [.int .i64, .int .i64, .int .i64], .int .i64], []⟩
def to78 (ls : List Lf) : Option A78 := eatI ls fun x0 ls => eatI ls fun x1 ls => eatI ls fun x2 ls => eatI ls fun x3 ls => eat0 ls (x0, x1, x2, x3)
def ea78 (v : A78) : List AV × Heap := ([.agg [], .agg [.int .i64 v.1, .int .i64 v.2.1, .int .i64 v.2.2.1], .int .i64 v.2.2.2], [])
def er78_0 (v : Int × Int × Int × Int) : Res × Heap := (.ret (.tup [.agg [.int .i64 v.1, .int .i64 v.2.1, .int .i64 v.2.2.1], .int .i64 v.2.2.2]), [])
def er78 : B78 → Res × Heap := er78_0
def en78 : Option B78 → List (Bool × Res × Heap) := (E1 er78_0)
def rd78 : Res → Heap → Option B78 := rDec ⟨false, .tup [.agg [.int .i64, .int .i64, .int .i64], .int .i64], []⟩ (fun ls => eatI ls fun x0 ls => eatI ls fun x1 ls => eatI ls fun x2 ls => eatI ls fun x3 ls => eat0 ls (x0, x1, x2, x3)) (rNo)
theorem to78_ok : ∀ ls v, to78 ls = some v → fArgs pa78 ls = ea78 v := by
  intro ls v h0
  unfold to78 at h0
  obtain ⟨x0, ls0, rfl, h1⟩ := eatI_some h0
  obtain ⟨x1, ls1, rfl, h2⟩ := eatI_some h1
  obtain ⟨x2, ls2, rfl, h3⟩ := eatI_some h2
  obtain ⟨x3, ls3, rfl, h4⟩ := eatI_some h3
  obtain ⟨rfl, rfl⟩ := eat0_some h4
  rfl
theorem rd78_ok : ∀ r h y, rd78 r h = some y → (r, h) = er78 y := rDec_ok (by
  intro ls v h0
  obtain ⟨x0, ls0, rfl, h1⟩ := eatI_some h0
  obtain ⟨x1, ls1, rfl, h2⟩ := eatI_some h1
  obtain ⟨x2, ls2, rfl, h3⟩ := eatI_some h2
  obtain ⟨x3, ls3, rfl, h4⟩ := eatI_some h3
  obtain ⟨rfl, rfl⟩ := eat0_some h4
  rfl
) (rNo_ok)
noncomputable def g78 (G : Int → Int → Int → Int → Option B78) : Ent := fEnt pa78 to78 (fun v => G v.1 v.2.1 v.2.2.1 v.2.2.2) en78
theorem g78_ok (G : Int → Int → Int → Int → Option B78) (hG : ∀ v y, G v.1 v.2.1 v.2.2.1 v.2.2.2 = some y → callO IP 78 (ea78 v).1 (ea78 v).2 = some (er78 y)) : Snd IP 78 (g78 G) := fEnt_ok to78_ok E1_ok hG
noncomputable def tr78 (x0 : Int) (x1 : Int) (x2 : Int) (x3 : Int) : DT B78 :=
 .at ((x0, x1, x2, 0))
noncomputable def T78 : Tab := [(34, cloneE 3 24), (35, cloneE 3 32)]
theorem T78_ok : TabOk IP (T78) := ⟨sp34, sp35, trivial⟩
noncomputable def L78 : LTab := []
theorem L78_ok : LOk IP (L78) (loops F78.body) := LOk_of (l := []) (by kernel_rfl) trivial
theorem b78 (v : A78) : bodyK (R := B78) IP (callT (T78)) (loopT (L78)) 78 F78 (ea78 v).1 (ea78 v).2 rd78 = (tr78 v.1 v.2.1 v.2.2.1 v.2.2.2).ev := by kernel_rfl
/--  -/
noncomputable def f78 (x0 : Int) (x1 : Int) (x2 : Int) (x3 : Int) : Option B78 := lock (tr78 x0 x1 x2 x3).ev
theorem f78_eq (x0 : Int) (x1 : Int) (x2 : Int) (x3 : Int) : f78 x0 x1 x2 x3 = (tr78 x0 x1 x2 x3).ev := lock_eq _
theorem c78 : ∀ v y, f78 v.1 v.2.1 v.2.2.1 v.2.2.2 = some y → callO IP 78 (ea78 v).1 (ea78 v).2 = some (er78 y) := fun v y h => fun_of T78_ok (by kernel_rfl) L78_ok rd78_ok (b78 v) ((f78_eq v.1 v.2.1 v.2.2.1 v.2.2.2).symm.trans h)
theorem s78 : Snd IP 78 (g78 f78) := g78_ok f78 c78

-- f13: 
abbrev A13 : Type := Int × List AV × List AV × Int × Int × List UInt8
abbrev B13 : Type := Int × List AV × List AV × Int
def pa13 : PArgs := ⟨[.agg [.int .i64, .view 3, .view 3], .int .i64, .int .i64, .str], []⟩
def to13 (ls : List Lf) : Option A13 := eatI ls fun x0 ls => eatL ls fun x1 ls => eatL ls fun x2 ls => eatI ls fun x3 ls => eatI ls fun x4 ls => eatS ls fun x5 ls => eat0 ls (x0, x1, x2, x3, x4, x5)
def ea13 (v : A13) : List AV × Heap := ([.agg [.int .i64 v.1, .view 3 v.2.1, .view 3 v.2.2.1], .int .i64 v.2.2.2.1, .int .i64 v.2.2.2.2.1, .str v.2.2.2.2.2], [])
def er13_0 (v : Int × List AV × List AV × Int) : Res × Heap := (.ret (.tup [.agg [.int .i64 v.1, .view 3 v.2.1, .view 3 v.2.2.1], .int .i64 v.2.2.2]), [])
def er13 : B13 → Res × Heap := er13_0
def en13 : Option B13 → List (Bool × Res × Heap) := (E1 er13_0)
def rd13 : Res → Heap → Option B13 := rDec ⟨false, .tup [.agg [.int .i64, .view 3, .view 3], .int .i64], []⟩ (fun ls => eatI ls fun x0 ls => eatL ls fun x1 ls => eatL ls fun x2 ls => eatI ls fun x3 ls => eat0 ls (x0, x1, x2, x3)) (rNo)
theorem to13_ok : ∀ ls v, to13 ls = some v → fArgs pa13 ls = ea13 v := by
  intro ls v h0
  unfold to13 at h0
  obtain ⟨x0, ls0, rfl, h1⟩ := eatI_some h0
  obtain ⟨x1, ls1, rfl, h2⟩ := eatL_some h1
  obtain ⟨x2, ls2, rfl, h3⟩ := eatL_some h2
  obtain ⟨x3, ls3, rfl, h4⟩ := eatI_some h3
  obtain ⟨x4, ls4, rfl, h5⟩ := eatI_some h4
  obtain ⟨x5, ls5, rfl, h6⟩ := eatS_some h5
  obtain ⟨rfl, rfl⟩ := eat0_some h6
  rfl
theorem rd13_ok : ∀ r h y, rd13 r h = some y → (r, h) = er13 y := rDec_ok (by
  intro ls v h0
  obtain ⟨x0, ls0, rfl, h1⟩ := eatI_some h0
  obtain ⟨x1, ls1, rfl, h2⟩ := eatL_some h1
  obtain ⟨x2, ls2, rfl, h3⟩ := eatL_some h2
  obtain ⟨x3, ls3, rfl, h4⟩ := eatI_some h3
  obtain ⟨rfl, rfl⟩ := eat0_some h4
  rfl
) (rNo_ok)
noncomputable def g13 (G : Int → (List AV) → (List AV) → Int → Int → (List UInt8) → Option B13) : Ent := fEnt pa13 to13 (fun v => G v.1 v.2.1 v.2.2.1 v.2.2.2.1 v.2.2.2.2.1 v.2.2.2.2.2) en13
theorem g13_ok (G : Int → (List AV) → (List AV) → Int → Int → (List UInt8) → Option B13) (hG : ∀ v y, G v.1 v.2.1 v.2.2.1 v.2.2.2.1 v.2.2.2.2.1 v.2.2.2.2.2 = some y → callO IP 13 (ea13 v).1 (ea13 v).2 = some (er13 y)) : Snd IP 13 (g13 G) := fEnt_ok to13_ok E1_ok hG
noncomputable def tr13 (x0 : Int) (x1 : List AV) (x2 : List AV) (x3 : Int) (x4 : Int) (x5 : List UInt8) : DT B13 :=
 .bi (f28 x1 x3) (fun y0 =>
  .bi (f9 x0 x1 x2) (fun y1 =>
   .bi (br (y1 != 0) (some true) (some (x4 == 0))) (fun y2 =>
    .bi (br y2 (some true) (br (sm (f29 x4)) (some !gv (f29 x4)) none)) (fun y3 =>
     .bi (br y3 (some true) (br (sm (f30 x5)) (some !gv (f30 x5)) none)) (fun y4 =>
      .br (y4)
       (.at ((0, [], [], 1)))
       (.br (decide (y0 < 0))
        (.at ((0, [], [], 11)))
        (.bi (f31a x2 x5) (fun y5 =>
         .br (y5)
          (.at ((0, [], [], 12)))
          (.br (decide ((↑x2.length : Int) ≥ 64))
           (.at ((0, [], [], 5)))
           (.bi (pl (f33 x4)) (fun y6 =>
            .br (okAt [CS.int IntKind.i64, CS.int IntKind.i64, CS.int IntKind.i64] x1 y0)
             (.bi (f77 y6 (intOf (cellAt x1 y0 0)) (intOf (cellAt x1 y0 1)) (intOf (cellAt x1 y0 2)) x0) (fun y7 =>
              .br (y7.snd.snd.snd != 0)
               (.at ((0, [], [], y7.snd.snd.snd)))
               (.br (decide (x1.length = 0))
                (.no)
                (.br (decide (x1.length ≠ 0) && decide (x1.length * 24 ≤ lim))
                 (.br (inB x1.length y0)
                  (.br (okS x1 y0.toNat 0 3)
                   (.br (decide (x2.length = 0))
                    (.at ((x0, setE x1 y0.toNat 0 [AV.int IntKind.i64 y7.fst, AV.int IntKind.i64 y7.snd.fst, AV.int IntKind.i64 y7.snd.snd.fst], [AV.agg [AV.int IntKind.i64 x3, AV.int IntKind.i64 x4, AV.str x5]], 0)))
                    (.br (decide (x2.length ≠ 0) && decide (x2.length * 32 ≤ lim))
                     (.br (room (x2.length + 1) 32)
                      (.at ((x0, setE x1 y0.toNat 0 [AV.int IntKind.i64 y7.fst, AV.int IntKind.i64 y7.snd.fst, AV.int IntKind.i64 y7.snd.snd.fst], x2 ++ [AV.agg [AV.int IntKind.i64 x3, AV.int IntKind.i64 x4, AV.str x5]], 0)))
                      (.no))
                     (.no)))
                   (.no))
                  (.no))
                 (.no))))
              (.no))
             (.no))
            (.bi (pr (f33 x4)) (fun y6 =>
             .br (okAt [CS.int IntKind.i64, CS.int IntKind.i64, CS.int IntKind.i64] x1 y0)
              (.bi (f78 (intOf (cellAt x1 y0 0)) (intOf (cellAt x1 y0 1)) (intOf (cellAt x1 y0 2)) x0) (fun y7 =>
               .br (y7.snd.snd.snd != 0)
                (.at ((0, [], [], y7.snd.snd.snd)))
                (.br (decide (x1.length = 0))
                 (.no)
                 (.br (decide (x1.length ≠ 0) && decide (x1.length * 24 ≤ lim))
                  (.br (inB x1.length y0)
                   (.br (okS x1 y0.toNat 0 3)
                    (.br (decide (x2.length = 0))
                     (.at ((x0, setE x1 y0.toNat 0 [AV.int IntKind.i64 y7.fst, AV.int IntKind.i64 y7.snd.fst, AV.int IntKind.i64 y7.snd.snd.fst], [AV.agg [AV.int IntKind.i64 x3, AV.int IntKind.i64 x4, AV.str x5]], 0)))
                     (.br (decide (x2.length ≠ 0) && decide (x2.length * 32 ≤ lim))
                      (.br (room (x2.length + 1) 32)
                       (.at ((x0, setE x1 y0.toNat 0 [AV.int IntKind.i64 y7.fst, AV.int IntKind.i64 y7.snd.fst, AV.int IntKind.i64 y7.snd.snd.fst], x2 ++ [AV.agg [AV.int IntKind.i64 x3, AV.int IntKind.i64 x4, AV.str x5]], 0)))
                       (.no))
                      (.no)))
                    (.no))
                   (.no))
                  (.no))))
               (.no))
              (.no))
             (.no)))))
         (.no))))
      (.no))
     (.no))
    (.no))
   (.no))
  (.no)
noncomputable def T13 : Tab := [(34, cloneE 3 24), (35, cloneE 3 32), (28, g28 f28), (9, g9 f9), (29, g29 f29), (30, g30 f30), (31, g31a f31a), (33, g33 f33), (77, g77 f77), (78, g78 f78)]
theorem T13_ok : TabOk IP (T13) := ⟨sp34, sp35, s28, s9, s29, s30, s31a, s33, s77, s78, trivial⟩
noncomputable def L13 : LTab := []
theorem L13_ok : LOk IP (L13) (loops F13.body) := LOk_of (l := []) (by kernel_rfl) trivial
theorem b13 (v : A13) : bodyK (R := B13) IP (callT (T13)) (loopT (L13)) 13 F13 (ea13 v).1 (ea13 v).2 rd13 = (tr13 v.1 v.2.1 v.2.2.1 v.2.2.2.1 v.2.2.2.2.1 v.2.2.2.2.2).ev := by kernel_rfl
/--  -/
noncomputable def f13 (x0 : Int) (x1 : List AV) (x2 : List AV) (x3 : Int) (x4 : Int) (x5 : List UInt8) : Option B13 := lock (tr13 x0 x1 x2 x3 x4 x5).ev
theorem f13_eq (x0 : Int) (x1 : List AV) (x2 : List AV) (x3 : Int) (x4 : Int) (x5 : List UInt8) : f13 x0 x1 x2 x3 x4 x5 = (tr13 x0 x1 x2 x3 x4 x5).ev := lock_eq _
theorem c13 : ∀ v y, f13 v.1 v.2.1 v.2.2.1 v.2.2.2.1 v.2.2.2.2.1 v.2.2.2.2.2 = some y → callO IP 13 (ea13 v).1 (ea13 v).2 = some (er13 y) := fun v y h => fun_of T13_ok (by kernel_rfl) L13_ok rd13_ok (b13 v) ((f13_eq v.1 v.2.1 v.2.2.1 v.2.2.2.1 v.2.2.2.2.1 v.2.2.2.2.2).symm.trans h)
theorem s13 : Snd IP 13 (g13 f13) := g13_ok f13 c13

-- f14: 
abbrev A14 : Type := Int × List AV × List AV × Int × Int × List UInt8
abbrev B14 : Type := Int × List AV × List AV × Int
def pa14 : PArgs := ⟨[.agg [.int .i64, .view 3, .view 3], .int .i64, .int .i64, .str], []⟩
def to14 (ls : List Lf) : Option A14 := eatI ls fun x0 ls => eatL ls fun x1 ls => eatL ls fun x2 ls => eatI ls fun x3 ls => eatI ls fun x4 ls => eatS ls fun x5 ls => eat0 ls (x0, x1, x2, x3, x4, x5)
def ea14 (v : A14) : List AV × Heap := ([.agg [.int .i64 v.1, .view 3 v.2.1, .view 3 v.2.2.1], .int .i64 v.2.2.2.1, .int .i64 v.2.2.2.2.1, .str v.2.2.2.2.2], [])
def er14_0 (v : Int × List AV × List AV × Int) : Res × Heap := (.ret (.tup [.agg [.int .i64 v.1, .view 3 v.2.1, .view 3 v.2.2.1], .int .i64 v.2.2.2]), [])
def er14 : B14 → Res × Heap := er14_0
def en14 : Option B14 → List (Bool × Res × Heap) := (E1 er14_0)
def rd14 : Res → Heap → Option B14 := rDec ⟨false, .tup [.agg [.int .i64, .view 3, .view 3], .int .i64], []⟩ (fun ls => eatI ls fun x0 ls => eatL ls fun x1 ls => eatL ls fun x2 ls => eatI ls fun x3 ls => eat0 ls (x0, x1, x2, x3)) (rNo)
theorem to14_ok : ∀ ls v, to14 ls = some v → fArgs pa14 ls = ea14 v := by
  intro ls v h0
  unfold to14 at h0
  obtain ⟨x0, ls0, rfl, h1⟩ := eatI_some h0
  obtain ⟨x1, ls1, rfl, h2⟩ := eatL_some h1
  obtain ⟨x2, ls2, rfl, h3⟩ := eatL_some h2
  obtain ⟨x3, ls3, rfl, h4⟩ := eatI_some h3
  obtain ⟨x4, ls4, rfl, h5⟩ := eatI_some h4
  obtain ⟨x5, ls5, rfl, h6⟩ := eatS_some h5
  obtain ⟨rfl, rfl⟩ := eat0_some h6
  rfl
theorem rd14_ok : ∀ r h y, rd14 r h = some y → (r, h) = er14 y := rDec_ok (by
  intro ls v h0
  obtain ⟨x0, ls0, rfl, h1⟩ := eatI_some h0
  obtain ⟨x1, ls1, rfl, h2⟩ := eatL_some h1
  obtain ⟨x2, ls2, rfl, h3⟩ := eatL_some h2
  obtain ⟨x3, ls3, rfl, h4⟩ := eatI_some h3
  obtain ⟨rfl, rfl⟩ := eat0_some h4
  rfl
) (rNo_ok)
noncomputable def g14 (G : Int → (List AV) → (List AV) → Int → Int → (List UInt8) → Option B14) : Ent := fEnt pa14 to14 (fun v => G v.1 v.2.1 v.2.2.1 v.2.2.2.1 v.2.2.2.2.1 v.2.2.2.2.2) en14
theorem g14_ok (G : Int → (List AV) → (List AV) → Int → Int → (List UInt8) → Option B14) (hG : ∀ v y, G v.1 v.2.1 v.2.2.1 v.2.2.2.1 v.2.2.2.2.1 v.2.2.2.2.2 = some y → callO IP 14 (ea14 v).1 (ea14 v).2 = some (er14 y)) : Snd IP 14 (g14 G) := fEnt_ok to14_ok E1_ok hG
noncomputable def tr14 (x0 : Int) (x1 : List AV) (x2 : List AV) (x3 : Int) (x4 : Int) (x5 : List UInt8) : DT B14 :=
 .bi (f10 x0 x1 x2) (fun y0 =>
  .bi (br (y0 != 0) (some true) (br (sm (f24 x4 x5)) (some !gv (f24 x4 x5)) none)) (fun y1 =>
   .br (y1)
    (.at ((0, [], [], 1)))
    (.bi (f25 x0 x1 x2 x3) (fun y2 =>
     .br (decide (y2 < 0))
      (.at ((0, [], [], 11)))
      (.bi (f26 x2 x5) (fun y3 =>
       .br (y3)
        (.at ((0, [], [], 12)))
        (.br (decide ((↑x2.length : Int) ≥ 64))
         (.at ((0, [], [], 5)))
         (.br (decide (x1.length = 0) && decide (3 = 3))
          (.br (decide (x4 < 0))
           (.no)
           (.br (decide (x2.length = 0) && decide (3 = 3))
            (.at ((x0, [], [AV.agg [AV.int IntKind.i64 x3, AV.int IntKind.i64 x4, AV.str x5]], 0)))
            (.br (decide (x2.length ≠ 0) && room x2.length 32)
             (.br (room (x2.length + 1) 32) (.at ((x0, [], x2 ++ [AV.agg [AV.int IntKind.i64 x3, AV.int IntKind.i64 x4, AV.str x5]], 0))) (.no))
             (.no))))
          (.br (decide (x1.length ≠ 0) && room x1.length 24)
           (.br (decide (x4 < 0))
            (.br (inB x1.length y2)
             (.br (okP [CS.int IntKind.i64] x1 y2.toNat 2)
              (.br (inB x1.length y2)
               (.br (okS x1 y2.toNat 2 1)
                (.br (inB (setE x1 y2.toNat 2 [AV.int IntKind.i64 (IntKind.i64.wrap (intOf (cellN x1 y2.toNat 2) - x4))]).length y2)
                 (.br (okP [CS.int IntKind.i64] (setE x1 y2.toNat 2 [AV.int IntKind.i64 (IntKind.i64.wrap (intOf (cellN x1 y2.toNat 2) - x4))]) y2.toNat 2)
                  (.br (inB (setE x1 y2.toNat 2 [AV.int IntKind.i64 (IntKind.i64.wrap (intOf (cellN x1 y2.toNat 2) - x4))]).length y2)
                   (.br (okP [CS.int IntKind.i64] (setE x1 y2.toNat 2 [AV.int IntKind.i64 (IntKind.i64.wrap (intOf (cellN x1 y2.toNat 2) - x4))]) y2.toNat 1)
                    (.br (decide
                        (intOf (cellN (setE x1 y2.toNat 2 [AV.int IntKind.i64 (IntKind.i64.wrap (intOf (cellN x1 y2.toNat 2) - x4))]) y2.toNat 2) >
                          intOf (cellN (setE x1 y2.toNat 2 [AV.int IntKind.i64 (IntKind.i64.wrap (intOf (cellN x1 y2.toNat 2) - x4))]) y2.toNat 1)))
                     (.at ((0, [], [], 18)))
                     (.br (inB (setE x1 y2.toNat 2 [AV.int IntKind.i64 (IntKind.i64.wrap (intOf (cellN x1 y2.toNat 2) - x4))]).length y2)
                      (.br (okP [CS.int IntKind.i64] (setE x1 y2.toNat 2 [AV.int IntKind.i64 (IntKind.i64.wrap (intOf (cellN x1 y2.toNat 2) - x4))]) y2.toNat 2)
                       (.br (decide (intOf (cellN (setE x1 y2.toNat 2 [AV.int IntKind.i64 (IntKind.i64.wrap (intOf (cellN x1 y2.toNat 2) - x4))]) y2.toNat 2) > x0))
                        (.at ((0, [], [], 18)))
                        (.br (decide (x2.length = 0) && decide (3 = 3))
                         (.at ((x0, setE x1 y2.toNat 2 [AV.int IntKind.i64 (IntKind.i64.wrap (intOf (cellN x1 y2.toNat 2) - x4))], [AV.agg [AV.int IntKind.i64 x3, AV.int IntKind.i64 x4, AV.str x5]], 0)))
                         (.br (decide (x2.length ≠ 0) && room x2.length 32)
                          (.br (room (x2.length + 1) 32)
                           (.at ((x0, setE x1 y2.toNat 2 [AV.int IntKind.i64 (IntKind.i64.wrap (intOf (cellN x1 y2.toNat 2) - x4))], x2 ++ [AV.agg [AV.int IntKind.i64 x3, AV.int IntKind.i64 x4, AV.str x5]], 0)))
                           (.no))
                          (.no))))
                       (.no))
                      (.no)))
                    (.no))
                   (.no))
                  (.no))
                 (.no))
                (.no))
               (.no))
              (.no))
             (.no))
            (.br (decide (x2.length = 0) && decide (3 = 3))
             (.at ((x0, x1, [AV.agg [AV.int IntKind.i64 x3, AV.int IntKind.i64 x4, AV.str x5]], 0)))
             (.br (decide (x2.length ≠ 0) && room x2.length 32)
              (.br (room (x2.length + 1) 32) (.at ((x0, x1, x2 ++ [AV.agg [AV.int IntKind.i64 x3, AV.int IntKind.i64 x4, AV.str x5]], 0))) (.no))
              (.no))))
           (.no)))))
       (.no)))
     (.no)))
   (.no))
  (.no)
noncomputable def T14 : Tab := [(34, cloneE 3 24), (35, cloneE 3 32), (10, g10 f10), (24, g24 f24), (25, g25 f25), (26, g26 f26)]
theorem T14_ok : TabOk IP (T14) := ⟨sp34, sp35, s10, s24, s25, s26, trivial⟩
noncomputable def L14 : LTab := []
theorem L14_ok : LOk IP (L14) (loops F14.body) := LOk_of (l := []) (by kernel_rfl) trivial
theorem b14 (v : A14) : bodyK (R := B14) IP (callT (T14)) (loopT (L14)) 14 F14 (ea14 v).1 (ea14 v).2 rd14 = (tr14 v.1 v.2.1 v.2.2.1 v.2.2.2.1 v.2.2.2.2.1 v.2.2.2.2.2).ev := by kernel_rfl
/--  -/
noncomputable def f14 (x0 : Int) (x1 : List AV) (x2 : List AV) (x3 : Int) (x4 : Int) (x5 : List UInt8) : Option B14 := lock (tr14 x0 x1 x2 x3 x4 x5).ev
theorem f14_eq (x0 : Int) (x1 : List AV) (x2 : List AV) (x3 : Int) (x4 : Int) (x5 : List UInt8) : f14 x0 x1 x2 x3 x4 x5 = (tr14 x0 x1 x2 x3 x4 x5).ev := lock_eq _
theorem c14 : ∀ v y, f14 v.1 v.2.1 v.2.2.1 v.2.2.2.1 v.2.2.2.2.1 v.2.2.2.2.2 = some y → callO IP 14 (ea14 v).1 (ea14 v).2 = some (er14 y) := fun v y h => fun_of T14_ok (by kernel_rfl) L14_ok rd14_ok (b14 v) ((f14_eq v.1 v.2.1 v.2.2.1 v.2.2.2.1 v.2.2.2.2.1 v.2.2.2.2.2).symm.trans h)
theorem s14 : Snd IP 14 (g14 f14) := g14_ok f14 c14

-- l15_0: loop 0 of function 15
abbrev TT15_0 : Type := Int × Int × List AV × List AV × Int × List AV × List AV
def h15_0_0 (v : Int × Int × List AV × List AV × Int × List AV × List AV) : St := ⟨[(1001500, .junk), (2, .ref 0 0 0), (3, .ref 1 0 0), (5, .int .i64 v.1)], [(0, .box [.int .i64 v.2.1, .view 3 v.2.2.1, .view 3 v.2.2.2.1] false), (1, .box [.int .i64 v.2.2.2.2.1, .view 3 v.2.2.2.2.2.1, .view 3 v.2.2.2.2.2.2] false)], 2, 0⟩
def h15_0 : TT15_0 → St := (fun v => h15_0_0 v)
def d15_0 : St → Option TT15_0 := sDec ⟨[(1001500, .junk), (2, .ref 0 0 0), (3, .ref 1 0 0), (5, .int .i64)], [(0, .box [.int .i64, .view 3, .view 3] false), (1, .box [.int .i64, .view 3, .view 3] false)], 2, 0⟩ (fun ls => eatI ls fun x0 ls => eatI ls fun x1 ls => eatL ls fun x2 ls => eatL ls fun x3 ls => eatI ls fun x4 ls => eatL ls fun x5 ls => eatL ls fun x6 ls => eat0 ls (x0, x1, x2, x3, x4, x5, x6)) (sNo)
theorem d15_0_ok : ∀ s v, d15_0 s = some v → s = h15_0 v := sDec_ok (by
  intro ls v h0
  obtain ⟨x0, ls0, rfl, h1⟩ := eatI_some h0
  obtain ⟨x1, ls1, rfl, h2⟩ := eatI_some h1
  obtain ⟨x2, ls2, rfl, h3⟩ := eatL_some h2
  obtain ⟨x3, ls3, rfl, h4⟩ := eatL_some h3
  obtain ⟨x4, ls4, rfl, h5⟩ := eatI_some h4
  obtain ⟨x5, ls5, rfl, h6⟩ := eatL_some h5
  obtain ⟨x6, ls6, rfl, h7⟩ := eatL_some h6
  obtain ⟨rfl, rfl⟩ := eat0_some h7
  rfl
) (sNo_ok)
theorem n15_0_0 (v : Int × Int × List AV × List AV × Int × List AV × List AV) : norm (hk (loopAt F15 0).1) (h15_0_0 v) = some (h15_0_0 v) := by kernel_rfl
noncomputable def x15_0_0 (x0 : Int) (x1 : Int) (x2 : List AV) (x3 : List AV) (x4 : Int) (x5 : List AV) (x6 : List AV) : X × St := (X.ret,
  { tm := [(2, AV.ref 0 0 0), (3, AV.ref 1 0 0), (4, AV.bool false)],
    hp := [(0, Blk.box [AV.int IntKind.i64 x1, AV.view 3 x2, AV.view 3 x3] false), (1, Blk.box [AV.int IntKind.i64 x4, AV.view 3 x5, AV.view 3 x6] false)], nx := 2, k := 0 })
noncomputable def x15_0_1 (x0 : Int) (x1 : Int) (x2 : List AV) (x3 : List AV) (x4 : Int) (x5 : List AV) (x6 : List AV) : X × St := (X.exit 0,
  { tm := [(2, AV.ref 0 0 0), (3, AV.ref 1 0 0), (4, AV.junk)],
    hp := [(0, Blk.box [AV.int IntKind.i64 x1, AV.view 3 x2, AV.view 3 x3] false), (1, Blk.box [AV.int IntKind.i64 x4, AV.view 3 x5, AV.view 3 x6] false)], nx := 2, k := 0 })
noncomputable def x15_0 : Nat → TT15_0 → X × St := fun j w => match j with
  | 0 => x15_0_0 w.1 w.2.1 w.2.2.1 w.2.2.2.1 w.2.2.2.2.1 w.2.2.2.2.2.1 w.2.2.2.2.2.2
  | 1 => x15_0_1 w.1 w.2.1 w.2.2.1 w.2.2.2.1 w.2.2.2.2.1 w.2.2.2.2.2.1 w.2.2.2.2.2.2
  | _ => (.ret, ⟨[], [], 0, 0⟩)
theorem e15_0 : ∀ j v, outB (x15_0 j v).1 = true := fun j v => match j with
  | 0 => rfl
  | 1 => rfl
  | _ + 2 => rfl
noncomputable def st15_0_0 (x0 : Int) (x1 : Int) (x2 : List AV) (x3 : List AV) (x4 : Int) (x5 : List AV) (x6 : List AV) : DT (Rd TT15_0) :=
 .br (decide (x0 < (↑x2.length : Int)))
  (.br (okAt [CS.int IntKind.i64, CS.int IntKind.i64, CS.int IntKind.i64] x2 x0)
   (.br (okAt [CS.int IntKind.i64, CS.int IntKind.i64, CS.int IntKind.i64] x5 x0)
    (.br (if true = true then
        !(intOf (cellAt x2 x0 0) == intOf (cellAt x5 x0 0) && (intOf (cellAt x2 x0 1) == intOf (cellAt x5 x0 1) && (intOf (cellAt x2 x0 2) == intOf (cellAt x5 x0 2) && true)))
      else intOf (cellAt x2 x0 0) == intOf (cellAt x5 x0 0) && (intOf (cellAt x2 x0 1) == intOf (cellAt x5 x0 1) && (intOf (cellAt x2 x0 2) == intOf (cellAt x5 x0 2) && true)))
     (.at (.done 0))
     (.at (.next ((IntKind.i64.wrap (x0 + 1), x1, x2, x3, x4, x5, x6)))))
    (.no))
   (.no))
  (.at (.done 1))
noncomputable def st15_0 : TT15_0 → DT (Rd TT15_0) := (fun v => st15_0_0 v.1 v.2.1 v.2.2.1 v.2.2.2.1 v.2.2.2.2.1 v.2.2.2.2.2.1 v.2.2.2.2.2.2)
noncomputable def T15_0 : Tab := [(34, cloneE 3 24), (35, cloneE 3 32)]
theorem T15_0_ok : TabOk IP (T15_0) := ⟨sp34, sp35, trivial⟩
noncomputable def L15_0 : LTab := []
theorem L15_0_ok : LOk IP (L15_0) (loops (loopAt F15 0).2) := LOk_of (l := []) (by kernel_rfl) trivial
theorem b15_0_0 (v : Int × Int × List AV × List AV × Int × List AV × List AV) : execK (R := Rx TT15_0) IP (callT (T15_0)) (loopT (L15_0)) (loopAt F15 0).2 (h15_0_0 v) (endK (loopAt F15 0).1 d15_0) = (cvD (fun j => x15_0 j v) (st15_0_0 v.1 v.2.1 v.2.2.1 v.2.2.2.1 v.2.2.2.2.1 v.2.2.2.2.2.1 v.2.2.2.2.2.2)).ev := by kernel_rfl
noncomputable def l15_0 (v : TT15_0) : Option (Nat × TT15_0) := lock (iterO (fun v => (st15_0 v).ev) v)
theorem l15_0_eq (v : TT15_0) : l15_0 v = iterO (fun v => (st15_0 v).ev) v := lock_eq _
noncomputable def ll15_0 : LEnt := lEnt d15_0 (l15_0) (x15_0) 2
theorem t15_0 : Go.Eng.Told IP (loopAt F15 0).1 (loopAt F15 0).2 (ll15_0) := loop_of (st := st15_0) (T15_0_ok) (L15_0_ok) d15_0_ok (fun v => n15_0_0 v) (e15_0) (fun v => b15_0_0 v) (l15_0_eq)

-- l15_1: loop 1 of function 15
abbrev TT15_1 : Type := Int × Int × List AV × List AV × Int × List AV × List AV
def h15_1_0 (v : Int × Int × List AV × List AV × Int × List AV × List AV) : St := ⟨[(1001501, .junk), (2, .ref 0 0 0), (3, .ref 1 0 0), (6, .int .i64 v.1)], [(0, .box [.int .i64 v.2.1, .view 3 v.2.2.1, .view 3 v.2.2.2.1] false), (1, .box [.int .i64 v.2.2.2.2.1, .view 3 v.2.2.2.2.2.1, .view 3 v.2.2.2.2.2.2] false)], 2, 0⟩
def h15_1 : TT15_1 → St := (fun v => h15_1_0 v)
def d15_1 : St → Option TT15_1 := sDec ⟨[(1001501, .junk), (2, .ref 0 0 0), (3, .ref 1 0 0), (6, .int .i64)], [(0, .box [.int .i64, .view 3, .view 3] false), (1, .box [.int .i64, .view 3, .view 3] false)], 2, 0⟩ (fun ls => eatI ls fun x0 ls => eatI ls fun x1 ls => eatL ls fun x2 ls => eatL ls fun x3 ls => eatI ls fun x4 ls => eatL ls fun x5 ls => eatL ls fun x6 ls => eat0 ls (x0, x1, x2, x3, x4, x5, x6)) (sNo)
theorem d15_1_ok : ∀ s v, d15_1 s = some v → s = h15_1 v := sDec_ok (by
  intro ls v h0
  obtain ⟨x0, ls0, rfl, h1⟩ := eatI_some h0
  obtain ⟨x1, ls1, rfl, h2⟩ := eatI_some h1
  obtain ⟨x2, ls2, rfl, h3⟩ := eatL_some h2
  obtain ⟨x3, ls3, rfl, h4⟩ := eatL_some h3
  obtain ⟨x4, ls4, rfl, h5⟩ := eatI_some h4
  obtain ⟨x5, ls5, rfl, h6⟩ := eatL_some h5
  obtain ⟨x6, ls6, rfl, h7⟩ := eatL_some h6
  obtain ⟨rfl, rfl⟩ := eat0_some h7
  rfl
) (sNo_ok)
theorem n15_1_0 (v : Int × Int × List AV × List AV × Int × List AV × List AV) : norm (hk (loopAt F15 1).1) (h15_1_0 v) = some (h15_1_0 v) := by kernel_rfl
noncomputable def x15_1_0 (x0 : Int) (x1 : Int) (x2 : List AV) (x3 : List AV) (x4 : Int) (x5 : List AV) (x6 : List AV) : X × St := (X.ret, { tm := [(4, AV.bool false)], hp := [], nx := 0, k := 0 })
noncomputable def x15_1_1 (x0 : Int) (x1 : Int) (x2 : List AV) (x3 : List AV) (x4 : Int) (x5 : List AV) (x6 : List AV) : X × St := (X.exit 2, { tm := [(4, AV.junk)], hp := [], nx := 0, k := 0 })
noncomputable def x15_1 : Nat → TT15_1 → X × St := fun j w => match j with
  | 0 => x15_1_0 w.1 w.2.1 w.2.2.1 w.2.2.2.1 w.2.2.2.2.1 w.2.2.2.2.2.1 w.2.2.2.2.2.2
  | 1 => x15_1_1 w.1 w.2.1 w.2.2.1 w.2.2.2.1 w.2.2.2.2.1 w.2.2.2.2.2.1 w.2.2.2.2.2.2
  | _ => (.ret, ⟨[], [], 0, 0⟩)
theorem e15_1 : ∀ j v, outB (x15_1 j v).1 = true := fun j v => match j with
  | 0 => rfl
  | 1 => rfl
  | _ + 2 => rfl
noncomputable def st15_1_0 (x0 : Int) (x1 : Int) (x2 : List AV) (x3 : List AV) (x4 : Int) (x5 : List AV) (x6 : List AV) : DT (Rd TT15_1) :=
 .br (decide (x0 < (↑x3.length : Int)))
  (.br (okAt [CS.int IntKind.i64, CS.int IntKind.i64, CS.str] x3 x0)
   (.br (okAt [CS.int IntKind.i64, CS.int IntKind.i64, CS.str] x6 x0)
    (.br (if true = true then
        !(intOf (cellAt x3 x0 0) == intOf (cellAt x6 x0 0) && (intOf (cellAt x3 x0 1) == intOf (cellAt x6 x0 1) && (strOf (cellAt x3 x0 2) == strOf (cellAt x6 x0 2) && true)))
      else intOf (cellAt x3 x0 0) == intOf (cellAt x6 x0 0) && (intOf (cellAt x3 x0 1) == intOf (cellAt x6 x0 1) && (strOf (cellAt x3 x0 2) == strOf (cellAt x6 x0 2) && true)))
     (.at (.done 0))
     (.at (.next ((IntKind.i64.wrap (x0 + 1), x1, x2, x3, x4, x5, x6)))))
    (.no))
   (.no))
  (.at (.done 1))
noncomputable def st15_1 : TT15_1 → DT (Rd TT15_1) := (fun v => st15_1_0 v.1 v.2.1 v.2.2.1 v.2.2.2.1 v.2.2.2.2.1 v.2.2.2.2.2.1 v.2.2.2.2.2.2)
noncomputable def T15_1 : Tab := [(34, cloneE 3 24), (35, cloneE 3 32)]
theorem T15_1_ok : TabOk IP (T15_1) := ⟨sp34, sp35, trivial⟩
noncomputable def L15_1 : LTab := []
theorem L15_1_ok : LOk IP (L15_1) (loops (loopAt F15 1).2) := LOk_of (l := []) (by kernel_rfl) trivial
theorem b15_1_0 (v : Int × Int × List AV × List AV × Int × List AV × List AV) : execK (R := Rx TT15_1) IP (callT (T15_1)) (loopT (L15_1)) (loopAt F15 1).2 (h15_1_0 v) (endK (loopAt F15 1).1 d15_1) = (cvD (fun j => x15_1 j v) (st15_1_0 v.1 v.2.1 v.2.2.1 v.2.2.2.1 v.2.2.2.2.1 v.2.2.2.2.2.1 v.2.2.2.2.2.2)).ev := by kernel_rfl
noncomputable def l15_1 (v : TT15_1) : Option (Nat × TT15_1) := lock (iterO (fun v => (st15_1 v).ev) v)
theorem l15_1_eq (v : TT15_1) : l15_1 v = iterO (fun v => (st15_1 v).ev) v := lock_eq _
noncomputable def ll15_1 : LEnt := lEnt d15_1 (l15_1) (x15_1) 2
theorem t15_1 : Go.Eng.Told IP (loopAt F15 1).1 (loopAt F15 1).2 (ll15_1) := loop_of (st := st15_1) (T15_1_ok) (L15_1_ok) d15_1_ok (fun v => n15_1_0 v) (e15_1) (fun v => b15_1_0 v) (l15_1_eq)

-- f15: 
abbrev A15 : Type := Int × List AV × List AV × Int × List AV × List AV
abbrev B15 : Type := Bool
def pa15 : PArgs := ⟨[.agg [.int .i64, .view 3, .view 3], .agg [.int .i64, .view 3, .view 3]], []⟩
def to15 (ls : List Lf) : Option A15 := eatI ls fun x0 ls => eatL ls fun x1 ls => eatL ls fun x2 ls => eatI ls fun x3 ls => eatL ls fun x4 ls => eatL ls fun x5 ls => eat0 ls (x0, x1, x2, x3, x4, x5)
def ea15 (v : A15) : List AV × Heap := ([.agg [.int .i64 v.1, .view 3 v.2.1, .view 3 v.2.2.1], .agg [.int .i64 v.2.2.2.1, .view 3 v.2.2.2.2.1, .view 3 v.2.2.2.2.2]], [])
def er15_0 (v : Bool) : Res × Heap := (.ret (.bool v), [])
def er15 : B15 → Res × Heap := er15_0
def en15 : Option B15 → List (Bool × Res × Heap) := (E1 er15_0)
def rd15 : Res → Heap → Option B15 := rDec ⟨false, .bool, []⟩ (fun ls => eatB ls fun x0 ls => eat0 ls x0) (rNo)
theorem to15_ok : ∀ ls v, to15 ls = some v → fArgs pa15 ls = ea15 v := by
  intro ls v h0
  unfold to15 at h0
  obtain ⟨x0, ls0, rfl, h1⟩ := eatI_some h0
  obtain ⟨x1, ls1, rfl, h2⟩ := eatL_some h1
  obtain ⟨x2, ls2, rfl, h3⟩ := eatL_some h2
  obtain ⟨x3, ls3, rfl, h4⟩ := eatI_some h3
  obtain ⟨x4, ls4, rfl, h5⟩ := eatL_some h4
  obtain ⟨x5, ls5, rfl, h6⟩ := eatL_some h5
  obtain ⟨rfl, rfl⟩ := eat0_some h6
  rfl
theorem rd15_ok : ∀ r h y, rd15 r h = some y → (r, h) = er15 y := rDec_ok (by
  intro ls v h0
  obtain ⟨x0, ls0, rfl, h1⟩ := eatB_some h0
  obtain ⟨rfl, rfl⟩ := eat0_some h1
  rfl
) (rNo_ok)
noncomputable def g15 (G : Int → (List AV) → (List AV) → Int → (List AV) → (List AV) → Option B15) : Ent := fEnt pa15 to15 (fun v => G v.1 v.2.1 v.2.2.1 v.2.2.2.1 v.2.2.2.2.1 v.2.2.2.2.2) en15
theorem g15_ok (G : Int → (List AV) → (List AV) → Int → (List AV) → (List AV) → Option B15) (hG : ∀ v y, G v.1 v.2.1 v.2.2.1 v.2.2.2.1 v.2.2.2.2.1 v.2.2.2.2.2 = some y → callO IP 15 (ea15 v).1 (ea15 v).2 = some (er15 y)) : Snd IP 15 (g15 G) := fEnt_ok to15_ok E1_ok hG
noncomputable def tr15 (x0 : Int) (x1 : List AV) (x2 : List AV) (x3 : Int) (x4 : List AV) (x5 : List AV) : DT B15 :=
 .bi (br (x0 != x3) (some true) (some ((↑x1.length : Int) != (↑x4.length : Int)))) (fun y0 =>
  .bi (br y0 (some true) (some ((↑x2.length : Int) != (↑x5.length : Int)))) (fun y1 =>
   .br (y1)
    (.at (false))
    (.bi (pj 0 (l15_0 (0, x0, x1, x2, x3, x4, x5))) (fun y2 =>
     .at (false))
     (.bi (pj 1 (l15_0 (0, x0, x1, x2, x3, x4, x5))) (fun y2 =>
      .bi (pj 0 (l15_1 (0, y2.snd.fst, y2.snd.snd.fst, y2.snd.snd.snd.fst, y2.snd.snd.snd.snd.fst, y2.snd.snd.snd.snd.snd.fst, y2.snd.snd.snd.snd.snd.snd))) (fun y3 =>
       .at (false))
       (.bi (pj 1 (l15_1 (0, y2.snd.fst, y2.snd.snd.fst, y2.snd.snd.snd.fst, y2.snd.snd.snd.snd.fst, y2.snd.snd.snd.snd.snd.fst, y2.snd.snd.snd.snd.snd.snd))) (fun y3 =>
        .at (true))
        (.no)))
      (.no))))
   (.no))
  (.no)
noncomputable def T15 : Tab := [(34, cloneE 3 24), (35, cloneE 3 32)]
theorem T15_ok : TabOk IP (T15) := ⟨sp34, sp35, trivial⟩
noncomputable def L15 : LTab := [(1001500, ll15_0), (1001501, ll15_1)]
theorem L15_ok : LOk IP (L15) (loops F15.body) := LOk_of (l := [loopAt F15 0, loopAt F15 1]) (by kernel_rfl) ⟨sel_one (by kernel_rfl) t15_0, sel_one (by kernel_rfl) t15_1, trivial⟩
theorem b15 (v : A15) : bodyK (R := B15) IP (callT (T15)) (loopT (L15)) 15 F15 (ea15 v).1 (ea15 v).2 rd15 = (tr15 v.1 v.2.1 v.2.2.1 v.2.2.2.1 v.2.2.2.2.1 v.2.2.2.2.2).ev := by kernel_rfl
/--  -/
noncomputable def f15 (x0 : Int) (x1 : List AV) (x2 : List AV) (x3 : Int) (x4 : List AV) (x5 : List AV) : Option B15 := lock (tr15 x0 x1 x2 x3 x4 x5).ev
theorem f15_eq (x0 : Int) (x1 : List AV) (x2 : List AV) (x3 : Int) (x4 : List AV) (x5 : List AV) : f15 x0 x1 x2 x3 x4 x5 = (tr15 x0 x1 x2 x3 x4 x5).ev := lock_eq _
theorem c15 : ∀ v y, f15 v.1 v.2.1 v.2.2.1 v.2.2.2.1 v.2.2.2.2.1 v.2.2.2.2.2 = some y → callO IP 15 (ea15 v).1 (ea15 v).2 = some (er15 y) := fun v y h => fun_of T15_ok (by kernel_rfl) L15_ok rd15_ok (b15 v) ((f15_eq v.1 v.2.1 v.2.2.1 v.2.2.2.1 v.2.2.2.2.1 v.2.2.2.2.2).symm.trans h)
theorem s15 : Snd IP 15 (g15 f15) := g15_ok f15 c15

-- f4: StandinDecides
abbrev A4 : Type := Int × List AV × List AV × Int × Int × List UInt8
abbrev B4 : Type := Bool
def pa4 : PArgs := ⟨[.agg [.int .i64, .view 3, .view 3], .agg [.int .i64, .int .i64, .str]], []⟩
def to4 (ls : List Lf) : Option A4 := eatI ls fun x0 ls => eatL ls fun x1 ls => eatL ls fun x2 ls => eatI ls fun x3 ls => eatI ls fun x4 ls => eatS ls fun x5 ls => eat0 ls (x0, x1, x2, x3, x4, x5)
def ea4 (v : A4) : List AV × Heap := ([.agg [.int .i64 v.1, .view 3 v.2.1, .view 3 v.2.2.1], .agg [.int .i64 v.2.2.2.1, .int .i64 v.2.2.2.2.1, .str v.2.2.2.2.2]], [])
def er4_0 (v : Bool) : Res × Heap := (.ret (.bool v), [])
def er4 : B4 → Res × Heap := er4_0
def en4 : Option B4 → List (Bool × Res × Heap) := (E1 er4_0)
def rd4 : Res → Heap → Option B4 := rDec ⟨false, .bool, []⟩ (fun ls => eatB ls fun x0 ls => eat0 ls x0) (rNo)
theorem to4_ok : ∀ ls v, to4 ls = some v → fArgs pa4 ls = ea4 v := by
  intro ls v h0
  unfold to4 at h0
  obtain ⟨x0, ls0, rfl, h1⟩ := eatI_some h0
  obtain ⟨x1, ls1, rfl, h2⟩ := eatL_some h1
  obtain ⟨x2, ls2, rfl, h3⟩ := eatL_some h2
  obtain ⟨x3, ls3, rfl, h4⟩ := eatI_some h3
  obtain ⟨x4, ls4, rfl, h5⟩ := eatI_some h4
  obtain ⟨x5, ls5, rfl, h6⟩ := eatS_some h5
  obtain ⟨rfl, rfl⟩ := eat0_some h6
  rfl
theorem rd4_ok : ∀ r h y, rd4 r h = some y → (r, h) = er4 y := rDec_ok (by
  intro ls v h0
  obtain ⟨x0, ls0, rfl, h1⟩ := eatB_some h0
  obtain ⟨rfl, rfl⟩ := eat0_some h1
  rfl
) (rNo_ok)
noncomputable def g4 (G : Int → (List AV) → (List AV) → Int → Int → (List UInt8) → Option B4) : Ent := fEnt pa4 to4 (fun v => G v.1 v.2.1 v.2.2.1 v.2.2.2.1 v.2.2.2.2.1 v.2.2.2.2.2) en4
theorem g4_ok (G : Int → (List AV) → (List AV) → Int → Int → (List UInt8) → Option B4) (hG : ∀ v y, G v.1 v.2.1 v.2.2.1 v.2.2.2.1 v.2.2.2.2.1 v.2.2.2.2.2 = some y → callO IP 4 (ea4 v).1 (ea4 v).2 = some (er4 y)) : Snd IP 4 (g4 G) := fEnt_ok to4_ok E1_ok hG
noncomputable def tr4 (x0 : Int) (x1 : List AV) (x2 : List AV) (x3 : Int) (x4 : Int) (x5 : List UInt8) : DT B4 :=
 .bi (f7 x0 x1 x2) (fun y0 =>
  .bi (br (!y0) (some true) (some (decide ((↑x5.length : Int) > 100)))) (fun y1 =>
   .br (y1)
    (.bi (f8) (fun y2 =>
     .at (y2))
     (.no))
    (.bi (f13 x0 x1 x2 x3 x4 x5) (fun y2 =>
     .bi (f14 x0 x1 x2 x3 x4 x5) (fun y3 =>
      .bi (f15 y2.fst y2.snd.fst y2.snd.snd.fst y3.fst y3.snd.fst y3.snd.snd.fst) (fun y4 =>
       .bi (br y4 (some (y2.snd.snd.snd == y3.snd.snd.snd)) (some false)) (fun y5 =>
        .bi (br y5 (br (sm f8) (some (gv f8)) none) (some false)) (fun y6 =>
         .at (y6))
         (.no))
        (.no))
       (.no))
      (.no))
     (.no)))
   (.no))
  (.no)
noncomputable def T4 : Tab := [(34, cloneE 3 24), (35, cloneE 3 32), (7, g7 f7), (8, g8 f8), (13, g13 f13), (14, g14 f14), (15, g15 f15)]
theorem T4_ok : TabOk IP (T4) := ⟨sp34, sp35, s7, s8, s13, s14, s15, trivial⟩
noncomputable def L4 : LTab := []
theorem L4_ok : LOk IP (L4) (loops F4.body) := LOk_of (l := []) (by kernel_rfl) trivial
theorem b4 (v : A4) : bodyK (R := B4) IP (callT (T4)) (loopT (L4)) 4 F4 (ea4 v).1 (ea4 v).2 rd4 = (tr4 v.1 v.2.1 v.2.2.1 v.2.2.2.1 v.2.2.2.2.1 v.2.2.2.2.2).ev := by kernel_rfl
/-- StandinDecides -/
noncomputable def f4 (x0 : Int) (x1 : List AV) (x2 : List AV) (x3 : Int) (x4 : Int) (x5 : List UInt8) : Option B4 := lock (tr4 x0 x1 x2 x3 x4 x5).ev
theorem f4_eq (x0 : Int) (x1 : List AV) (x2 : List AV) (x3 : Int) (x4 : Int) (x5 : List UInt8) : f4 x0 x1 x2 x3 x4 x5 = (tr4 x0 x1 x2 x3 x4 x5).ev := lock_eq _
theorem c4 : ∀ v y, f4 v.1 v.2.1 v.2.2.1 v.2.2.2.1 v.2.2.2.2.1 v.2.2.2.2.2 = some y → callO IP 4 (ea4 v).1 (ea4 v).2 = some (er4 y) := fun v y h => fun_of T4_ok (by kernel_rfl) L4_ok rd4_ok (b4 v) ((f4_eq v.1 v.2.1 v.2.2.1 v.2.2.2.1 v.2.2.2.2.1 v.2.2.2.2.2).symm.trans h)
theorem s4 : Snd IP 4 (g4 f4) := g4_ok f4 c4

-- f60: 
abbrev A60 : Type := Int × Int × Int × Int × List UInt8 × List UInt8 × List UInt8 × Int
abbrev B60 : Type := Bool
def pa60 : PArgs := ⟨[.agg [.int .i64, .int .i64, .int .i64, .int .i64, .str, .str, .str], .ptr [.int .i64]], []⟩
def to60 (ls : List Lf) : Option A60 := eatI ls fun x0 ls => eatI ls fun x1 ls => eatI ls fun x2 ls => eatI ls fun x3 ls => eatS ls fun x4 ls => eatS ls fun x5 ls => eatS ls fun x6 ls => eatI ls fun x7 ls => eat0 ls (x0, x1, x2, x3, x4, x5, x6, x7)
def ea60 (v : A60) : List AV × Heap := ([.agg [.int .i64 v.1, .int .i64 v.2.1, .int .i64 v.2.2.1, .int .i64 v.2.2.2.1, .str v.2.2.2.2.1, .str v.2.2.2.2.2.1, .str v.2.2.2.2.2.2.1], .ptr [.int .i64 v.2.2.2.2.2.2.2]], [])
def er60_0 (v : Bool) : Res × Heap := (.ret (.bool v), [])
def er60 : B60 → Res × Heap := er60_0
def en60 : Option B60 → List (Bool × Res × Heap) := (E1 er60_0)
def rd60 : Res → Heap → Option B60 := rDec ⟨false, .bool, []⟩ (fun ls => eatB ls fun x0 ls => eat0 ls x0) (rNo)
theorem to60_ok : ∀ ls v, to60 ls = some v → fArgs pa60 ls = ea60 v := by
  intro ls v h0
  unfold to60 at h0
  obtain ⟨x0, ls0, rfl, h1⟩ := eatI_some h0
  obtain ⟨x1, ls1, rfl, h2⟩ := eatI_some h1
  obtain ⟨x2, ls2, rfl, h3⟩ := eatI_some h2
  obtain ⟨x3, ls3, rfl, h4⟩ := eatI_some h3
  obtain ⟨x4, ls4, rfl, h5⟩ := eatS_some h4
  obtain ⟨x5, ls5, rfl, h6⟩ := eatS_some h5
  obtain ⟨x6, ls6, rfl, h7⟩ := eatS_some h6
  obtain ⟨x7, ls7, rfl, h8⟩ := eatI_some h7
  obtain ⟨rfl, rfl⟩ := eat0_some h8
  rfl
theorem rd60_ok : ∀ r h y, rd60 r h = some y → (r, h) = er60 y := rDec_ok (by
  intro ls v h0
  obtain ⟨x0, ls0, rfl, h1⟩ := eatB_some h0
  obtain ⟨rfl, rfl⟩ := eat0_some h1
  rfl
) (rNo_ok)
noncomputable def g60 (G : Int → Int → Int → Int → (List UInt8) → (List UInt8) → (List UInt8) → Int → Option B60) : Ent := fEnt pa60 to60 (fun v => G v.1 v.2.1 v.2.2.1 v.2.2.2.1 v.2.2.2.2.1 v.2.2.2.2.2.1 v.2.2.2.2.2.2.1 v.2.2.2.2.2.2.2) en60
theorem g60_ok (G : Int → Int → Int → Int → (List UInt8) → (List UInt8) → (List UInt8) → Int → Option B60) (hG : ∀ v y, G v.1 v.2.1 v.2.2.1 v.2.2.2.1 v.2.2.2.2.1 v.2.2.2.2.2.1 v.2.2.2.2.2.2.1 v.2.2.2.2.2.2.2 = some y → callO IP 60 (ea60 v).1 (ea60 v).2 = some (er60 y)) : Snd IP 60 (g60 G) := fEnt_ok to60_ok E1_ok hG
noncomputable def tr60 (x0 : Int) (x1 : Int) (x2 : Int) (x3 : Int) (x4 : List UInt8) (x5 : List UInt8) (x6 : List UInt8) (x7 : Int) : DT B60 :=
 .at (x0 == x7)
noncomputable def T60 : Tab := [(34, cloneE 3 24), (35, cloneE 3 32)]
theorem T60_ok : TabOk IP (T60) := ⟨sp34, sp35, trivial⟩
noncomputable def L60 : LTab := []
theorem L60_ok : LOk IP (L60) (loops F60.body) := LOk_of (l := []) (by kernel_rfl) trivial
theorem b60 (v : A60) : bodyK (R := B60) IP (callT (T60)) (loopT (L60)) 60 F60 (ea60 v).1 (ea60 v).2 rd60 = (tr60 v.1 v.2.1 v.2.2.1 v.2.2.2.1 v.2.2.2.2.1 v.2.2.2.2.2.1 v.2.2.2.2.2.2.1 v.2.2.2.2.2.2.2).ev := by kernel_rfl
/--  -/
noncomputable def f60 (x0 : Int) (x1 : Int) (x2 : Int) (x3 : Int) (x4 : List UInt8) (x5 : List UInt8) (x6 : List UInt8) (x7 : Int) : Option B60 := lock (tr60 x0 x1 x2 x3 x4 x5 x6 x7).ev
theorem f60_eq (x0 : Int) (x1 : Int) (x2 : Int) (x3 : Int) (x4 : List UInt8) (x5 : List UInt8) (x6 : List UInt8) (x7 : Int) : f60 x0 x1 x2 x3 x4 x5 x6 x7 = (tr60 x0 x1 x2 x3 x4 x5 x6 x7).ev := lock_eq _
theorem c60 : ∀ v y, f60 v.1 v.2.1 v.2.2.1 v.2.2.2.1 v.2.2.2.2.1 v.2.2.2.2.2.1 v.2.2.2.2.2.2.1 v.2.2.2.2.2.2.2 = some y → callO IP 60 (ea60 v).1 (ea60 v).2 = some (er60 y) := fun v y h => fun_of T60_ok (by kernel_rfl) L60_ok rd60_ok (b60 v) ((f60_eq v.1 v.2.1 v.2.2.1 v.2.2.2.1 v.2.2.2.2.1 v.2.2.2.2.2.1 v.2.2.2.2.2.2.1 v.2.2.2.2.2.2.2).symm.trans h)
theorem s60 : Snd IP 60 (g60 f60) := g60_ok f60 c60

-- l59_0: loop 0 of function 59
abbrev TT59_0 : Type := List AV × Int × Int × Int
def h59_0_0 (v : List AV × Int × Int × Int) : St := ⟨[(1005900, .junk), (0, .view 7 v.1), (1, .fn (.func 60) [.ptr [.int .i64 v.2.1]]), (7, .int .i64 v.2.2.1), (8, .int .i64 v.2.2.2)], [], 0, 0⟩
def h59_0 : TT59_0 → St := (fun v => h59_0_0 v)
def d59_0 : St → Option TT59_0 := sDec ⟨[(1005900, .junk), (0, .view 7), (1, .fn (.func 60) [.ptr [.int .i64]]), (7, .int .i64), (8, .int .i64)], [], 0, 0⟩ (fun ls => eatL ls fun x0 ls => eatI ls fun x1 ls => eatI ls fun x2 ls => eatI ls fun x3 ls => eat0 ls (x0, x1, x2, x3)) (sNo)
theorem d59_0_ok : ∀ s v, d59_0 s = some v → s = h59_0 v := sDec_ok (by
  intro ls v h0
  obtain ⟨x0, ls0, rfl, h1⟩ := eatL_some h0
  obtain ⟨x1, ls1, rfl, h2⟩ := eatI_some h1
  obtain ⟨x2, ls2, rfl, h3⟩ := eatI_some h2
  obtain ⟨x3, ls3, rfl, h4⟩ := eatI_some h3
  obtain ⟨rfl, rfl⟩ := eat0_some h4
  rfl
) (sNo_ok)
theorem n59_0_0 (v : List AV × Int × Int × Int) : norm (hk (loopAt F59 0).1) (h59_0_0 v) = some (h59_0_0 v) := by kernel_rfl
noncomputable def x59_0_0 (x0 : List AV) (x1 : Int) (x2 : Int) (x3 : Int) : X × St := (X.ret, { tm := [(4, AV.int IntKind.i64 x3)], hp := [], nx := 0, k := 0 })
noncomputable def x59_0_1 (x0 : List AV) (x1 : Int) (x2 : Int) (x3 : Int) : X × St := (X.exit 0, { tm := [(4, AV.junk)], hp := [], nx := 0, k := 0 })
noncomputable def x59_0 : Nat → TT59_0 → X × St := fun j w => match j with
  | 0 => x59_0_0 w.1 w.2.1 w.2.2.1 w.2.2.2
  | 1 => x59_0_1 w.1 w.2.1 w.2.2.1 w.2.2.2
  | _ => (.ret, ⟨[], [], 0, 0⟩)
theorem e59_0 : ∀ j v, outB (x59_0 j v).1 = true := fun j v => match j with
  | 0 => rfl
  | 1 => rfl
  | _ + 2 => rfl
noncomputable def st59_0_0 (x0 : List AV) (x1 : Int) (x2 : Int) (x3 : Int) : DT (Rd TT59_0) :=
 .br (decide (x3 < x2))
  (.br (okAt [CS.int IntKind.i64, CS.int IntKind.i64, CS.int IntKind.i64, CS.int IntKind.i64, CS.str, CS.str, CS.str] x0 x3)
   (.bi (f60 (intOf (cellAt x0 x3 0)) (intOf (cellAt x0 x3 1)) (intOf (cellAt x0 x3 2)) (intOf (cellAt x0 x3 3)) (strOf (cellAt x0 x3 4)) (strOf (cellAt x0 x3 5)) (strOf (cellAt x0 x3 6))
       x1) (fun y0 =>
    .br (y0) (.at (.done 0)) (.at (.next ((x0, x1, x2, IntKind.i64.wrap (x3 + 1))))))
    (.no))
   (.no))
  (.at (.done 1))
noncomputable def st59_0 : TT59_0 → DT (Rd TT59_0) := (fun v => st59_0_0 v.1 v.2.1 v.2.2.1 v.2.2.2)
noncomputable def T59_0 : Tab := [(34, cloneE 3 24), (35, cloneE 3 32), (60, g60 f60)]
theorem T59_0_ok : TabOk IP (T59_0) := ⟨sp34, sp35, s60, trivial⟩
noncomputable def L59_0 : LTab := []
theorem L59_0_ok : LOk IP (L59_0) (loops (loopAt F59 0).2) := LOk_of (l := []) (by kernel_rfl) trivial
theorem b59_0_0 (v : List AV × Int × Int × Int) : execK (R := Rx TT59_0) IP (callT (T59_0)) (loopT (L59_0)) (loopAt F59 0).2 (h59_0_0 v) (endK (loopAt F59 0).1 d59_0) = (cvD (fun j => x59_0 j v) (st59_0_0 v.1 v.2.1 v.2.2.1 v.2.2.2)).ev := by kernel_rfl
noncomputable def l59_0 (v : TT59_0) : Option (Nat × TT59_0) := lock (iterO (fun v => (st59_0 v).ev) v)
theorem l59_0_eq (v : TT59_0) : l59_0 v = iterO (fun v => (st59_0 v).ev) v := lock_eq _
noncomputable def ll59_0 : LEnt := lEnt d59_0 (l59_0) (x59_0) 2
theorem t59_0 : Go.Eng.Told IP (loopAt F59 0).1 (loopAt F59 0).2 (ll59_0) := loop_of (st := st59_0) (T59_0_ok) (L59_0_ok) d59_0_ok (fun v => n59_0_0 v) (e59_0) (fun v => b59_0_0 v) (l59_0_eq)

end Go.Proofs.H53

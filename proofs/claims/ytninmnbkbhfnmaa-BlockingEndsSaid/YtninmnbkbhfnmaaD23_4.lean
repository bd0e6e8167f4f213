/- Functions over plain data. Printed by a program of mine. -/
import Derived.Test.YtninmnbkbhfnmaaD23_3
import Derived.KernelRfl
set_option linter.unusedVariables false
set_option linter.unusedSimpArgs false
set_option linter.unnecessarySimpa false
namespace Go.Proofs.H23
open Go Go.Eng
set_option maxRecDepth 100000

-- f35: 
abbrev A35 : Type := Int × Int × Int × Int × Int × Int × List UInt8 × Int
abbrev B35 : Type := Bool
def pa35 : PArgs := ⟨[.agg [.int .i64, .int .i64, .int .i64, .int .i64, .int .i64, .int .i64, .str], .ptr [.int .i64]], []⟩
def to35 (ls : List Lf) : Option A35 := eatI ls fun x0 ls => eatI ls fun x1 ls => eatI ls fun x2 ls => eatI ls fun x3 ls => eatI ls fun x4 ls => eatI ls fun x5 ls => eatS ls fun x6 ls => eatI ls fun x7 ls => eat0 ls (x0, x1, x2, x3, x4, x5, x6, x7)
def ea35 (v : A35) : List AV × Heap := ([.agg [.int .i64 v.1, .int .i64 v.2.1, .int .i64 v.2.2.1, .int .i64 v.2.2.2.1, .int .i64 v.2.2.2.2.1, .int .i64 v.2.2.2.2.2.1, .str v.2.2.2.2.2.2.1], .ptr [.int .i64 v.2.2.2.2.2.2.2]], [])
def er35_0 (v : Bool) : Res × Heap := (.ret (.bool v), [])
def er35 : B35 → Res × Heap := er35_0
def en35 : Option B35 → List (Bool × Res × Heap) := (E1 er35_0)
def rd35 : Res → Heap → Option B35 := rDec ⟨false, .bool, []⟩ (fun ls => eatB ls fun x0 ls => eat0 ls x0) (rNo)
theorem to35_ok : ∀ ls v, to35 ls = some v → fArgs pa35 ls = ea35 v := by
  intro ls v h0
  unfold to35 at h0
  obtain ⟨x0, ls0, rfl, h1⟩ := eatI_some h0
  obtain ⟨x1, ls1, rfl, h2⟩ := eatI_some h1
  obtain ⟨x2, ls2, rfl, h3⟩ := eatI_some h2
  obtain ⟨x3, ls3, rfl, h4⟩ := eatI_some h3
  obtain ⟨x4, ls4, rfl, h5⟩ := eatI_some h4
  obtain ⟨x5, ls5, rfl, h6⟩ := eatI_some h5
  obtain ⟨x6, ls6, rfl, h7⟩ := eatS_some h6
  obtain ⟨x7, ls7, rfl, h8⟩ := eatI_some h7
  obtain ⟨rfl, rfl⟩ := eat0_some h8
  rfl
theorem rd35_ok : ∀ r h y, rd35 r h = some y → (r, h) = er35 y := rDec_ok (by
  intro ls v h0
  obtain ⟨x0, ls0, rfl, h1⟩ := eatB_some h0
  obtain ⟨rfl, rfl⟩ := eat0_some h1
  rfl
) (rNo_ok)
noncomputable def g35 (G : Int → Int → Int → Int → Int → Int → (List UInt8) → Int → Option B35) : Ent := fEnt pa35 to35 (fun v => G v.1 v.2.1 v.2.2.1 v.2.2.2.1 v.2.2.2.2.1 v.2.2.2.2.2.1 v.2.2.2.2.2.2.1 v.2.2.2.2.2.2.2) en35
theorem g35_ok (G : Int → Int → Int → Int → Int → Int → (List UInt8) → Int → Option B35) (hG : ∀ v y, G v.1 v.2.1 v.2.2.1 v.2.2.2.1 v.2.2.2.2.1 v.2.2.2.2.2.1 v.2.2.2.2.2.2.1 v.2.2.2.2.2.2.2 = some y → callO IP 35 (ea35 v).1 (ea35 v).2 = some (er35 y)) : Snd IP 35 (g35 G) := fEnt_ok to35_ok E1_ok hG
noncomputable def tr35 (x0 : Int) (x1 : Int) (x2 : Int) (x3 : Int) (x4 : Int) (x5 : Int) (x6 : List UInt8) (x7 : Int) : DT B35 :=
 .bi (f36 x0 x1 x2 x3 x4 x5 x6 x7) (fun y0 =>
  .at (y0))
  (.no)
noncomputable def T35 : Tab := [(29, cloneE 7 64), (36, g36 f36)]
theorem T35_ok : TabOk IP (T35) := ⟨sp29, s36, trivial⟩
noncomputable def L35 : LTab := []
theorem L35_ok : LOk IP (L35) (loops F35.body) := LOk_of (l := []) (by kernel_rfl) trivial
theorem b35 (v : A35) : bodyK (R := B35) IP (callT (T35)) (loopT (L35)) 35 F35 (ea35 v).1 (ea35 v).2 rd35 = (tr35 v.1 v.2.1 v.2.2.1 v.2.2.2.1 v.2.2.2.2.1 v.2.2.2.2.2.1 v.2.2.2.2.2.2.1 v.2.2.2.2.2.2.2).ev := by kernel_rfl
/--  -/
noncomputable def f35 (x0 : Int) (x1 : Int) (x2 : Int) (x3 : Int) (x4 : Int) (x5 : Int) (x6 : List UInt8) (x7 : Int) : Option B35 := lock (tr35 x0 x1 x2 x3 x4 x5 x6 x7).ev
theorem f35_eq (x0 : Int) (x1 : Int) (x2 : Int) (x3 : Int) (x4 : Int) (x5 : Int) (x6 : List UInt8) (x7 : Int) : f35 x0 x1 x2 x3 x4 x5 x6 x7 = (tr35 x0 x1 x2 x3 x4 x5 x6 x7).ev := lock_eq _
theorem c35 : ∀ v y, f35 v.1 v.2.1 v.2.2.1 v.2.2.2.1 v.2.2.2.2.1 v.2.2.2.2.2.1 v.2.2.2.2.2.2.1 v.2.2.2.2.2.2.2 = some y → callO IP 35 (ea35 v).1 (ea35 v).2 = some (er35 y) := fun v y h => fun_of T35_ok (by kernel_rfl) L35_ok rd35_ok (b35 v) ((f35_eq v.1 v.2.1 v.2.2.1 v.2.2.2.1 v.2.2.2.2.1 v.2.2.2.2.2.1 v.2.2.2.2.2.2.1 v.2.2.2.2.2.2.2).symm.trans h)
theorem s35 : Snd IP 35 (g35 f35) := g35_ok f35 c35

-- l30a_0: loop 0 of function 30
abbrev TT30a_0 : Type := List AV × Int × Int × Int
def h30a_0_0 (v : List AV × Int × Int × Int) : St := ⟨[(1003000, .junk), (0, .view 7 v.1), (1, .fn 35 [.ptr [.int .i64 v.2.1]]), (7, .int .i64 v.2.2.1), (8, .int .i64 v.2.2.2)], [], 0, 0⟩
def h30a_0 : TT30a_0 → St := (fun v => h30a_0_0 v)
def d30a_0 : St → Option TT30a_0 := sDec ⟨[(1003000, .junk), (0, .view 7), (1, .fn 35 [.ptr [.int .i64]]), (7, .int .i64), (8, .int .i64)], [], 0, 0⟩ (fun ls => eatL ls fun x0 ls => eatI ls fun x1 ls => eatI ls fun x2 ls => eatI ls fun x3 ls => eat0 ls (x0, x1, x2, x3)) (sNo)
theorem d30a_0_ok : ∀ s v, d30a_0 s = some v → s = h30a_0 v := sDec_ok (by
  intro ls v h0
  obtain ⟨x0, ls0, rfl, h1⟩ := eatL_some h0
  obtain ⟨x1, ls1, rfl, h2⟩ := eatI_some h1
  obtain ⟨x2, ls2, rfl, h3⟩ := eatI_some h2
  obtain ⟨x3, ls3, rfl, h4⟩ := eatI_some h3
  obtain ⟨rfl, rfl⟩ := eat0_some h4
  rfl
) (sNo_ok)
theorem n30a_0_0 (v : List AV × Int × Int × Int) : norm (loopAt F30 0).1 (h30a_0_0 v) = some (h30a_0_0 v) := by kernel_rfl
noncomputable def x30a_0_0 (x0 : List AV) (x1 : Int) (x2 : Int) (x3 : Int) : X × St := (X.ret,
  {
    tm :=
      [(4, AV.int IntKind.i64 x3), (17, AV.int IntKind.i64 x3),
        (16,
          AV.bool
            (gv
              (f35 (intOf (cellAt x0 x3 0)) (intOf (cellAt x0 x3 1)) (intOf (cellAt x0 x3 2)) (intOf (cellAt x0 x3 3)) (intOf (cellAt x0 x3 4)) (intOf (cellAt x0 x3 5))
                (strOf (cellAt x0 x3 6)) x1))),
        (15,
          AV.agg
            [AV.int IntKind.i64 (intOf (cellAt x0 x3 0)), AV.int IntKind.i64 (intOf (cellAt x0 x3 1)), AV.int IntKind.i64 (intOf (cellAt x0 x3 2)),
              AV.int IntKind.i64 (intOf (cellAt x0 x3 3)), AV.int IntKind.i64 (intOf (cellAt x0 x3 4)), AV.int IntKind.i64 (intOf (cellAt x0 x3 5)),
              AV.str (strOf (cellAt x0 x3 6))]),
        (14,
          AV.ptr
            [AV.int IntKind.i64 (intOf (cellAt x0 x3 0)), AV.int IntKind.i64 (intOf (cellAt x0 x3 1)), AV.int IntKind.i64 (intOf (cellAt x0 x3 2)),
              AV.int IntKind.i64 (intOf (cellAt x0 x3 3)), AV.int IntKind.i64 (intOf (cellAt x0 x3 4)), AV.int IntKind.i64 (intOf (cellAt x0 x3 5)),
              AV.str (strOf (cellAt x0 x3 6))]),
        (13, AV.int IntKind.i64 x3), (12, AV.view 7 x0), (11, AV.fn 35 [AV.ptr [AV.int IntKind.i64 x1]]), (5, AV.int IntKind.i64 x3), (10, AV.int IntKind.i64 x3),
        (9, AV.bool (decide (x3 < x2))), (1003000, AV.junk), (0, AV.view 7 x0), (1, AV.fn 35 [AV.ptr [AV.int IntKind.i64 x1]]), (7, AV.int IntKind.i64 x2),
        (8, AV.int IntKind.i64 x3)],
    hp := [], nx := 176, k := 0 })
noncomputable def x30a_0_1 (x0 : List AV) (x1 : Int) (x2 : Int) (x3 : Int) : X × St := (X.exit 0,
  {
    tm :=
      [(9, AV.bool (decide (x3 < x2))), (1003000, AV.junk), (0, AV.view 7 x0), (1, AV.fn 35 [AV.ptr [AV.int IntKind.i64 x1]]), (7, AV.int IntKind.i64 x2),
        (8, AV.int IntKind.i64 x3)],
    hp := [], nx := 16, k := 0 })
noncomputable def x30a_0 : Nat → TT30a_0 → X × St := fun j w => match j with
  | 0 => x30a_0_0 w.1 w.2.1 w.2.2.1 w.2.2.2
  | 1 => x30a_0_1 w.1 w.2.1 w.2.2.1 w.2.2.2
  | _ => (.ret, ⟨[], [], 0, 0⟩)
theorem e30a_0 : ∀ j v, outB (x30a_0 j v).1 = true := fun j v => match j with
  | 0 => rfl
  | 1 => rfl
  | _ + 2 => rfl
noncomputable def st30a_0_0 (x0 : List AV) (x1 : Int) (x2 : Int) (x3 : Int) : DT (Rd TT30a_0) :=
 .br (decide (x3 < x2))
  (.br (okAt [CS.int IntKind.i64, CS.int IntKind.i64, CS.int IntKind.i64, CS.int IntKind.i64, CS.int IntKind.i64, CS.int IntKind.i64, CS.str] x0 x3)
   (.bi (f35 (intOf (cellAt x0 x3 0)) (intOf (cellAt x0 x3 1)) (intOf (cellAt x0 x3 2)) (intOf (cellAt x0 x3 3)) (intOf (cellAt x0 x3 4)) (intOf (cellAt x0 x3 5)) (strOf (cellAt x0 x3 6))
       x1) (fun y0 =>
    .br (y0) (.at (.done 0)) (.at (.next ((x0, x1, x2, IntKind.i64.wrap (x3 + 1))))))
    (.no))
   (.no))
  (.at (.done 1))
noncomputable def st30a_0 : TT30a_0 → DT (Rd TT30a_0) := (fun v => st30a_0_0 v.1 v.2.1 v.2.2.1 v.2.2.2)
noncomputable def T30a_0 : Tab := [(29, cloneE 7 64), (35, g35 f35)]
theorem T30a_0_ok : TabOk IP (T30a_0) := ⟨sp29, s35, trivial⟩
noncomputable def L30a_0 : LTab := []
theorem L30a_0_ok : LOk IP (L30a_0) (loops (loopAt F30 0).2) := LOk_of (l := []) (by kernel_rfl) trivial
theorem b30a_0_0 (v : List AV × Int × Int × Int) : execK (R := Rx TT30a_0) IP (callT (T30a_0)) (loopT (L30a_0)) (loopAt F30 0).2 (h30a_0_0 v) (endK (loopAt F30 0).1 d30a_0) = (cvD (fun j => x30a_0 j v) (st30a_0_0 v.1 v.2.1 v.2.2.1 v.2.2.2)).ev := by kernel_rfl
noncomputable def l30a_0 (v : TT30a_0) : Option (Nat × TT30a_0) := lock (iterO (fun v => (st30a_0 v).ev) v)
theorem l30a_0_eq (v : TT30a_0) : l30a_0 v = iterO (fun v => (st30a_0 v).ev) v := lock_eq _
noncomputable def ll30a_0 : LEnt := lEnt d30a_0 (l30a_0) (x30a_0) 2
theorem t30a_0 : Go.Eng.Told IP (loopAt F30 0).1 (loopAt F30 0).2 (ll30a_0) := loop_of (st := st30a_0) (T30a_0_ok) (L30a_0_ok) d30a_0_ok (fun v => n30a_0_0 v) (e30a_0) (fun v => b30a_0_0 v) (l30a_0_eq)

-- f30a: 
abbrev A30a : Type := List AV × Int
abbrev B30a : Type := Int
def pa30a : PArgs := ⟨[.view 7, .fn 35 [.ptr [.int .i64]]], []⟩
def to30a (ls : List Lf) : Option A30a := eatL ls fun x0 ls => eatI ls fun x1 ls => eat0 ls (x0, x1)
def ea30a (v : A30a) : List AV × Heap := ([.view 7 v.1, .fn 35 [.ptr [.int .i64 v.2]]], [])
def er30a_0 (v : Int) : Res × Heap := (.ret (.int .i64 v), [])
def er30a : B30a → Res × Heap := er30a_0
def en30a : Option B30a → List (Bool × Res × Heap) := (E1 er30a_0)
def rd30a : Res → Heap → Option B30a := rDec ⟨false, .int .i64, []⟩ (fun ls => eatI ls fun x0 ls => eat0 ls x0) (rNo)
theorem to30a_ok : ∀ ls v, to30a ls = some v → fArgs pa30a ls = ea30a v := by
  intro ls v h0
  unfold to30a at h0
  obtain ⟨x0, ls0, rfl, h1⟩ := eatL_some h0
  obtain ⟨x1, ls1, rfl, h2⟩ := eatI_some h1
  obtain ⟨rfl, rfl⟩ := eat0_some h2
  rfl
theorem rd30a_ok : ∀ r h y, rd30a r h = some y → (r, h) = er30a y := rDec_ok (by
  intro ls v h0
  obtain ⟨x0, ls0, rfl, h1⟩ := eatI_some h0
  obtain ⟨rfl, rfl⟩ := eat0_some h1
  rfl
) (rNo_ok)
noncomputable def g30a (G : (List AV) → Int → Option B30a) : Ent := fEnt pa30a to30a (fun v => G v.1 v.2) en30a
theorem g30a_ok (G : (List AV) → Int → Option B30a) (hG : ∀ v y, G v.1 v.2 = some y → callO IP 30 (ea30a v).1 (ea30a v).2 = some (er30a y)) : Snd IP 30 (g30a G) := fEnt_ok to30a_ok E1_ok hG
noncomputable def tr30a (x0 : List AV) (x1 : Int) : DT B30a :=
 .bi (pj 0 (l30a_0 (x0, x1, (↑x0.length : Int), 0))) (fun y0 =>
  .at (y0.snd.snd.snd))
  (.bi (pj 1 (l30a_0 (x0, x1, (↑x0.length : Int), 0))) (fun y0 =>
   .at (-1))
   (.no))
noncomputable def T30a : Tab := [(29, cloneE 7 64)]
theorem T30a_ok : TabOk IP (T30a) := ⟨sp29, trivial⟩
noncomputable def L30a : LTab := [(1003000, ll30a_0)]
theorem L30a_ok : LOk IP (L30a) (loops F30.body) := LOk_of (l := [loopAt F30 0]) (by kernel_rfl) ⟨sel_one (by kernel_rfl) t30a_0, trivial⟩
theorem b30a (v : A30a) : bodyK (R := B30a) IP (callT (T30a)) (loopT (L30a)) 30 F30 (ea30a v).1 (ea30a v).2 rd30a = (tr30a v.1 v.2).ev := by kernel_rfl
/--  -/
noncomputable def f30a (x0 : List AV) (x1 : Int) : Option B30a := lock (tr30a x0 x1).ev
theorem f30a_eq (x0 : List AV) (x1 : Int) : f30a x0 x1 = (tr30a x0 x1).ev := lock_eq _
theorem c30a : ∀ v y, f30a v.1 v.2 = some y → callO IP 30 (ea30a v).1 (ea30a v).2 = some (er30a y) := fun v y h => fun_of T30a_ok (by kernel_rfl) L30a_ok rd30a_ok (b30a v) ((f30a_eq v.1 v.2).symm.trans h)
theorem s30a : Snd IP 30 (g30a f30a) := g30a_ok f30a c30a

-- f34: 
abbrev A34 : Type := List AV × Int
abbrev B34 : Type := Bool
def pa34 : PArgs := ⟨[.view 7, .fn 35 [.ptr [.int .i64]]], []⟩
def to34 (ls : List Lf) : Option A34 := eatL ls fun x0 ls => eatI ls fun x1 ls => eat0 ls (x0, x1)
def ea34 (v : A34) : List AV × Heap := ([.view 7 v.1, .fn 35 [.ptr [.int .i64 v.2]]], [])
def er34_0 (v : Bool) : Res × Heap := (.ret (.bool v), [])
def er34 : B34 → Res × Heap := er34_0
def en34 : Option B34 → List (Bool × Res × Heap) := (E1 er34_0)
def rd34 : Res → Heap → Option B34 := rDec ⟨false, .bool, []⟩ (fun ls => eatB ls fun x0 ls => eat0 ls x0) (rNo)
theorem to34_ok : ∀ ls v, to34 ls = some v → fArgs pa34 ls = ea34 v := by
  intro ls v h0
  unfold to34 at h0
  obtain ⟨x0, ls0, rfl, h1⟩ := eatL_some h0
  obtain ⟨x1, ls1, rfl, h2⟩ := eatI_some h1
  obtain ⟨rfl, rfl⟩ := eat0_some h2
  rfl
theorem rd34_ok : ∀ r h y, rd34 r h = some y → (r, h) = er34 y := rDec_ok (by
  intro ls v h0
  obtain ⟨x0, ls0, rfl, h1⟩ := eatB_some h0
  obtain ⟨rfl, rfl⟩ := eat0_some h1
  rfl
) (rNo_ok)
noncomputable def g34 (G : (List AV) → Int → Option B34) : Ent := fEnt pa34 to34 (fun v => G v.1 v.2) en34
theorem g34_ok (G : (List AV) → Int → Option B34) (hG : ∀ v y, G v.1 v.2 = some y → callO IP 34 (ea34 v).1 (ea34 v).2 = some (er34 y)) : Snd IP 34 (g34 G) := fEnt_ok to34_ok E1_ok hG
noncomputable def tr34 (x0 : List AV) (x1 : Int) : DT B34 :=
 .bi (f30a x0 x1) (fun y0 =>
  .at (decide (y0 ≥ 0)))
  (.no)
noncomputable def T34 : Tab := [(29, cloneE 7 64), (30, g30a f30a)]
theorem T34_ok : TabOk IP (T34) := ⟨sp29, s30a, trivial⟩
noncomputable def L34 : LTab := []
theorem L34_ok : LOk IP (L34) (loops F34.body) := LOk_of (l := []) (by kernel_rfl) trivial
theorem b34 (v : A34) : bodyK (R := B34) IP (callT (T34)) (loopT (L34)) 34 F34 (ea34 v).1 (ea34 v).2 rd34 = (tr34 v.1 v.2).ev := by kernel_rfl
/--  -/
noncomputable def f34 (x0 : List AV) (x1 : Int) : Option B34 := lock (tr34 x0 x1).ev
theorem f34_eq (x0 : List AV) (x1 : Int) : f34 x0 x1 = (tr34 x0 x1).ev := lock_eq _
theorem c34 : ∀ v y, f34 v.1 v.2 = some y → callO IP 34 (ea34 v).1 (ea34 v).2 = some (er34 y) := fun v y h => fun_of T34_ok (by kernel_rfl) L34_ok rd34_ok (b34 v) ((f34_eq v.1 v.2).symm.trans h)
theorem s34 : Snd IP 34 (g34 f34) := g34_ok f34 c34

-- f20: 
abbrev A20 : Type := List AV × Int × Int × Int
abbrev B20 : Type := Bool
def pa20 : PArgs := ⟨[.view 7, .int .i64, .int .i64, .int .i64], []⟩
def to20 (ls : List Lf) : Option A20 := eatL ls fun x0 ls => eatI ls fun x1 ls => eatI ls fun x2 ls => eatI ls fun x3 ls => eat0 ls (x0, x1, x2, x3)
def ea20 (v : A20) : List AV × Heap := ([.view 7 v.1, .int .i64 v.2.1, .int .i64 v.2.2.1, .int .i64 v.2.2.2], [])
def er20_0 (v : Bool) : Res × Heap := (.ret (.bool v), [])
def er20 : B20 → Res × Heap := er20_0
def en20 : Option B20 → List (Bool × Res × Heap) := (E1 er20_0)
def rd20 : Res → Heap → Option B20 := rDec ⟨false, .bool, []⟩ (fun ls => eatB ls fun x0 ls => eat0 ls x0) (rNo)
theorem to20_ok : ∀ ls v, to20 ls = some v → fArgs pa20 ls = ea20 v := by
  intro ls v h0
  unfold to20 at h0
  obtain ⟨x0, ls0, rfl, h1⟩ := eatL_some h0
  obtain ⟨x1, ls1, rfl, h2⟩ := eatI_some h1
  obtain ⟨x2, ls2, rfl, h3⟩ := eatI_some h2
  obtain ⟨x3, ls3, rfl, h4⟩ := eatI_some h3
  obtain ⟨rfl, rfl⟩ := eat0_some h4
  rfl
theorem rd20_ok : ∀ r h y, rd20 r h = some y → (r, h) = er20 y := rDec_ok (by
  intro ls v h0
  obtain ⟨x0, ls0, rfl, h1⟩ := eatB_some h0
  obtain ⟨rfl, rfl⟩ := eat0_some h1
  rfl
) (rNo_ok)
noncomputable def g20 (G : (List AV) → Int → Int → Int → Option B20) : Ent := fEnt pa20 to20 (fun v => G v.1 v.2.1 v.2.2.1 v.2.2.2) en20
theorem g20_ok (G : (List AV) → Int → Int → Int → Option B20) (hG : ∀ v y, G v.1 v.2.1 v.2.2.1 v.2.2.2 = some y → callO IP 20 (ea20 v).1 (ea20 v).2 = some (er20 y)) : Snd IP 20 (g20 G) := fEnt_ok to20_ok E1_ok hG
noncomputable def tr20 (x0 : List AV) (x1 : Int) (x2 : Int) (x3 : Int) : DT B20 :=
 .bi (f18 x0 x1 x2) (fun y0 =>
  .bi (f34 y0 x3) (fun y1 =>
   .at (y1))
   (.no))
  (.no)
noncomputable def T20 : Tab := [(29, cloneE 7 64), (18, g18 f18), (34, g34 f34)]
theorem T20_ok : TabOk IP (T20) := ⟨sp29, s18, s34, trivial⟩
noncomputable def L20 : LTab := []
theorem L20_ok : LOk IP (L20) (loops F20.body) := LOk_of (l := []) (by kernel_rfl) trivial
theorem b20 (v : A20) : bodyK (R := B20) IP (callT (T20)) (loopT (L20)) 20 F20 (ea20 v).1 (ea20 v).2 rd20 = (tr20 v.1 v.2.1 v.2.2.1 v.2.2.2).ev := by kernel_rfl
/--  -/
noncomputable def f20 (x0 : List AV) (x1 : Int) (x2 : Int) (x3 : Int) : Option B20 := lock (tr20 x0 x1 x2 x3).ev
theorem f20_eq (x0 : List AV) (x1 : Int) (x2 : Int) (x3 : Int) : f20 x0 x1 x2 x3 = (tr20 x0 x1 x2 x3).ev := lock_eq _
theorem c20 : ∀ v y, f20 v.1 v.2.1 v.2.2.1 v.2.2.2 = some y → callO IP 20 (ea20 v).1 (ea20 v).2 = some (er20 y) := fun v y h => fun_of T20_ok (by kernel_rfl) L20_ok rd20_ok (b20 v) ((f20_eq v.1 v.2.1 v.2.2.1 v.2.2.2).symm.trans h)
theorem s20 : Snd IP 20 (g20 f20) := g20_ok f20 c20

-- l21_0: loop 0 of function 21
abbrev TT21_0 : Type := Int × List AV × Int
def h21_0_0 (v : Int × List AV × Int) : St := ⟨[(1002100, .junk), (3, .int .i64 v.1), (9, .view 7 v.2.1), (10, .int .i64 v.2.2)], [], 0, 0⟩
def h21_0 : TT21_0 → St := (fun v => h21_0_0 v)
def d21_0 : St → Option TT21_0 := sDec ⟨[(1002100, .junk), (3, .int .i64), (9, .view 7), (10, .int .i64)], [], 0, 0⟩ (fun ls => eatI ls fun x0 ls => eatL ls fun x1 ls => eatI ls fun x2 ls => eat0 ls (x0, x1, x2)) (sNo)
theorem d21_0_ok : ∀ s v, d21_0 s = some v → s = h21_0 v := sDec_ok (by
  intro ls v h0
  obtain ⟨x0, ls0, rfl, h1⟩ := eatI_some h0
  obtain ⟨x1, ls1, rfl, h2⟩ := eatL_some h1
  obtain ⟨x2, ls2, rfl, h3⟩ := eatI_some h2
  obtain ⟨rfl, rfl⟩ := eat0_some h3
  rfl
) (sNo_ok)
theorem n21_0_0 (v : Int × List AV × Int) : norm (loopAt F21 0).1 (h21_0_0 v) = some (h21_0_0 v) := by kernel_rfl
noncomputable def x21_0_0 (x0 : Int) (x1 : List AV) (x2 : Int) : X × St := (X.ret,
  {
    tm :=
      [(8, AV.bool true),
        (50,
          AV.bool
            (gv
              (br
                (gv
                  (br (intOf (cellAt x1 x2 2) == 1) (some true)
                    (br (okAt [CS.int IntKind.i64, CS.int IntKind.i64, CS.int IntKind.i64, CS.int IntKind.i64, CS.int IntKind.i64, CS.int IntKind.i64, CS.str] x1 x2)
                      (br (intOf (cellAt x1 x2 2) == 2) (some (decide (x0 > 0))) (some false)) none)))
                (some true)
                (br (okAt [CS.int IntKind.i64, CS.int IntKind.i64, CS.int IntKind.i64, CS.int IntKind.i64, CS.int IntKind.i64, CS.int IntKind.i64, CS.str] x1 x2)
                  (br (intOf (cellAt x1 x2 2) == 3) (some (decide (x0 < 0))) (some false)) none)))),
        (39,
          AV.bool
            (gv
              (br (intOf (cellAt x1 x2 2) == 1) (some true)
                (br (okAt [CS.int IntKind.i64, CS.int IntKind.i64, CS.int IntKind.i64, CS.int IntKind.i64, CS.int IntKind.i64, CS.int IntKind.i64, CS.str] x1 x2)
                  (br (intOf (cellAt x1 x2 2) == 2) (some (decide (x0 > 0))) (some false)) none)))),
        (38,
          AV.bool
            (gv
              (br (intOf (cellAt x1 x2 2) == 1) (some true)
                (br (okAt [CS.int IntKind.i64, CS.int IntKind.i64, CS.int IntKind.i64, CS.int IntKind.i64, CS.int IntKind.i64, CS.int IntKind.i64, CS.str] x1 x2)
                  (br (intOf (cellAt x1 x2 2) == 2) (some (decide (x0 > 0))) (some false)) none)))),
        (27, AV.bool (intOf (cellAt x1 x2 2) == 1)), (26, AV.bool (intOf (cellAt x1 x2 2) == 1)), (25, AV.int IntKind.i64 (intOf (cellAt x1 x2 2))),
        (24,
          AV.ptr
            [AV.int IntKind.i64 (intOf (cellAt x1 x2 2)), AV.int IntKind.i64 (intOf (cellAt x1 x2 3)), AV.int IntKind.i64 (intOf (cellAt x1 x2 4)),
              AV.int IntKind.i64 (intOf (cellAt x1 x2 5)), AV.str (strOf (cellAt x1 x2 6))]),
        (23,
          AV.ptr
            [AV.int IntKind.i64 (intOf (cellAt x1 x2 0)), AV.int IntKind.i64 (intOf (cellAt x1 x2 1)), AV.int IntKind.i64 (intOf (cellAt x1 x2 2)),
              AV.int IntKind.i64 (intOf (cellAt x1 x2 3)), AV.int IntKind.i64 (intOf (cellAt x1 x2 4)), AV.int IntKind.i64 (intOf (cellAt x1 x2 5)),
              AV.str (strOf (cellAt x1 x2 6))]),
        (22, AV.int IntKind.i64 x2), (21, AV.view 7 x1), (18, AV.bool (decide (x2 < (↑x1.length : Int)))), (17, AV.int IntKind.i64 (↑x1.length : Int)), (16, AV.view 7 x1),
        (15, AV.int IntKind.i64 x2), (1002100, AV.junk), (3, AV.int IntKind.i64 x0), (9, AV.view 7 x1), (10, AV.int IntKind.i64 x2)],
    hp := [], nx := 560, k := 0 })
noncomputable def x21_0_1 (x0 : Int) (x1 : List AV) (x2 : Int) : X × St := (X.exit 0,
  {
    tm :=
      [(18, AV.bool (decide (x2 < (↑x1.length : Int)))), (17, AV.int IntKind.i64 (↑x1.length : Int)), (16, AV.view 7 x1), (15, AV.int IntKind.i64 x2), (1002100, AV.junk),
        (3, AV.int IntKind.i64 x0), (9, AV.view 7 x1), (10, AV.int IntKind.i64 x2)],
    hp := [], nx := 64, k := 0 })
noncomputable def x21_0 : Nat → TT21_0 → X × St := fun j w => match j with
  | 0 => x21_0_0 w.1 w.2.1 w.2.2
  | 1 => x21_0_1 w.1 w.2.1 w.2.2
  | _ => (.ret, ⟨[], [], 0, 0⟩)
theorem e21_0 : ∀ j v, outB (x21_0 j v).1 = true := fun j v => match j with
  | 0 => rfl
  | 1 => rfl
  | _ + 2 => rfl
noncomputable def st21_0_0 (x0 : Int) (x1 : List AV) (x2 : Int) : DT (Rd TT21_0) :=
 .br (decide (x2 < (↑x1.length : Int)))
  (.br (okAt [CS.int IntKind.i64, CS.int IntKind.i64, CS.int IntKind.i64, CS.int IntKind.i64, CS.int IntKind.i64, CS.int IntKind.i64, CS.str] x1 x2)
   (.bi (br (intOf (cellAt x1 x2 2) == 1) (some true)
       (br (okAt [CS.int IntKind.i64, CS.int IntKind.i64, CS.int IntKind.i64, CS.int IntKind.i64, CS.int IntKind.i64, CS.int IntKind.i64, CS.str] x1 x2)
         (br (intOf (cellAt x1 x2 2) == 2) (some (decide (x0 > 0))) (some false)) none)) (fun y0 =>
    .bi (br y0 (some true)
        (br (okAt [CS.int IntKind.i64, CS.int IntKind.i64, CS.int IntKind.i64, CS.int IntKind.i64, CS.int IntKind.i64, CS.int IntKind.i64, CS.str] x1 x2)
          (br (intOf (cellAt x1 x2 2) == 3) (some (decide (x0 < 0))) (some false)) none)) (fun y1 =>
     .br (y1) (.at (.done 0)) (.at (.next ((x0, x1, IntKind.i64.wrap (x2 + 1))))))
     (.no))
    (.no))
   (.no))
  (.at (.done 1))
noncomputable def st21_0 : TT21_0 → DT (Rd TT21_0) := (fun v => st21_0_0 v.1 v.2.1 v.2.2)
noncomputable def T21_0 : Tab := [(29, cloneE 7 64)]
theorem T21_0_ok : TabOk IP (T21_0) := ⟨sp29, trivial⟩
noncomputable def L21_0 : LTab := []
theorem L21_0_ok : LOk IP (L21_0) (loops (loopAt F21 0).2) := LOk_of (l := []) (by kernel_rfl) trivial
theorem b21_0_0 (v : Int × List AV × Int) : execK (R := Rx TT21_0) IP (callT (T21_0)) (loopT (L21_0)) (loopAt F21 0).2 (h21_0_0 v) (endK (loopAt F21 0).1 d21_0) = (cvD (fun j => x21_0 j v) (st21_0_0 v.1 v.2.1 v.2.2)).ev := by kernel_rfl
noncomputable def l21_0 (v : TT21_0) : Option (Nat × TT21_0) := lock (iterO (fun v => (st21_0 v).ev) v)
theorem l21_0_eq (v : TT21_0) : l21_0 v = iterO (fun v => (st21_0 v).ev) v := lock_eq _
noncomputable def ll21_0 : LEnt := lEnt d21_0 (l21_0) (x21_0) 2
theorem t21_0 : Go.Eng.Told IP (loopAt F21 0).1 (loopAt F21 0).2 (ll21_0) := loop_of (st := st21_0) (T21_0_ok) (L21_0_ok) d21_0_ok (fun v => n21_0_0 v) (e21_0) (fun v => b21_0_0 v) (l21_0_eq)

-- f21: 
abbrev A21 : Type := List AV × Int × Int × Int
abbrev B21 : Type := Bool
def pa21 : PArgs := ⟨[.view 7, .int .i64, .int .i64, .int .i64], []⟩
def to21 (ls : List Lf) : Option A21 := eatL ls fun x0 ls => eatI ls fun x1 ls => eatI ls fun x2 ls => eatI ls fun x3 ls => eat0 ls (x0, x1, x2, x3)
def ea21 (v : A21) : List AV × Heap := ([.view 7 v.1, .int .i64 v.2.1, .int .i64 v.2.2.1, .int .i64 v.2.2.2], [])
def er21_0 (v : Bool) : Res × Heap := (.ret (.bool v), [])
def er21 : B21 → Res × Heap := er21_0
def en21 : Option B21 → List (Bool × Res × Heap) := (E1 er21_0)
def rd21 : Res → Heap → Option B21 := rDec ⟨false, .bool, []⟩ (fun ls => eatB ls fun x0 ls => eat0 ls x0) (rNo)
theorem to21_ok : ∀ ls v, to21 ls = some v → fArgs pa21 ls = ea21 v := by
  intro ls v h0
  unfold to21 at h0
  obtain ⟨x0, ls0, rfl, h1⟩ := eatL_some h0
  obtain ⟨x1, ls1, rfl, h2⟩ := eatI_some h1
  obtain ⟨x2, ls2, rfl, h3⟩ := eatI_some h2
  obtain ⟨x3, ls3, rfl, h4⟩ := eatI_some h3
  obtain ⟨rfl, rfl⟩ := eat0_some h4
  rfl
theorem rd21_ok : ∀ r h y, rd21 r h = some y → (r, h) = er21 y := rDec_ok (by
  intro ls v h0
  obtain ⟨x0, ls0, rfl, h1⟩ := eatB_some h0
  obtain ⟨rfl, rfl⟩ := eat0_some h1
  rfl
) (rNo_ok)
noncomputable def g21 (G : (List AV) → Int → Int → Int → Option B21) : Ent := fEnt pa21 to21 (fun v => G v.1 v.2.1 v.2.2.1 v.2.2.2) en21
theorem g21_ok (G : (List AV) → Int → Int → Int → Option B21) (hG : ∀ v y, G v.1 v.2.1 v.2.2.1 v.2.2.2 = some y → callO IP 21 (ea21 v).1 (ea21 v).2 = some (er21 y)) : Snd IP 21 (g21 G) := fEnt_ok to21_ok E1_ok hG
noncomputable def tr21 (x0 : List AV) (x1 : Int) (x2 : Int) (x3 : Int) : DT B21 :=
 .bi (f19 x0 x1 x2) (fun y0 =>
  .bi (pj 0 (l21_0 (x3, y0, 0))) (fun y1 =>
   .at (true))
   (.bi (pj 1 (l21_0 (x3, y0, 0))) (fun y1 =>
    .at (false))
    (.no)))
  (.no)
noncomputable def T21 : Tab := [(29, cloneE 7 64), (19, g19 f19)]
theorem T21_ok : TabOk IP (T21) := ⟨sp29, s19, trivial⟩
noncomputable def L21 : LTab := [(1002100, ll21_0)]
theorem L21_ok : LOk IP (L21) (loops F21.body) := LOk_of (l := [loopAt F21 0]) (by kernel_rfl) ⟨sel_one (by kernel_rfl) t21_0, trivial⟩
theorem b21 (v : A21) : bodyK (R := B21) IP (callT (T21)) (loopT (L21)) 21 F21 (ea21 v).1 (ea21 v).2 rd21 = (tr21 v.1 v.2.1 v.2.2.1 v.2.2.2).ev := by kernel_rfl
/--  -/
noncomputable def f21 (x0 : List AV) (x1 : Int) (x2 : Int) (x3 : Int) : Option B21 := lock (tr21 x0 x1 x2 x3).ev
theorem f21_eq (x0 : List AV) (x1 : Int) (x2 : Int) (x3 : Int) : f21 x0 x1 x2 x3 = (tr21 x0 x1 x2 x3).ev := lock_eq _
theorem c21 : ∀ v y, f21 v.1 v.2.1 v.2.2.1 v.2.2.2 = some y → callO IP 21 (ea21 v).1 (ea21 v).2 = some (er21 y) := fun v y h => fun_of T21_ok (by kernel_rfl) L21_ok rd21_ok (b21 v) ((f21_eq v.1 v.2.1 v.2.2.1 v.2.2.2).symm.trans h)
theorem s21 : Snd IP 21 (g21 f21) := g21_ok f21 c21

-- l22_0: loop 0 of function 22
abbrev TT22_0 : Type := Int × List AV × Int × Int
def h22_0_0 (v : Int × List AV × Int × Int) : St := ⟨[(1002200, .junk), (7, .int .i64 v.1), (15, .view 7 v.2.1), (16, .int .i64 v.2.2.1), (17, .int .i64 v.2.2.2)], [], 0, 0⟩
def h22_0 : TT22_0 → St := (fun v => h22_0_0 v)
def d22_0 : St → Option TT22_0 := sDec ⟨[(1002200, .junk), (7, .int .i64), (15, .view 7), (16, .int .i64), (17, .int .i64)], [], 0, 0⟩ (fun ls => eatI ls fun x0 ls => eatL ls fun x1 ls => eatI ls fun x2 ls => eatI ls fun x3 ls => eat0 ls (x0, x1, x2, x3)) (sNo)
theorem d22_0_ok : ∀ s v, d22_0 s = some v → s = h22_0 v := sDec_ok (by
  intro ls v h0
  obtain ⟨x0, ls0, rfl, h1⟩ := eatI_some h0
  obtain ⟨x1, ls1, rfl, h2⟩ := eatL_some h1
  obtain ⟨x2, ls2, rfl, h3⟩ := eatI_some h2
  obtain ⟨x3, ls3, rfl, h4⟩ := eatI_some h3
  obtain ⟨rfl, rfl⟩ := eat0_some h4
  rfl
) (sNo_ok)
theorem n22_0_0 (v : Int × List AV × Int × Int) : norm (loopAt F22 0).1 (h22_0_0 v) = some (h22_0_0 v) := by kernel_rfl
noncomputable def x22_0_0 (x0 : Int) (x1 : List AV) (x2 : Int) (x3 : Int) : X × St := (X.exit 0,
  { tm := [(18, AV.bool (decide (x3 < x2))), (1002200, AV.junk), (7, AV.int IntKind.i64 x0), (15, AV.view 7 x1), (16, AV.int IntKind.i64 x2), (17, AV.int IntKind.i64 x3)],
    hp := [], nx := 16, k := 0 })
noncomputable def x22_0 : Nat → TT22_0 → X × St := fun j w => match j with
  | 0 => x22_0_0 w.1 w.2.1 w.2.2.1 w.2.2.2
  | _ => (.ret, ⟨[], [], 0, 0⟩)
theorem e22_0 : ∀ j v, outB (x22_0 j v).1 = true := fun j v => match j with
  | 0 => rfl
  | _ + 1 => rfl
noncomputable def st22_0_0 (x0 : Int) (x1 : List AV) (x2 : Int) (x3 : Int) : DT (Rd TT22_0) :=
 .br (decide (x3 < x2))
  (.br (okAt [CS.int IntKind.i64, CS.int IntKind.i64, CS.int IntKind.i64, CS.int IntKind.i64, CS.int IntKind.i64, CS.int IntKind.i64, CS.str] x1 x3)
   (.bi (pl
       (f37 (intOf (cellAt x1 x3 0)) (intOf (cellAt x1 x3 1)) (intOf (cellAt x1 x3 2)) (intOf (cellAt x1 x3 3)) (intOf (cellAt x1 x3 4)) (intOf (cellAt x1 x3 5))
         (strOf (cellAt x1 x3 6)))) (fun y0 =>
    .at (.next ((x0, x1, x2, IntKind.i64.wrap (x3 + 1)))))
    (.bi (pl
        (pr
          (f37 (intOf (cellAt x1 x3 0)) (intOf (cellAt x1 x3 1)) (intOf (cellAt x1 x3 2)) (intOf (cellAt x1 x3 3)) (intOf (cellAt x1 x3 4)) (intOf (cellAt x1 x3 5))
            (strOf (cellAt x1 x3 6))))) (fun y0 =>
     .at (.next ((x0, x1, x2, IntKind.i64.wrap (x3 + 1)))))
     (.bi (pl
         (pr
           (pr
             (f37 (intOf (cellAt x1 x3 0)) (intOf (cellAt x1 x3 1)) (intOf (cellAt x1 x3 2)) (intOf (cellAt x1 x3 3)) (intOf (cellAt x1 x3 4)) (intOf (cellAt x1 x3 5))
               (strOf (cellAt x1 x3 6)))))) (fun y0 =>
      .at (.next ((x0, x1, x2, IntKind.i64.wrap (x3 + 1)))))
      (.bi (pl
          (pr
            (pr
              (pr
                (f37 (intOf (cellAt x1 x3 0)) (intOf (cellAt x1 x3 1)) (intOf (cellAt x1 x3 2)) (intOf (cellAt x1 x3 3)) (intOf (cellAt x1 x3 4)) (intOf (cellAt x1 x3 5))
                  (strOf (cellAt x1 x3 6))))))) (fun y0 =>
       .at (.next ((IntKind.i64.wrap (x0 + y0), x1, x2, IntKind.i64.wrap (x3 + 1)))))
       (.bi (pr
           (pr
             (pr
               (pr
                 (f37 (intOf (cellAt x1 x3 0)) (intOf (cellAt x1 x3 1)) (intOf (cellAt x1 x3 2)) (intOf (cellAt x1 x3 3)) (intOf (cellAt x1 x3 4)) (intOf (cellAt x1 x3 5))
                   (strOf (cellAt x1 x3 6))))))) (fun y0 =>
        .at (.next ((x0, x1, x2, IntKind.i64.wrap (x3 + 1)))))
        (.no))))))
   (.no))
  (.at (.done 0))
noncomputable def st22_0 : TT22_0 → DT (Rd TT22_0) := (fun v => st22_0_0 v.1 v.2.1 v.2.2.1 v.2.2.2)
noncomputable def T22_0 : Tab := [(29, cloneE 7 64), (37, g37 f37)]
theorem T22_0_ok : TabOk IP (T22_0) := ⟨sp29, s37, trivial⟩
noncomputable def L22_0 : LTab := []
theorem L22_0_ok : LOk IP (L22_0) (loops (loopAt F22 0).2) := LOk_of (l := []) (by kernel_rfl) trivial
theorem b22_0_0 (v : Int × List AV × Int × Int) : execK (R := Rx TT22_0) IP (callT (T22_0)) (loopT (L22_0)) (loopAt F22 0).2 (h22_0_0 v) (endK (loopAt F22 0).1 d22_0) = (cvD (fun j => x22_0 j v) (st22_0_0 v.1 v.2.1 v.2.2.1 v.2.2.2)).ev := by kernel_rfl
noncomputable def l22_0 (v : TT22_0) : Option (Nat × TT22_0) := lock (iterO (fun v => (st22_0 v).ev) v)
theorem l22_0_eq (v : TT22_0) : l22_0 v = iterO (fun v => (st22_0 v).ev) v := lock_eq _
noncomputable def ll22_0 : LEnt := lEnt d22_0 (l22_0) (x22_0) 1
theorem t22_0 : Go.Eng.Told IP (loopAt F22 0).1 (loopAt F22 0).2 (ll22_0) := loop_of (st := st22_0) (T22_0_ok) (L22_0_ok) d22_0_ok (fun v => n22_0_0 v) (e22_0) (fun v => b22_0_0 v) (l22_0_eq)

-- f22: 
abbrev A22 : Type := List AV × Int × Int
abbrev B22 : Type := Int
def pa22 : PArgs := ⟨[.view 7, .int .i64, .int .i64], []⟩
def to22 (ls : List Lf) : Option A22 := eatL ls fun x0 ls => eatI ls fun x1 ls => eatI ls fun x2 ls => eat0 ls (x0, x1, x2)
def ea22 (v : A22) : List AV × Heap := ([.view 7 v.1, .int .i64 v.2.1, .int .i64 v.2.2], [])
def er22_0 (v : Int) : Res × Heap := (.ret (.int .i64 v), [])
def er22 : B22 → Res × Heap := er22_0
def en22 : Option B22 → List (Bool × Res × Heap) := (E1 er22_0)
def rd22 : Res → Heap → Option B22 := rDec ⟨false, .int .i64, []⟩ (fun ls => eatI ls fun x0 ls => eat0 ls x0) (rNo)
theorem to22_ok : ∀ ls v, to22 ls = some v → fArgs pa22 ls = ea22 v := by
  intro ls v h0
  unfold to22 at h0
  obtain ⟨x0, ls0, rfl, h1⟩ := eatL_some h0
  obtain ⟨x1, ls1, rfl, h2⟩ := eatI_some h1
  obtain ⟨x2, ls2, rfl, h3⟩ := eatI_some h2
  obtain ⟨rfl, rfl⟩ := eat0_some h3
  rfl
theorem rd22_ok : ∀ r h y, rd22 r h = some y → (r, h) = er22 y := rDec_ok (by
  intro ls v h0
  obtain ⟨x0, ls0, rfl, h1⟩ := eatI_some h0
  obtain ⟨rfl, rfl⟩ := eat0_some h1
  rfl
) (rNo_ok)
noncomputable def g22 (G : (List AV) → Int → Int → Option B22) : Ent := fEnt pa22 to22 (fun v => G v.1 v.2.1 v.2.2) en22
theorem g22_ok (G : (List AV) → Int → Int → Option B22) (hG : ∀ v y, G v.1 v.2.1 v.2.2 = some y → callO IP 22 (ea22 v).1 (ea22 v).2 = some (er22 y)) : Snd IP 22 (g22 G) := fEnt_ok to22_ok E1_ok hG
noncomputable def tr22 (x0 : List AV) (x1 : Int) (x2 : Int) : DT B22 :=
 .bi (f18 x0 x1 x2) (fun y0 =>
  .bi (pj 0 (l22_0 (0, y0, (↑y0.length : Int), 0))) (fun y1 =>
   .at (y1.fst))
   (.no))
  (.no)
noncomputable def T22 : Tab := [(29, cloneE 7 64), (18, g18 f18)]
theorem T22_ok : TabOk IP (T22) := ⟨sp29, s18, trivial⟩
noncomputable def L22 : LTab := [(1002200, ll22_0)]
theorem L22_ok : LOk IP (L22) (loops F22.body) := LOk_of (l := [loopAt F22 0]) (by kernel_rfl) ⟨sel_one (by kernel_rfl) t22_0, trivial⟩
theorem b22 (v : A22) : bodyK (R := B22) IP (callT (T22)) (loopT (L22)) 22 F22 (ea22 v).1 (ea22 v).2 rd22 = (tr22 v.1 v.2.1 v.2.2).ev := by kernel_rfl
/--  -/
noncomputable def f22 (x0 : List AV) (x1 : Int) (x2 : Int) : Option B22 := lock (tr22 x0 x1 x2).ev
theorem f22_eq (x0 : List AV) (x1 : Int) (x2 : Int) : f22 x0 x1 x2 = (tr22 x0 x1 x2).ev := lock_eq _
theorem c22 : ∀ v y, f22 v.1 v.2.1 v.2.2 = some y → callO IP 22 (ea22 v).1 (ea22 v).2 = some (er22 y) := fun v y h => fun_of T22_ok (by kernel_rfl) L22_ok rd22_ok (b22 v) ((f22_eq v.1 v.2.1 v.2.2).symm.trans h)
theorem s22 : Snd IP 22 (g22 f22) := g22_ok f22 c22

-- l23_0: loop 0 of function 23
abbrev TT23_0 : Type := List AV × Int × Int
def h23_0_0 (v : List AV × Int × Int) : St := ⟨[(1002300, .junk), (7, .view 7 v.1), (8, .int .i64 v.2.1), (9, .int .i64 v.2.2)], [], 0, 0⟩
def h23_0 : TT23_0 → St := (fun v => h23_0_0 v)
def d23_0 : St → Option TT23_0 := sDec ⟨[(1002300, .junk), (7, .view 7), (8, .int .i64), (9, .int .i64)], [], 0, 0⟩ (fun ls => eatL ls fun x0 ls => eatI ls fun x1 ls => eatI ls fun x2 ls => eat0 ls (x0, x1, x2)) (sNo)
theorem d23_0_ok : ∀ s v, d23_0 s = some v → s = h23_0 v := sDec_ok (by
  intro ls v h0
  obtain ⟨x0, ls0, rfl, h1⟩ := eatL_some h0
  obtain ⟨x1, ls1, rfl, h2⟩ := eatI_some h1
  obtain ⟨x2, ls2, rfl, h3⟩ := eatI_some h2
  obtain ⟨rfl, rfl⟩ := eat0_some h3
  rfl
) (sNo_ok)
theorem n23_0_0 (v : List AV × Int × Int) : norm (loopAt F23 0).1 (h23_0_0 v) = some (h23_0_0 v) := by kernel_rfl
noncomputable def x23_0_0 (x0 : List AV) (x1 : Int) (x2 : Int) : X × St := (X.exit 0,
  {
    tm :=
      [(17, AV.bool (decide (x2 < (↑x0.length : Int)))), (16, AV.int IntKind.i64 (↑x0.length : Int)), (15, AV.view 7 x0), (14, AV.int IntKind.i64 x2), (1002300, AV.junk),
        (7, AV.view 7 x0), (8, AV.int IntKind.i64 x1), (9, AV.int IntKind.i64 x2)],
    hp := [], nx := 64, k := 0 })
noncomputable def x23_0 : Nat → TT23_0 → X × St := fun j w => match j with
  | 0 => x23_0_0 w.1 w.2.1 w.2.2
  | _ => (.ret, ⟨[], [], 0, 0⟩)
theorem e23_0 : ∀ j v, outB (x23_0 j v).1 = true := fun j v => match j with
  | 0 => rfl
  | _ + 1 => rfl
noncomputable def st23_0_0 (x0 : List AV) (x1 : Int) (x2 : Int) : DT (Rd TT23_0) :=
 .br (decide (x2 < (↑x0.length : Int)))
  (.br (okAt [CS.int IntKind.i64, CS.int IntKind.i64, CS.int IntKind.i64, CS.int IntKind.i64, CS.int IntKind.i64, CS.int IntKind.i64, CS.str] x0 x2)
   (.br (intOf (cellAt x0 x2 2) == 4)
    (.br (okAt [CS.int IntKind.i64, CS.int IntKind.i64, CS.int IntKind.i64, CS.int IntKind.i64, CS.int IntKind.i64, CS.int IntKind.i64, CS.str] x0 x2)
     (.at (.next ((x0, IntKind.i64.wrap (x1 + intOf (cellAt x0 x2 3)), IntKind.i64.wrap (x2 + 1)))))
     (.no))
    (.at (.next ((x0, x1, IntKind.i64.wrap (x2 + 1))))))
   (.no))
  (.at (.done 0))
noncomputable def st23_0 : TT23_0 → DT (Rd TT23_0) := (fun v => st23_0_0 v.1 v.2.1 v.2.2)
noncomputable def T23_0 : Tab := [(29, cloneE 7 64)]
theorem T23_0_ok : TabOk IP (T23_0) := ⟨sp29, trivial⟩
noncomputable def L23_0 : LTab := []
theorem L23_0_ok : LOk IP (L23_0) (loops (loopAt F23 0).2) := LOk_of (l := []) (by kernel_rfl) trivial
theorem b23_0_0 (v : List AV × Int × Int) : execK (R := Rx TT23_0) IP (callT (T23_0)) (loopT (L23_0)) (loopAt F23 0).2 (h23_0_0 v) (endK (loopAt F23 0).1 d23_0) = (cvD (fun j => x23_0 j v) (st23_0_0 v.1 v.2.1 v.2.2)).ev := by kernel_rfl
noncomputable def l23_0 (v : TT23_0) : Option (Nat × TT23_0) := lock (iterO (fun v => (st23_0 v).ev) v)
theorem l23_0_eq (v : TT23_0) : l23_0 v = iterO (fun v => (st23_0 v).ev) v := lock_eq _
noncomputable def ll23_0 : LEnt := lEnt d23_0 (l23_0) (x23_0) 1
theorem t23_0 : Go.Eng.Told IP (loopAt F23 0).1 (loopAt F23 0).2 (ll23_0) := loop_of (st := st23_0) (T23_0_ok) (L23_0_ok) d23_0_ok (fun v => n23_0_0 v) (e23_0) (fun v => b23_0_0 v) (l23_0_eq)

-- f23: 
abbrev A23 : Type := List AV × Int × Int
abbrev B23 : Type := Int
def pa23 : PArgs := ⟨[.view 7, .int .i64, .int .i64], []⟩
def to23 (ls : List Lf) : Option A23 := eatL ls fun x0 ls => eatI ls fun x1 ls => eatI ls fun x2 ls => eat0 ls (x0, x1, x2)
def ea23 (v : A23) : List AV × Heap := ([.view 7 v.1, .int .i64 v.2.1, .int .i64 v.2.2], [])
def er23_0 (v : Int) : Res × Heap := (.ret (.int .i64 v), [])
def er23 : B23 → Res × Heap := er23_0
def en23 : Option B23 → List (Bool × Res × Heap) := (E1 er23_0)
def rd23 : Res → Heap → Option B23 := rDec ⟨false, .int .i64, []⟩ (fun ls => eatI ls fun x0 ls => eat0 ls x0) (rNo)
theorem to23_ok : ∀ ls v, to23 ls = some v → fArgs pa23 ls = ea23 v := by
  intro ls v h0
  unfold to23 at h0
  obtain ⟨x0, ls0, rfl, h1⟩ := eatL_some h0
  obtain ⟨x1, ls1, rfl, h2⟩ := eatI_some h1
  obtain ⟨x2, ls2, rfl, h3⟩ := eatI_some h2
  obtain ⟨rfl, rfl⟩ := eat0_some h3
  rfl
theorem rd23_ok : ∀ r h y, rd23 r h = some y → (r, h) = er23 y := rDec_ok (by
  intro ls v h0
  obtain ⟨x0, ls0, rfl, h1⟩ := eatI_some h0
  obtain ⟨rfl, rfl⟩ := eat0_some h1
  rfl
) (rNo_ok)
noncomputable def g23 (G : (List AV) → Int → Int → Option B23) : Ent := fEnt pa23 to23 (fun v => G v.1 v.2.1 v.2.2) en23
theorem g23_ok (G : (List AV) → Int → Int → Option B23) (hG : ∀ v y, G v.1 v.2.1 v.2.2 = some y → callO IP 23 (ea23 v).1 (ea23 v).2 = some (er23 y)) : Snd IP 23 (g23 G) := fEnt_ok to23_ok E1_ok hG
noncomputable def tr23 (x0 : List AV) (x1 : Int) (x2 : Int) : DT B23 :=
 .bi (f19 x0 x1 x2) (fun y0 =>
  .bi (pj 0 (l23_0 (y0, 0, 0))) (fun y1 =>
   .at (y1.snd.fst))
   (.no))
  (.no)
noncomputable def T23 : Tab := [(29, cloneE 7 64), (19, g19 f19)]
theorem T23_ok : TabOk IP (T23) := ⟨sp29, s19, trivial⟩
noncomputable def L23 : LTab := [(1002300, ll23_0)]
theorem L23_ok : LOk IP (L23) (loops F23.body) := LOk_of (l := [loopAt F23 0]) (by kernel_rfl) ⟨sel_one (by kernel_rfl) t23_0, trivial⟩
theorem b23 (v : A23) : bodyK (R := B23) IP (callT (T23)) (loopT (L23)) 23 F23 (ea23 v).1 (ea23 v).2 rd23 = (tr23 v.1 v.2.1 v.2.2).ev := by kernel_rfl
/--  -/
noncomputable def f23 (x0 : List AV) (x1 : Int) (x2 : Int) : Option B23 := lock (tr23 x0 x1 x2).ev
theorem f23_eq (x0 : List AV) (x1 : Int) (x2 : Int) : f23 x0 x1 x2 = (tr23 x0 x1 x2).ev := lock_eq _
theorem c23 : ∀ v y, f23 v.1 v.2.1 v.2.2 = some y → callO IP 23 (ea23 v).1 (ea23 v).2 = some (er23 y) := fun v y h => fun_of T23_ok (by kernel_rfl) L23_ok rd23_ok (b23 v) ((f23_eq v.1 v.2.1 v.2.2).symm.trans h)
theorem s23 : Snd IP 23 (g23 f23) := g23_ok f23 c23

-- f6: 
abbrev A6 : Type := List AV × Int × Int × Int
abbrev B6 : Type := Bool
def pa6 : PArgs := ⟨[.view 7, .agg [.int .i64, .int .i64, .int .i64]], []⟩
def to6 (ls : List Lf) : Option A6 := eatL ls fun x0 ls => eatI ls fun x1 ls => eatI ls fun x2 ls => eatI ls fun x3 ls => eat0 ls (x0, x1, x2, x3)
def ea6 (v : A6) : List AV × Heap := ([.view 7 v.1, .agg [.int .i64 v.2.1, .int .i64 v.2.2.1, .int .i64 v.2.2.2]], [])
def er6_0 (v : Bool) : Res × Heap := (.ret (.bool v), [])
def er6 : B6 → Res × Heap := er6_0
def en6 : Option B6 → List (Bool × Res × Heap) := (E1 er6_0)
def rd6 : Res → Heap → Option B6 := rDec ⟨false, .bool, []⟩ (fun ls => eatB ls fun x0 ls => eat0 ls x0) (rNo)
theorem to6_ok : ∀ ls v, to6 ls = some v → fArgs pa6 ls = ea6 v := by
  intro ls v h0
  unfold to6 at h0
  obtain ⟨x0, ls0, rfl, h1⟩ := eatL_some h0
  obtain ⟨x1, ls1, rfl, h2⟩ := eatI_some h1
  obtain ⟨x2, ls2, rfl, h3⟩ := eatI_some h2
  obtain ⟨x3, ls3, rfl, h4⟩ := eatI_some h3
  obtain ⟨rfl, rfl⟩ := eat0_some h4
  rfl
theorem rd6_ok : ∀ r h y, rd6 r h = some y → (r, h) = er6 y := rDec_ok (by
  intro ls v h0
  obtain ⟨x0, ls0, rfl, h1⟩ := eatB_some h0
  obtain ⟨rfl, rfl⟩ := eat0_some h1
  rfl
) (rNo_ok)
noncomputable def g6 (G : (List AV) → Int → Int → Int → Option B6) : Ent := fEnt pa6 to6 (fun v => G v.1 v.2.1 v.2.2.1 v.2.2.2) en6
theorem g6_ok (G : (List AV) → Int → Int → Int → Option B6) (hG : ∀ v y, G v.1 v.2.1 v.2.2.1 v.2.2.2 = some y → callO IP 6 (ea6 v).1 (ea6 v).2 = some (er6 y)) : Snd IP 6 (g6 G) := fEnt_ok to6_ok E1_ok hG
noncomputable def tr6 (x0 : List AV) (x1 : Int) (x2 : Int) (x3 : Int) : DT B6 :=
 .br (decide ((↑x0.length : Int) > 100))
  (.bi (f12) (fun y0 =>
   .at (y0))
   (.no))
  (.bi (f18 x0 x1 x2) (fun y0 =>
   .bi (f19 x0 x1 x2) (fun y1 =>
    .bi (f15 y0 y1) (fun y2 =>
     .br (y2)
      (.bi (f20 x0 x1 x2 x3) (fun y3 =>
       .bi (f21 x0 x1 x2 x3) (fun y4 =>
        .br (if false = true then !y3 == y4 else y3 == y4)
         (.bi (f22 x0 x1 x2) (fun y5 =>
          .bi (f23 x0 x1 x2) (fun y6 =>
           .br (y5 == y6)
            (.bi (f12) (fun y7 =>
             .at (y7))
             (.no))
            (.at (false)))
           (.no))
          (.no))
         (.at (false)))
        (.no))
       (.no))
      (.at (false)))
     (.no))
    (.no))
   (.no))
noncomputable def T6 : Tab := [(29, cloneE 7 64), (12, g12 f12), (18, g18 f18), (19, g19 f19), (15, g15 f15), (20, g20 f20), (21, g21 f21), (22, g22 f22), (23, g23 f23)]
theorem T6_ok : TabOk IP (T6) := ⟨sp29, s12, s18, s19, s15, s20, s21, s22, s23, trivial⟩
noncomputable def L6 : LTab := []
theorem L6_ok : LOk IP (L6) (loops F6.body) := LOk_of (l := []) (by kernel_rfl) trivial
theorem b6 (v : A6) : bodyK (R := B6) IP (callT (T6)) (loopT (L6)) 6 F6 (ea6 v).1 (ea6 v).2 rd6 = (tr6 v.1 v.2.1 v.2.2.1 v.2.2.2).ev := by kernel_rfl
/--  -/
noncomputable def f6 (x0 : List AV) (x1 : Int) (x2 : Int) (x3 : Int) : Option B6 := lock (tr6 x0 x1 x2 x3).ev
theorem f6_eq (x0 : List AV) (x1 : Int) (x2 : Int) (x3 : Int) : f6 x0 x1 x2 x3 = (tr6 x0 x1 x2 x3).ev := lock_eq _
theorem c6 : ∀ v y, f6 v.1 v.2.1 v.2.2.1 v.2.2.2 = some y → callO IP 6 (ea6 v).1 (ea6 v).2 = some (er6 y) := fun v y h => fun_of T6_ok (by kernel_rfl) L6_ok rd6_ok (b6 v) ((f6_eq v.1 v.2.1 v.2.2.1 v.2.2.2).symm.trans h)
theorem s6 : Snd IP 6 (g6 f6) := g6_ok f6 c6

-- f7: 
abbrev A7 : Type := List AV × Int × Int × Int × Int × Int × Int × List UInt8 × Int × Int × Int
abbrev B7 : Type := Bool
def pa7 : PArgs := ⟨[.view 7, .agg [.int .i64, .int .i64, .int .i64, .int .i64, .int .i64, .int .i64, .str], .agg [.int .i64, .int .i64, .int .i64]], []⟩
def to7 (ls : List Lf) : Option A7 := eatL ls fun x0 ls => eatI ls fun x1 ls => eatI ls fun x2 ls => eatI ls fun x3 ls => eatI ls fun x4 ls => eatI ls fun x5 ls => eatI ls fun x6 ls => eatS ls fun x7 ls => eatI ls fun x8 ls => eatI ls fun x9 ls => eatI ls fun x10 ls => eat0 ls (x0, x1, x2, x3, x4, x5, x6, x7, x8, x9, x10)
def ea7 (v : A7) : List AV × Heap := ([.view 7 v.1, .agg [.int .i64 v.2.1, .int .i64 v.2.2.1, .int .i64 v.2.2.2.1, .int .i64 v.2.2.2.2.1, .int .i64 v.2.2.2.2.2.1, .int .i64 v.2.2.2.2.2.2.1, .str v.2.2.2.2.2.2.2.1], .agg [.int .i64 v.2.2.2.2.2.2.2.2.1, .int .i64 v.2.2.2.2.2.2.2.2.2.1, .int .i64 v.2.2.2.2.2.2.2.2.2.2]], [])
def er7_0 (v : Bool) : Res × Heap := (.ret (.bool v), [])
def er7 : B7 → Res × Heap := er7_0
def en7 : Option B7 → List (Bool × Res × Heap) := (E1 er7_0)
def rd7 : Res → Heap → Option B7 := rDec ⟨false, .bool, []⟩ (fun ls => eatB ls fun x0 ls => eat0 ls x0) (rNo)
theorem to7_ok : ∀ ls v, to7 ls = some v → fArgs pa7 ls = ea7 v := by
  intro ls v h0
  unfold to7 at h0
  obtain ⟨x0, ls0, rfl, h1⟩ := eatL_some h0
  obtain ⟨x1, ls1, rfl, h2⟩ := eatI_some h1
  obtain ⟨x2, ls2, rfl, h3⟩ := eatI_some h2
  obtain ⟨x3, ls3, rfl, h4⟩ := eatI_some h3
  obtain ⟨x4, ls4, rfl, h5⟩ := eatI_some h4
  obtain ⟨x5, ls5, rfl, h6⟩ := eatI_some h5
  obtain ⟨x6, ls6, rfl, h7⟩ := eatI_some h6
  obtain ⟨x7, ls7, rfl, h8⟩ := eatS_some h7
  obtain ⟨x8, ls8, rfl, h9⟩ := eatI_some h8
  obtain ⟨x9, ls9, rfl, h10⟩ := eatI_some h9
  obtain ⟨x10, ls10, rfl, h11⟩ := eatI_some h10
  obtain ⟨rfl, rfl⟩ := eat0_some h11
  rfl
theorem rd7_ok : ∀ r h y, rd7 r h = some y → (r, h) = er7 y := rDec_ok (by
  intro ls v h0
  obtain ⟨x0, ls0, rfl, h1⟩ := eatB_some h0
  obtain ⟨rfl, rfl⟩ := eat0_some h1
  rfl
) (rNo_ok)
noncomputable def g7 (G : (List AV) → Int → Int → Int → Int → Int → Int → (List UInt8) → Int → Int → Int → Option B7) : Ent := fEnt pa7 to7 (fun v => G v.1 v.2.1 v.2.2.1 v.2.2.2.1 v.2.2.2.2.1 v.2.2.2.2.2.1 v.2.2.2.2.2.2.1 v.2.2.2.2.2.2.2.1 v.2.2.2.2.2.2.2.2.1 v.2.2.2.2.2.2.2.2.2.1 v.2.2.2.2.2.2.2.2.2.2) en7
theorem g7_ok (G : (List AV) → Int → Int → Int → Int → Int → Int → (List UInt8) → Int → Int → Int → Option B7) (hG : ∀ v y, G v.1 v.2.1 v.2.2.1 v.2.2.2.1 v.2.2.2.2.1 v.2.2.2.2.2.1 v.2.2.2.2.2.2.1 v.2.2.2.2.2.2.2.1 v.2.2.2.2.2.2.2.2.1 v.2.2.2.2.2.2.2.2.2.1 v.2.2.2.2.2.2.2.2.2.2 = some y → callO IP 7 (ea7 v).1 (ea7 v).2 = some (er7 y)) : Snd IP 7 (g7 G) := fEnt_ok to7_ok E1_ok hG
noncomputable def tr7 (x0 : List AV) (x1 : Int) (x2 : Int) (x3 : Int) (x4 : Int) (x5 : Int) (x6 : Int) (x7 : List UInt8) (x8 : Int) (x9 : Int) (x10 : Int) : DT B7 :=
 .bi (br (decide ((↑x0.length : Int) > 100)) (some true) (br (sm (f9 x0)) (some !gv (f9 x0)) none)) (fun y0 =>
  .bi (br y0 (some true) (some (decide ((↑x7.length : Int) > 100)))) (fun y1 =>
   .bi (br y1 (some true) (br (sm (f11 x0)) (some (gv (f11 x0) != 0)) none)) (fun y2 =>
    .br (y2)
     (.bi (f12) (fun y3 =>
      .at (y3))
      (.no))
     (.bi (f13 x0 x1 x2 x3 x4 x5 x6 x7) (fun y3 =>
      .br (y3.snd != 0)
       (.bi (f14 x0 x1 x2 x3 x4 x5 x6 x7) (fun y4 =>
        .bi (br ((↑y3.fst.length : Int) == 0) (some (y3.snd == y4.snd)) (some false)) (fun y5 =>
         .bi (br y5 (br (sm f12) (some (gv f12)) none) (some false)) (fun y6 =>
          .at (y6))
          (.no))
         (.no))
        (.no))
       (.bi (br (x2 == x8) (some (decide (x5 ≤ x9))) (some false)) (fun y4 =>
        .bi (br y4 (some (decide (x9 ≤ x6))) (some false)) (fun y5 =>
         .bi (br (x3 == 1) (some true) (br (x3 == 2) (some (decide (x10 > 0))) (some false))) (fun y6 =>
          .bi (br y6 (some true) (br (x3 == 3) (some (decide (x10 < 0))) (some false))) (fun y7 =>
           .bi (br y5 (some (x3 == 4)) (some false)) (fun y8 =>
            .br (y8)
             (.bi (f20 y3.fst x8 x9 x10) (fun y9 =>
              .bi (f20 x0 x8 x9 x10) (fun y10 =>
               .br (y10)
                (.br (if false = true then !y9 == true else y9 == true)
                 (.bi (f22 y3.fst x8 x9) (fun y11 =>
                  .bi (f22 x0 x8 x9) (fun y12 =>
                   .br (y11 == IntKind.i64.wrap (y12 + x4))
                    (.bi (f12) (fun y13 =>
                     .at (y13))
                     (.no))
                    (.at (false)))
                   (.no))
                  (.no))
                 (.at (false)))
                (.br (y5)
                 (.br (if false = true then !y9 == y7 else y9 == y7)
                  (.bi (f22 y3.fst x8 x9) (fun y11 =>
                   .bi (f22 x0 x8 x9) (fun y12 =>
                    .br (y11 == IntKind.i64.wrap (y12 + x4))
                     (.bi (f12) (fun y13 =>
                      .at (y13))
                      (.no))
                     (.at (false)))
                    (.no))
                   (.no))
                  (.at (false)))
                 (.br (if false = true then !y9 == false else y9 == false)
                  (.bi (f22 y3.fst x8 x9) (fun y11 =>
                   .bi (f22 x0 x8 x9) (fun y12 =>
                    .br (y11 == IntKind.i64.wrap (y12 + x4))
                     (.bi (f12) (fun y13 =>
                      .at (y13))
                      (.no))
                     (.at (false)))
                    (.no))
                   (.no))
                  (.at (false)))))
               (.no))
              (.no))
             (.bi (f20 y3.fst x8 x9 x10) (fun y9 =>
              .bi (f20 x0 x8 x9 x10) (fun y10 =>
               .br (y10)
                (.br (if false = true then !y9 == true else y9 == true)
                 (.bi (f22 y3.fst x8 x9) (fun y11 =>
                  .bi (f22 x0 x8 x9) (fun y12 =>
                   .br (y11 == IntKind.i64.wrap (y12 + 0))
                    (.bi (f12) (fun y13 =>
                     .at (y13))
                     (.no))
                    (.at (false)))
                   (.no))
                  (.no))
                 (.at (false)))
                (.br (y5)
                 (.br (if false = true then !y9 == y7 else y9 == y7)
                  (.bi (f22 y3.fst x8 x9) (fun y11 =>
                   .bi (f22 x0 x8 x9) (fun y12 =>
                    .br (y11 == IntKind.i64.wrap (y12 + 0))
                     (.bi (f12) (fun y13 =>
                      .at (y13))
                      (.no))
                     (.at (false)))
                    (.no))
                   (.no))
                  (.at (false)))
                 (.br (if false = true then !y9 == false else y9 == false)
                  (.bi (f22 y3.fst x8 x9) (fun y11 =>
                   .bi (f22 x0 x8 x9) (fun y12 =>
                    .br (y11 == IntKind.i64.wrap (y12 + 0))
                     (.bi (f12) (fun y13 =>
                      .at (y13))
                      (.no))
                     (.at (false)))
                    (.no))
                   (.no))
                  (.at (false)))))
               (.no))
              (.no)))
            (.no))
           (.no))
          (.no))
         (.no))
        (.no)))
      (.no)))
    (.no))
   (.no))
  (.no)
noncomputable def T7 : Tab := [(29, cloneE 7 64), (9, g9 f9), (11, g11 f11), (12, g12 f12), (13, g13 f13), (14, g14 f14), (20, g20 f20), (22, g22 f22)]
theorem T7_ok : TabOk IP (T7) := ⟨sp29, s9, s11, s12, s13, s14, s20, s22, trivial⟩
noncomputable def L7 : LTab := []
theorem L7_ok : LOk IP (L7) (loops F7.body) := LOk_of (l := []) (by kernel_rfl) trivial
theorem b7 (v : A7) : bodyK (R := B7) IP (callT (T7)) (loopT (L7)) 7 F7 (ea7 v).1 (ea7 v).2 rd7 = (tr7 v.1 v.2.1 v.2.2.1 v.2.2.2.1 v.2.2.2.2.1 v.2.2.2.2.2.1 v.2.2.2.2.2.2.1 v.2.2.2.2.2.2.2.1 v.2.2.2.2.2.2.2.2.1 v.2.2.2.2.2.2.2.2.2.1 v.2.2.2.2.2.2.2.2.2.2).ev := by kernel_rfl
/--  -/
noncomputable def f7 (x0 : List AV) (x1 : Int) (x2 : Int) (x3 : Int) (x4 : Int) (x5 : Int) (x6 : Int) (x7 : List UInt8) (x8 : Int) (x9 : Int) (x10 : Int) : Option B7 := lock (tr7 x0 x1 x2 x3 x4 x5 x6 x7 x8 x9 x10).ev
theorem f7_eq (x0 : List AV) (x1 : Int) (x2 : Int) (x3 : Int) (x4 : Int) (x5 : Int) (x6 : Int) (x7 : List UInt8) (x8 : Int) (x9 : Int) (x10 : Int) : f7 x0 x1 x2 x3 x4 x5 x6 x7 x8 x9 x10 = (tr7 x0 x1 x2 x3 x4 x5 x6 x7 x8 x9 x10).ev := lock_eq _
theorem c7 : ∀ v y, f7 v.1 v.2.1 v.2.2.1 v.2.2.2.1 v.2.2.2.2.1 v.2.2.2.2.2.1 v.2.2.2.2.2.2.1 v.2.2.2.2.2.2.2.1 v.2.2.2.2.2.2.2.2.1 v.2.2.2.2.2.2.2.2.2.1 v.2.2.2.2.2.2.2.2.2.2 = some y → callO IP 7 (ea7 v).1 (ea7 v).2 = some (er7 y) := fun v y h => fun_of T7_ok (by kernel_rfl) L7_ok rd7_ok (b7 v) ((f7_eq v.1 v.2.1 v.2.2.1 v.2.2.2.1 v.2.2.2.2.1 v.2.2.2.2.2.1 v.2.2.2.2.2.2.1 v.2.2.2.2.2.2.2.1 v.2.2.2.2.2.2.2.2.1 v.2.2.2.2.2.2.2.2.2.1 v.2.2.2.2.2.2.2.2.2.2).symm.trans h)
theorem s7 : Snd IP 7 (g7 f7) := g7_ok f7 c7

-- l8_0: loop 0 of function 8
abbrev TT8_0 : Type := List AV × Int × List AV × Int × Int × Int × Int
def h8_0_0 (v : List AV × Int × List AV × Int × Int × Int × Int) : St := ⟨[(1000800, .junk), (0, .view 7 v.1), (1, .int .i64 v.2.1), (5, .ref 0 0 0), (7, .view 7 v.2.2.1), (9, .int .i64 v.2.2.2.1)], [(0, .box [.int .i64 v.2.2.2.2.1, .int .i64 v.2.2.2.2.2.1, .int .i64 v.2.2.2.2.2.2] false)], 1, 0⟩
def h8_0 : TT8_0 → St := (fun v => h8_0_0 v)
def d8_0 : St → Option TT8_0 := sDec ⟨[(1000800, .junk), (0, .view 7), (1, .int .i64), (5, .ref 0 0 0), (7, .view 7), (9, .int .i64)], [(0, .box [.int .i64, .int .i64, .int .i64] false)], 1, 0⟩ (fun ls => eatL ls fun x0 ls => eatI ls fun x1 ls => eatL ls fun x2 ls => eatI ls fun x3 ls => eatI ls fun x4 ls => eatI ls fun x5 ls => eatI ls fun x6 ls => eat0 ls (x0, x1, x2, x3, x4, x5, x6)) (sNo)
theorem d8_0_ok : ∀ s v, d8_0 s = some v → s = h8_0 v := sDec_ok (by
  intro ls v h0
  obtain ⟨x0, ls0, rfl, h1⟩ := eatL_some h0
  obtain ⟨x1, ls1, rfl, h2⟩ := eatI_some h1
  obtain ⟨x2, ls2, rfl, h3⟩ := eatL_some h2
  obtain ⟨x3, ls3, rfl, h4⟩ := eatI_some h3
  obtain ⟨x4, ls4, rfl, h5⟩ := eatI_some h4
  obtain ⟨x5, ls5, rfl, h6⟩ := eatI_some h5
  obtain ⟨x6, ls6, rfl, h7⟩ := eatI_some h6
  obtain ⟨rfl, rfl⟩ := eat0_some h7
  rfl
) (sNo_ok)
theorem n8_0_0 (v : List AV × Int × List AV × Int × Int × Int × Int) : norm (loopAt F8 0).1 (h8_0_0 v) = some (h8_0_0 v) := by kernel_rfl
noncomputable def x8_0_0 (x0 : List AV) (x1 : Int) (x2 : List AV) (x3 : Int) (x4 : Int) (x5 : Int) (x6 : Int) : X × St := (X.ret,
  {
    tm :=
      [(6, AV.bool false), (77, AV.bool (decide (intOf (cellAt x2 x3 5) ≥ x5))), (76, AV.bool (decide (intOf (cellAt x2 x3 5) ≥ x5))), (75, AV.int IntKind.i64 x5),
        (74, AV.ref 0 0 1), (73, AV.int IntKind.i64 (intOf (cellAt x2 x3 5))), (72, AV.ptr [AV.int IntKind.i64 (intOf (cellAt x2 x3 5)), AV.str (strOf (cellAt x2 x3 6))]),
        (71,
          AV.ptr
            [AV.int IntKind.i64 (intOf (cellAt x2 x3 0)), AV.int IntKind.i64 (intOf (cellAt x2 x3 1)), AV.int IntKind.i64 (intOf (cellAt x2 x3 2)),
              AV.int IntKind.i64 (intOf (cellAt x2 x3 3)), AV.int IntKind.i64 (intOf (cellAt x2 x3 4)), AV.int IntKind.i64 (intOf (cellAt x2 x3 5)),
              AV.str (strOf (cellAt x2 x3 6))]),
        (70, AV.int IntKind.i64 x3), (69, AV.view 7 x2), (68, AV.bool true), (67, AV.bool (intOf (cellAt x2 x3 0) == x1)), (66, AV.int IntKind.i64 x1),
        (65, AV.int IntKind.i64 (intOf (cellAt x2 x3 0))),
        (64,
          AV.ptr
            [AV.int IntKind.i64 (intOf (cellAt x2 x3 0)), AV.int IntKind.i64 (intOf (cellAt x2 x3 1)), AV.int IntKind.i64 (intOf (cellAt x2 x3 2)),
              AV.int IntKind.i64 (intOf (cellAt x2 x3 3)), AV.int IntKind.i64 (intOf (cellAt x2 x3 4)), AV.int IntKind.i64 (intOf (cellAt x2 x3 5)),
              AV.str (strOf (cellAt x2 x3 6))]),
        (63,
          AV.ptr
            [AV.int IntKind.i64 (intOf (cellAt x2 x3 0)), AV.int IntKind.i64 (intOf (cellAt x2 x3 1)), AV.int IntKind.i64 (intOf (cellAt x2 x3 2)),
              AV.int IntKind.i64 (intOf (cellAt x2 x3 3)), AV.int IntKind.i64 (intOf (cellAt x2 x3 4)), AV.int IntKind.i64 (intOf (cellAt x2 x3 5)),
              AV.str (strOf (cellAt x2 x3 6))]),
        (62, AV.int IntKind.i64 x3), (61, AV.view 7 x2), (58, AV.bool (decide (x3 < (↑x2.length : Int)))), (57, AV.int IntKind.i64 (↑x2.length : Int)), (56, AV.view 7 x2),
        (55, AV.int IntKind.i64 x3), (1000800, AV.junk), (0, AV.view 7 x0), (1, AV.int IntKind.i64 x1), (5, AV.ref 0 0 0), (7, AV.view 7 x2), (9, AV.int IntKind.i64 x3)],
    hp := [(0, Blk.box [AV.int IntKind.i64 x4, AV.int IntKind.i64 x5, AV.int IntKind.i64 x6] false)], nx := 353, k := 0 })
noncomputable def x8_0_1 (x0 : List AV) (x1 : Int) (x2 : List AV) (x3 : Int) (x4 : Int) (x5 : Int) (x6 : Int) : X × St := (X.exit 0,
  {
    tm :=
      [(58, AV.bool (decide (x3 < (↑x2.length : Int)))), (57, AV.int IntKind.i64 (↑x2.length : Int)), (56, AV.view 7 x2), (55, AV.int IntKind.i64 x3), (1000800, AV.junk),
        (0, AV.view 7 x0), (1, AV.int IntKind.i64 x1), (5, AV.ref 0 0 0), (7, AV.view 7 x2), (9, AV.int IntKind.i64 x3)],
    hp := [(0, Blk.box [AV.int IntKind.i64 x4, AV.int IntKind.i64 x5, AV.int IntKind.i64 x6] false)], nx := 65, k := 0 })
noncomputable def x8_0 : Nat → TT8_0 → X × St := fun j w => match j with
  | 0 => x8_0_0 w.1 w.2.1 w.2.2.1 w.2.2.2.1 w.2.2.2.2.1 w.2.2.2.2.2.1 w.2.2.2.2.2.2
  | 1 => x8_0_1 w.1 w.2.1 w.2.2.1 w.2.2.2.1 w.2.2.2.2.1 w.2.2.2.2.2.1 w.2.2.2.2.2.2
  | _ => (.ret, ⟨[], [], 0, 0⟩)
theorem e8_0 : ∀ j v, outB (x8_0 j v).1 = true := fun j v => match j with
  | 0 => rfl
  | 1 => rfl
  | _ + 2 => rfl
noncomputable def st8_0_0 (x0 : List AV) (x1 : Int) (x2 : List AV) (x3 : Int) (x4 : Int) (x5 : Int) (x6 : Int) : DT (Rd TT8_0) :=
 .br (decide (x3 < (↑x2.length : Int)))
  (.br (okAt [CS.int IntKind.i64, CS.int IntKind.i64, CS.int IntKind.i64, CS.int IntKind.i64, CS.int IntKind.i64, CS.int IntKind.i64, CS.str] x2 x3)
   (.br (intOf (cellAt x2 x3 0) == x1)
    (.br (okAt [CS.int IntKind.i64, CS.int IntKind.i64, CS.int IntKind.i64, CS.int IntKind.i64, CS.int IntKind.i64, CS.int IntKind.i64, CS.str] x2 x3)
     (.br (decide (intOf (cellAt x2 x3 5) ≥ x5)) (.at (.done 0)) (.at (.next ((x0, x1, x2, IntKind.i64.wrap (x3 + 1), x4, x5, x6)))))
     (.no))
    (.at (.next ((x0, x1, x2, IntKind.i64.wrap (x3 + 1), x4, x5, x6)))))
   (.no))
  (.at (.done 1))
noncomputable def st8_0 : TT8_0 → DT (Rd TT8_0) := (fun v => st8_0_0 v.1 v.2.1 v.2.2.1 v.2.2.2.1 v.2.2.2.2.1 v.2.2.2.2.2.1 v.2.2.2.2.2.2)
noncomputable def T8_0 : Tab := [(29, cloneE 7 64)]
theorem T8_0_ok : TabOk IP (T8_0) := ⟨sp29, trivial⟩
noncomputable def L8_0 : LTab := []
theorem L8_0_ok : LOk IP (L8_0) (loops (loopAt F8 0).2) := LOk_of (l := []) (by kernel_rfl) trivial
theorem b8_0_0 (v : List AV × Int × List AV × Int × Int × Int × Int) : execK (R := Rx TT8_0) IP (callT (T8_0)) (loopT (L8_0)) (loopAt F8 0).2 (h8_0_0 v) (endK (loopAt F8 0).1 d8_0) = (cvD (fun j => x8_0 j v) (st8_0_0 v.1 v.2.1 v.2.2.1 v.2.2.2.1 v.2.2.2.2.1 v.2.2.2.2.2.1 v.2.2.2.2.2.2)).ev := by kernel_rfl
noncomputable def l8_0 (v : TT8_0) : Option (Nat × TT8_0) := lock (iterO (fun v => (st8_0 v).ev) v)
theorem l8_0_eq (v : TT8_0) : l8_0 v = iterO (fun v => (st8_0 v).ev) v := lock_eq _
noncomputable def ll8_0 : LEnt := lEnt d8_0 (l8_0) (x8_0) 2
theorem t8_0 : Go.Eng.Told IP (loopAt F8 0).1 (loopAt F8 0).2 (ll8_0) := loop_of (st := st8_0) (T8_0_ok) (L8_0_ok) d8_0_ok (fun v => n8_0_0 v) (e8_0) (fun v => b8_0_0 v) (l8_0_eq)

end Go.Proofs.H23

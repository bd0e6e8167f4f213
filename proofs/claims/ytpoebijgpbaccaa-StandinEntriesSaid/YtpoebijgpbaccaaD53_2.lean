/- Functions over plain data. Printed by a program of mine. -/
import Derived.Test.YtpoebijgpbaccaaD53_1
import Derived.KernelRfl
set_option linter.unusedVariables false
set_option linter.unusedSimpArgs false
set_option linter.unnecessarySimpa false
namespace Go.Proofs.H53
open Go Go.Eng
set_option maxRecDepth 100000

-- l9_0: loop 0 of function 9
abbrev TT9_0 : Type := List AV × Int × Int × Int × List AV × List AV
def h9_0_0 (v : List AV × Int × Int × Int × List AV × List AV) : St := ⟨[(1000900, .junk), (1, .ref 0 0 0), (42, .view 3 v.1), (43, .int .i64 v.2.1), (44, .int .i64 v.2.2.1)], [(0, .box [.int .i64 v.2.2.2.1, .view 3 v.2.2.2.2.1, .view 3 v.2.2.2.2.2] false)], 1, 0⟩
def h9_0 : TT9_0 → St := (fun v => h9_0_0 v)
def d9_0 : St → Option TT9_0 := sDec ⟨[(1000900, .junk), (1, .ref 0 0 0), (42, .view 3), (43, .int .i64), (44, .int .i64)], [(0, .box [.int .i64, .view 3, .view 3] false)], 1, 0⟩ (fun ls => eatL ls fun x0 ls => eatI ls fun x1 ls => eatI ls fun x2 ls => eatI ls fun x3 ls => eatL ls fun x4 ls => eatL ls fun x5 ls => eat0 ls (x0, x1, x2, x3, x4, x5)) (sNo)
theorem d9_0_ok : ∀ s v, d9_0 s = some v → s = h9_0 v := sDec_ok (by
  intro ls v h0
  obtain ⟨x0, ls0, rfl, h1⟩ := eatL_some h0
  obtain ⟨x1, ls1, rfl, h2⟩ := eatI_some h1
  obtain ⟨x2, ls2, rfl, h3⟩ := eatI_some h2
  obtain ⟨x3, ls3, rfl, h4⟩ := eatI_some h3
  obtain ⟨x4, ls4, rfl, h5⟩ := eatL_some h4
  obtain ⟨x5, ls5, rfl, h6⟩ := eatL_some h5
  obtain ⟨rfl, rfl⟩ := eat0_some h6
  rfl
) (sNo_ok)
theorem n9_0_0 (v : List AV × Int × Int × Int × List AV × List AV) : norm (hk (loopAt F9 0).1) (h9_0_0 v) = some (h9_0_0 v) := by kernel_rfl
noncomputable def x9_0_0 (x0 : List AV) (x1 : Int) (x2 : Int) (x3 : Int) (x4 : List AV) (x5 : List AV) : X × St := (X.ret, { tm := [(2, AV.int IntKind.i64 25)], hp := [], nx := 0, k := 0 })
noncomputable def x9_0_1 (x0 : List AV) (x1 : Int) (x2 : Int) (x3 : Int) (x4 : List AV) (x5 : List AV) : X × St := (X.exit 1, { tm := [(2, AV.junk)], hp := [], nx := 0, k := 0 })
noncomputable def x9_0 : Nat → TT9_0 → X × St := fun j w => match j with
  | 0 => x9_0_0 w.1 w.2.1 w.2.2.1 w.2.2.2.1 w.2.2.2.2.1 w.2.2.2.2.2
  | 1 => x9_0_1 w.1 w.2.1 w.2.2.1 w.2.2.2.1 w.2.2.2.2.1 w.2.2.2.2.2
  | _ => (.ret, ⟨[], [], 0, 0⟩)
theorem e9_0 : ∀ j v, outB (x9_0 j v).1 = true := fun j v => match j with
  | 0 => rfl
  | 1 => rfl
  | _ + 2 => rfl
noncomputable def st9_0_0 (x0 : List AV) (x1 : Int) (x2 : Int) (x3 : Int) (x4 : List AV) (x5 : List AV) : DT (Rd TT9_0) :=
 .br (decide (x2 < x1))
  (.br (okAt [CS.int IntKind.i64, CS.int IntKind.i64, CS.int IntKind.i64] x0 x2)
   (.bi (pj 0 (l9_1 (0, x0, x1, x2, x5, (↑x5.length : Int), 0, x3, x4, x5, intOf (cellAt x0 x2 0), intOf (cellAt x0 x2 1), intOf (cellAt x0 x2 2)))) (fun y0 =>
    .bi (br (y0.snd.snd.snd.snd.snd.snd.snd.snd.snd.snd.snd.snd != y0.fst) (some true) (some (decide (y0.fst > y0.snd.snd.snd.snd.snd.snd.snd.snd.snd.snd.snd.fst)))) (fun y1 =>
     .bi (br y1 (some true) (some (decide (y0.fst > y0.snd.snd.snd.snd.snd.snd.snd.fst)))) (fun y2 =>
      .br (y2)
       (.at (.done 0))
       (.at (.next ((y0.snd.fst, y0.snd.snd.fst, IntKind.i64.wrap (y0.snd.snd.snd.fst + 1), y0.snd.snd.snd.snd.snd.snd.snd.fst, y0.snd.snd.snd.snd.snd.snd.snd.snd.fst, y0.snd.snd.snd.snd.snd.snd.snd.snd.snd.fst)))))
      (.no))
     (.no))
    (.no))
   (.no))
  (.at (.done 1))
noncomputable def st9_0 : TT9_0 → DT (Rd TT9_0) := (fun v => st9_0_0 v.1 v.2.1 v.2.2.1 v.2.2.2.1 v.2.2.2.2.1 v.2.2.2.2.2)
noncomputable def T9_0 : Tab := [(34, cloneE 3 24), (35, cloneE 3 32)]
theorem T9_0_ok : TabOk IP (T9_0) := ⟨sp34, sp35, trivial⟩
noncomputable def L9_0 : LTab := [(1000901, ll9_1)]
theorem L9_0_ok : LOk IP (L9_0) (loops (loopAt F9 0).2) := LOk_of (l := [loopAt F9 1]) (by kernel_rfl) ⟨sel_one (by kernel_rfl) t9_1, trivial⟩
theorem b9_0_0 (v : List AV × Int × Int × Int × List AV × List AV) : execK (R := Rx TT9_0) IP (callT (T9_0)) (loopT (L9_0)) (loopAt F9 0).2 (h9_0_0 v) (endK (loopAt F9 0).1 d9_0) = (cvD (fun j => x9_0 j v) (st9_0_0 v.1 v.2.1 v.2.2.1 v.2.2.2.1 v.2.2.2.2.1 v.2.2.2.2.2)).ev := by kernel_rfl
noncomputable def l9_0 (v : TT9_0) : Option (Nat × TT9_0) := lock (iterO (fun v => (st9_0 v).ev) v)
theorem l9_0_eq (v : TT9_0) : l9_0 v = iterO (fun v => (st9_0 v).ev) v := lock_eq _
noncomputable def ll9_0 : LEnt := lEnt d9_0 (l9_0) (x9_0) 2
theorem t9_0 : Go.Eng.Told IP (loopAt F9 0).1 (loopAt F9 0).2 (ll9_0) := loop_of (st := st9_0) (T9_0_ok) (L9_0_ok) d9_0_ok (fun v => n9_0_0 v) (e9_0) (fun v => b9_0_0 v) (l9_0_eq)

-- f9: Check
abbrev A9 : Type := Int × List AV × List AV
abbrev B9 : Type := Int
def pa9 : PArgs := ⟨[.agg [.int .i64, .view 3, .view 3]], []⟩
def to9 (ls : List Lf) : Option A9 := eatI ls fun x0 ls => eatL ls fun x1 ls => eatL ls fun x2 ls => eat0 ls (x0, x1, x2)
def ea9 (v : A9) : List AV × Heap := ([.agg [.int .i64 v.1, .view 3 v.2.1, .view 3 v.2.2]], [])
def er9_0 (v : Int) : Res × Heap := (.ret (.int .i64 v), [])
def er9 : B9 → Res × Heap := er9_0
def en9 : Option B9 → List (Bool × Res × Heap) := (E1 er9_0)
def rd9 : Res → Heap → Option B9 := rDec ⟨false, .int .i64, []⟩ (fun ls => eatI ls fun x0 ls => eat0 ls x0) (rNo)
theorem to9_ok : ∀ ls v, to9 ls = some v → fArgs pa9 ls = ea9 v := by
  intro ls v h0
  unfold to9 at h0
  obtain ⟨x0, ls0, rfl, h1⟩ := eatI_some h0
  obtain ⟨x1, ls1, rfl, h2⟩ := eatL_some h1
  obtain ⟨x2, ls2, rfl, h3⟩ := eatL_some h2
  obtain ⟨rfl, rfl⟩ := eat0_some h3
  rfl
theorem rd9_ok : ∀ r h y, rd9 r h = some y → (r, h) = er9 y := rDec_ok (by
  intro ls v h0
  obtain ⟨x0, ls0, rfl, h1⟩ := eatI_some h0
  obtain ⟨rfl, rfl⟩ := eat0_some h1
  rfl
) (rNo_ok)
noncomputable def g9 (G : Int → (List AV) → (List AV) → Option B9) : Ent := fEnt pa9 to9 (fun v => G v.1 v.2.1 v.2.2) en9
theorem g9_ok (G : Int → (List AV) → (List AV) → Option B9) (hG : ∀ v y, G v.1 v.2.1 v.2.2 = some y → callO IP 9 (ea9 v).1 (ea9 v).2 = some (er9 y)) : Snd IP 9 (g9 G) := fEnt_ok to9_ok E1_ok hG
noncomputable def tr9 (x0 : Int) (x1 : List AV) (x2 : List AV) : DT B9 :=
 .bi (br (decide ((↑x1.length : Int) > 64)) (some true) (some (decide ((↑x2.length : Int) > 64)))) (fun y0 =>
  .br (y0)
   (.at (5))
   (.bi (br (decide (x0 < 0)) (some true) (some (decide (x0 > 1000000000000)))) (fun y1 =>
    .br (y1)
     (.at (1))
     (.bi (f22 x1) (fun y2 =>
      .br (y2 != 0)
       (.at (y2))
       (.bi (f23 x0 x1 x2) (fun y3 =>
        .br (y3 != 0)
         (.at (y3))
         (.bi (pj 0 (l9_0 (x1, (↑x1.length : Int), 0, x0, x1, x2))) (fun y4 =>
          .at (25))
          (.bi (pj 1 (l9_0 (x1, (↑x1.length : Int), 0, x0, x1, x2))) (fun y4 =>
           .at (0))
           (.no))))
        (.no)))
      (.no)))
    (.no)))
  (.no)
noncomputable def T9 : Tab := [(34, cloneE 3 24), (35, cloneE 3 32), (22, g22 f22), (23, g23 f23)]
theorem T9_ok : TabOk IP (T9) := ⟨sp34, sp35, s22, s23, trivial⟩
noncomputable def L9 : LTab := [(1000900, ll9_0)]
theorem L9_ok : LOk IP (L9) (loops F9.body) := LOk_of (l := [loopAt F9 0, loopAt F9 1]) (by kernel_rfl) ⟨sel_one (by kernel_rfl) t9_0, sel_no (by kernel_rfl), trivial⟩
theorem b9 (v : A9) : bodyK (R := B9) IP (callT (T9)) (loopT (L9)) 9 F9 (ea9 v).1 (ea9 v).2 rd9 = (tr9 v.1 v.2.1 v.2.2).ev := by kernel_rfl
/-- Check -/
noncomputable def f9 (x0 : Int) (x1 : List AV) (x2 : List AV) : Option B9 := lock (tr9 x0 x1 x2).ev
theorem f9_eq (x0 : Int) (x1 : List AV) (x2 : List AV) : f9 x0 x1 x2 = (tr9 x0 x1 x2).ev := lock_eq _
theorem c9 : ∀ v y, f9 v.1 v.2.1 v.2.2 = some y → callO IP 9 (ea9 v).1 (ea9 v).2 = some (er9 y) := fun v y h => fun_of T9_ok (by kernel_rfl) L9_ok rd9_ok (b9 v) ((f9_eq v.1 v.2.1 v.2.2).symm.trans h)
theorem s9 : Snd IP 9 (g9 f9) := g9_ok f9 c9

-- l10_0: loop 0 of function 10
abbrev TT10_0 : Type := Int × Int × List AV × List AV
def h10_0_0 (v : Int × Int × List AV × List AV) : St := ⟨[(1001000, .junk), (1, .ref 0 0 0), (3, .int .i64 v.1)], [(0, .box [.int .i64 v.2.1, .view 3 v.2.2.1, .view 3 v.2.2.2] false)], 1, 0⟩
def h10_0 : TT10_0 → St := (fun v => h10_0_0 v)
def d10_0 : St → Option TT10_0 := sDec ⟨[(1001000, .junk), (1, .ref 0 0 0), (3, .int .i64)], [(0, .box [.int .i64, .view 3, .view 3] false)], 1, 0⟩ (fun ls => eatI ls fun x0 ls => eatI ls fun x1 ls => eatL ls fun x2 ls => eatL ls fun x3 ls => eat0 ls (x0, x1, x2, x3)) (sNo)
theorem d10_0_ok : ∀ s v, d10_0 s = some v → s = h10_0 v := sDec_ok (by
  intro ls v h0
  obtain ⟨x0, ls0, rfl, h1⟩ := eatI_some h0
  obtain ⟨x1, ls1, rfl, h2⟩ := eatI_some h1
  obtain ⟨x2, ls2, rfl, h3⟩ := eatL_some h2
  obtain ⟨x3, ls3, rfl, h4⟩ := eatL_some h3
  obtain ⟨rfl, rfl⟩ := eat0_some h4
  rfl
) (sNo_ok)
theorem n10_0_0 (v : Int × Int × List AV × List AV) : norm (hk (loopAt F10 0).1) (h10_0_0 v) = some (h10_0_0 v) := by kernel_rfl
noncomputable def x10_0_0 (x0 : Int) (x1 : Int) (x2 : List AV) (x3 : List AV) : X × St := (X.ret, { tm := [(1, AV.ref 0 0 0), (2, AV.int IntKind.i64 1)], hp := [(0, Blk.box [AV.int IntKind.i64 x1, AV.view 3 x2, AV.view 3 x3] false)], nx := 1, k := 0 })
noncomputable def x10_0_1 (x0 : Int) (x1 : Int) (x2 : List AV) (x3 : List AV) : X × St := (X.ret, { tm := [(1, AV.ref 0 0 0), (2, AV.int IntKind.i64 10)], hp := [(0, Blk.box [AV.int IntKind.i64 x1, AV.view 3 x2, AV.view 3 x3] false)], nx := 1, k := 0 })
noncomputable def x10_0_2 (x0 : Int) (x1 : Int) (x2 : List AV) (x3 : List AV) : X × St := (X.exit 0, { tm := [(1, AV.ref 0 0 0), (2, AV.junk)], hp := [(0, Blk.box [AV.int IntKind.i64 x1, AV.view 3 x2, AV.view 3 x3] false)], nx := 1, k := 0 })
noncomputable def x10_0 : Nat → TT10_0 → X × St := fun j w => match j with
  | 0 => x10_0_0 w.1 w.2.1 w.2.2.1 w.2.2.2
  | 1 => x10_0_1 w.1 w.2.1 w.2.2.1 w.2.2.2
  | 2 => x10_0_2 w.1 w.2.1 w.2.2.1 w.2.2.2
  | _ => (.ret, ⟨[], [], 0, 0⟩)
theorem e10_0 : ∀ j v, outB (x10_0 j v).1 = true := fun j v => match j with
  | 0 => rfl
  | 1 => rfl
  | 2 => rfl
  | _ + 3 => rfl
noncomputable def st10_0_0 (x0 : Int) (x1 : Int) (x2 : List AV) (x3 : List AV) : DT (Rd TT10_0) :=
 .br (decide (x0 < (↑x2.length : Int)))
  (.br (okAt [CS.int IntKind.i64, CS.int IntKind.i64, CS.int IntKind.i64] x2 x0)
   (.bi (br (decide (intOf (cellAt x2 x0 0) < 1000)) (some true) (some (decide (intOf (cellAt x2 x0 1) < 0)))) (fun y0 =>
    .bi (br y0 (some true) (some (decide (intOf (cellAt x2 x0 2) < 0)))) (fun y1 =>
     .br (y1)
      (.at (.done 0))
      (.br (decide (x0 > 0))
       (.br (okAt [CS.int IntKind.i64, CS.int IntKind.i64, CS.int IntKind.i64] x2 (IntKind.i64.wrap (x0 - 1)))
        (.br (decide (intOf (cellAt x2 x0 0) ≤ intOf (cellAt x2 (IntKind.i64.wrap (x0 - 1)) 0))) (.at (.done 1)) (.at (.next ((IntKind.i64.wrap (x0 + 1), x1, x2, x3)))))
        (.no))
       (.at (.next ((IntKind.i64.wrap (x0 + 1), x1, x2, x3))))))
     (.no))
    (.no))
   (.no))
  (.at (.done 2))
noncomputable def st10_0 : TT10_0 → DT (Rd TT10_0) := (fun v => st10_0_0 v.1 v.2.1 v.2.2.1 v.2.2.2)
noncomputable def T10_0 : Tab := [(34, cloneE 3 24), (35, cloneE 3 32)]
theorem T10_0_ok : TabOk IP (T10_0) := ⟨sp34, sp35, trivial⟩
noncomputable def L10_0 : LTab := []
theorem L10_0_ok : LOk IP (L10_0) (loops (loopAt F10 0).2) := LOk_of (l := []) (by kernel_rfl) trivial
theorem b10_0_0 (v : Int × Int × List AV × List AV) : execK (R := Rx TT10_0) IP (callT (T10_0)) (loopT (L10_0)) (loopAt F10 0).2 (h10_0_0 v) (endK (loopAt F10 0).1 d10_0) = (cvD (fun j => x10_0 j v) (st10_0_0 v.1 v.2.1 v.2.2.1 v.2.2.2)).ev := by kernel_rfl
noncomputable def l10_0 (v : TT10_0) : Option (Nat × TT10_0) := lock (iterO (fun v => (st10_0 v).ev) v)
theorem l10_0_eq (v : TT10_0) : l10_0 v = iterO (fun v => (st10_0 v).ev) v := lock_eq _
noncomputable def ll10_0 : LEnt := lEnt d10_0 (l10_0) (x10_0) 3
theorem t10_0 : Go.Eng.Told IP (loopAt F10 0).1 (loopAt F10 0).2 (ll10_0) := loop_of (st := st10_0) (T10_0_ok) (L10_0_ok) d10_0_ok (fun v => n10_0_0 v) (e10_0) (fun v => b10_0_0 v) (l10_0_eq)

-- f42: 
abbrev A42 : Type := Int
abbrev B42 : Type := Bool
def pa42 : PArgs := ⟨[.int .i64], []⟩
def to42 (ls : List Lf) : Option A42 := eatI ls fun x0 ls => eat0 ls x0
def ea42 (v : A42) : List AV × Heap := ([.int .i64 v], [])
def er42_0 (v : Bool) : Res × Heap := (.ret (.bool v), [])
def er42 : B42 → Res × Heap := er42_0
def en42 : Option B42 → List (Bool × Res × Heap) := (E1 er42_0)
def rd42 : Res → Heap → Option B42 := rDec ⟨false, .bool, []⟩ (fun ls => eatB ls fun x0 ls => eat0 ls x0) (rNo)
theorem to42_ok : ∀ ls v, to42 ls = some v → fArgs pa42 ls = ea42 v := by
  intro ls v h0
  unfold to42 at h0
  obtain ⟨x0, ls0, rfl, h1⟩ := eatI_some h0
  obtain ⟨rfl, rfl⟩ := eat0_some h1
  rfl
theorem rd42_ok : ∀ r h y, rd42 r h = some y → (r, h) = er42 y := rDec_ok (by
  intro ls v h0
  obtain ⟨x0, ls0, rfl, h1⟩ := eatB_some h0
  obtain ⟨rfl, rfl⟩ := eat0_some h1
  rfl
) (rNo_ok)
noncomputable def g42 (G : Int → Option B42) : Ent := fEnt pa42 to42 (fun v => G v) en42
theorem g42_ok (G : Int → Option B42) (hG : ∀ v y, G v = some y → callO IP 42 (ea42 v).1 (ea42 v).2 = some (er42 y)) : Snd IP 42 (g42 G) := fEnt_ok to42_ok E1_ok hG
noncomputable def tr42 (x0 : Int) : DT B42 :=
 .bi (br (decide (x0 ≥ -1000000000000)) (some (decide (x0 ≤ 1000000000000))) (some false)) (fun y0 =>
  .at (y0))
  (.no)
noncomputable def T42 : Tab := [(34, cloneE 3 24), (35, cloneE 3 32)]
theorem T42_ok : TabOk IP (T42) := ⟨sp34, sp35, trivial⟩
noncomputable def L42 : LTab := []
theorem L42_ok : LOk IP (L42) (loops F42.body) := LOk_of (l := []) (by kernel_rfl) trivial
theorem b42 (v : A42) : bodyK (R := B42) IP (callT (T42)) (loopT (L42)) 42 F42 (ea42 v).1 (ea42 v).2 rd42 = (tr42 v).ev := by kernel_rfl
/--  -/
noncomputable def f42 (x0 : Int) : Option B42 := lock (tr42 x0).ev
theorem f42_eq (x0 : Int) : f42 x0 = (tr42 x0).ev := lock_eq _
theorem c42 : ∀ v y, f42 v = some y → callO IP 42 (ea42 v).1 (ea42 v).2 = some (er42 y) := fun v y h => fun_of T42_ok (by kernel_rfl) L42_ok rd42_ok (b42 v) ((f42_eq v).symm.trans h)
theorem s42 : Snd IP 42 (g42 f42) := g42_ok f42 c42

-- l43_0: loop 0 of function 43
abbrev TT43_0 : Type := List UInt8 × Int
def h43_0_0 (v : List UInt8 × Int) : St := ⟨[(1004300, .junk), (0, .str v.1), (3, .int .i64 v.2)], [], 0, 0⟩
def h43_0 : TT43_0 → St := (fun v => h43_0_0 v)
def d43_0 : St → Option TT43_0 := sDec ⟨[(1004300, .junk), (0, .str), (3, .int .i64)], [], 0, 0⟩ (fun ls => eatS ls fun x0 ls => eatI ls fun x1 ls => eat0 ls (x0, x1)) (sNo)
theorem d43_0_ok : ∀ s v, d43_0 s = some v → s = h43_0 v := sDec_ok (by
  intro ls v h0
  obtain ⟨x0, ls0, rfl, h1⟩ := eatS_some h0
  obtain ⟨x1, ls1, rfl, h2⟩ := eatI_some h1
  obtain ⟨rfl, rfl⟩ := eat0_some h2
  rfl
) (sNo_ok)
theorem n43_0_0 (v : List UInt8 × Int) : norm (hk (loopAt F43 0).1) (h43_0_0 v) = some (h43_0_0 v) := by kernel_rfl
noncomputable def x43_0_0 (x0 : List UInt8) (x1 : Int) : X × St := (X.ret, { tm := [(2, AV.bool false)], hp := [], nx := 0, k := 0 })
noncomputable def x43_0_1 (x0 : List UInt8) (x1 : Int) : X × St := (X.exit 0, { tm := [(2, AV.junk)], hp := [], nx := 0, k := 0 })
noncomputable def x43_0 : Nat → TT43_0 → X × St := fun j w => match j with
  | 0 => x43_0_0 w.1 w.2
  | 1 => x43_0_1 w.1 w.2
  | _ => (.ret, ⟨[], [], 0, 0⟩)
theorem e43_0 : ∀ j v, outB (x43_0 j v).1 = true := fun j v => match j with
  | 0 => rfl
  | 1 => rfl
  | _ + 2 => rfl
noncomputable def st43_0_0 (x0 : List UInt8) (x1 : Int) : DT (Rd TT43_0) :=
 .br (decide (x1 < (↑x0.length : Int)))
  (.br (inB x0.length x1)
   (.bi (br (decide (byteAt x0 x1 < 33)) (some true) (br (inB x0.length x1) (some (decide (byteAt x0 x1 > 126))) none)) (fun y0 =>
    .br (y0) (.at (.done 0)) (.at (.next ((x0, IntKind.i64.wrap (x1 + 1))))))
    (.no))
   (.no))
  (.at (.done 1))
noncomputable def st43_0 : TT43_0 → DT (Rd TT43_0) := (fun v => st43_0_0 v.1 v.2)
noncomputable def T43_0 : Tab := [(34, cloneE 3 24), (35, cloneE 3 32)]
theorem T43_0_ok : TabOk IP (T43_0) := ⟨sp34, sp35, trivial⟩
noncomputable def L43_0 : LTab := []
theorem L43_0_ok : LOk IP (L43_0) (loops (loopAt F43 0).2) := LOk_of (l := []) (by kernel_rfl) trivial
theorem b43_0_0 (v : List UInt8 × Int) : execK (R := Rx TT43_0) IP (callT (T43_0)) (loopT (L43_0)) (loopAt F43 0).2 (h43_0_0 v) (endK (loopAt F43 0).1 d43_0) = (cvD (fun j => x43_0 j v) (st43_0_0 v.1 v.2)).ev := by kernel_rfl
noncomputable def l43_0 (v : TT43_0) : Option (Nat × TT43_0) := lock (iterO (fun v => (st43_0 v).ev) v)
theorem l43_0_eq (v : TT43_0) : l43_0 v = iterO (fun v => (st43_0 v).ev) v := lock_eq _
noncomputable def ll43_0 : LEnt := lEnt d43_0 (l43_0) (x43_0) 2
theorem t43_0 : Go.Eng.Told IP (loopAt F43 0).1 (loopAt F43 0).2 (ll43_0) := loop_of (st := st43_0) (T43_0_ok) (L43_0_ok) d43_0_ok (fun v => n43_0_0 v) (e43_0) (fun v => b43_0_0 v) (l43_0_eq)

-- f43: 
abbrev A43 : Type := List UInt8
abbrev B43 : Type := Bool
def pa43 : PArgs := ⟨[.str], []⟩
def to43 (ls : List Lf) : Option A43 := eatS ls fun x0 ls => eat0 ls x0
def ea43 (v : A43) : List AV × Heap := ([.str v], [])
def er43_0 (v : Bool) : Res × Heap := (.ret (.bool v), [])
def er43 : B43 → Res × Heap := er43_0
def en43 : Option B43 → List (Bool × Res × Heap) := (E1 er43_0)
def rd43 : Res → Heap → Option B43 := rDec ⟨false, .bool, []⟩ (fun ls => eatB ls fun x0 ls => eat0 ls x0) (rNo)
theorem to43_ok : ∀ ls v, to43 ls = some v → fArgs pa43 ls = ea43 v := by
  intro ls v h0
  unfold to43 at h0
  obtain ⟨x0, ls0, rfl, h1⟩ := eatS_some h0
  obtain ⟨rfl, rfl⟩ := eat0_some h1
  rfl
theorem rd43_ok : ∀ r h y, rd43 r h = some y → (r, h) = er43 y := rDec_ok (by
  intro ls v h0
  obtain ⟨x0, ls0, rfl, h1⟩ := eatB_some h0
  obtain ⟨rfl, rfl⟩ := eat0_some h1
  rfl
) (rNo_ok)
noncomputable def g43 (G : (List UInt8) → Option B43) : Ent := fEnt pa43 to43 (fun v => G v) en43
theorem g43_ok (G : (List UInt8) → Option B43) (hG : ∀ v y, G v = some y → callO IP 43 (ea43 v).1 (ea43 v).2 = some (er43 y)) : Snd IP 43 (g43 G) := fEnt_ok to43_ok E1_ok hG
noncomputable def tr43 (x0 : List UInt8) : DT B43 :=
 .bi (br (x0 == []) (some true) (some (decide ((↑x0.length : Int) > 48)))) (fun y0 =>
  .br (y0)
   (.at (false))
   (.bi (pj 0 (l43_0 (x0, 0))) (fun y1 =>
    .at (false))
    (.bi (pj 1 (l43_0 (x0, 0))) (fun y1 =>
     .at (true))
     (.no))))
  (.no)
noncomputable def T43 : Tab := [(34, cloneE 3 24), (35, cloneE 3 32)]
theorem T43_ok : TabOk IP (T43) := ⟨sp34, sp35, trivial⟩
noncomputable def L43 : LTab := [(1004300, ll43_0)]
theorem L43_ok : LOk IP (L43) (loops F43.body) := LOk_of (l := [loopAt F43 0]) (by kernel_rfl) ⟨sel_one (by kernel_rfl) t43_0, trivial⟩
theorem b43 (v : A43) : bodyK (R := B43) IP (callT (T43)) (loopT (L43)) 43 F43 (ea43 v).1 (ea43 v).2 rd43 = (tr43 v).ev := by kernel_rfl
/--  -/
noncomputable def f43 (x0 : List UInt8) : Option B43 := lock (tr43 x0).ev
theorem f43_eq (x0 : List UInt8) : f43 x0 = (tr43 x0).ev := lock_eq _
theorem c43 : ∀ v y, f43 v = some y → callO IP 43 (ea43 v).1 (ea43 v).2 = some (er43 y) := fun v y h => fun_of T43_ok (by kernel_rfl) L43_ok rd43_ok (b43 v) ((f43_eq v).symm.trans h)
theorem s43 : Snd IP 43 (g43 f43) := g43_ok f43 c43

-- f24: 
abbrev A24 : Type := Int × List UInt8
abbrev B24 : Type := Bool
def pa24 : PArgs := ⟨[.int .i64, .str], []⟩
def to24 (ls : List Lf) : Option A24 := eatI ls fun x0 ls => eatS ls fun x1 ls => eat0 ls (x0, x1)
def ea24 (v : A24) : List AV × Heap := ([.int .i64 v.1, .str v.2], [])
def er24_0 (v : Bool) : Res × Heap := (.ret (.bool v), [])
def er24 : B24 → Res × Heap := er24_0
def en24 : Option B24 → List (Bool × Res × Heap) := (E1 er24_0)
def rd24 : Res → Heap → Option B24 := rDec ⟨false, .bool, []⟩ (fun ls => eatB ls fun x0 ls => eat0 ls x0) (rNo)
theorem to24_ok : ∀ ls v, to24 ls = some v → fArgs pa24 ls = ea24 v := by
  intro ls v h0
  unfold to24 at h0
  obtain ⟨x0, ls0, rfl, h1⟩ := eatI_some h0
  obtain ⟨x1, ls1, rfl, h2⟩ := eatS_some h1
  obtain ⟨rfl, rfl⟩ := eat0_some h2
  rfl
theorem rd24_ok : ∀ r h y, rd24 r h = some y → (r, h) = er24 y := rDec_ok (by
  intro ls v h0
  obtain ⟨x0, ls0, rfl, h1⟩ := eatB_some h0
  obtain ⟨rfl, rfl⟩ := eat0_some h1
  rfl
) (rNo_ok)
noncomputable def g24 (G : Int → (List UInt8) → Option B24) : Ent := fEnt pa24 to24 (fun v => G v.1 v.2) en24
theorem g24_ok (G : Int → (List UInt8) → Option B24) (hG : ∀ v y, G v.1 v.2 = some y → callO IP 24 (ea24 v).1 (ea24 v).2 = some (er24 y)) : Snd IP 24 (g24 G) := fEnt_ok to24_ok E1_ok hG
noncomputable def tr24 (x0 : Int) (x1 : List UInt8) : DT B24 :=
 .bi (br (x0 != 0) (br (sm (f42 x0)) (some (gv (f42 x0))) none) (some false)) (fun y0 =>
  .bi (br y0 (br (sm (f43 x1)) (some (gv (f43 x1))) none) (some false)) (fun y1 =>
   .at (y1))
   (.no))
  (.no)
noncomputable def T24 : Tab := [(34, cloneE 3 24), (35, cloneE 3 32), (42, g42 f42), (43, g43 f43)]
theorem T24_ok : TabOk IP (T24) := ⟨sp34, sp35, s42, s43, trivial⟩
noncomputable def L24 : LTab := []
theorem L24_ok : LOk IP (L24) (loops F24.body) := LOk_of (l := []) (by kernel_rfl) trivial
theorem b24 (v : A24) : bodyK (R := B24) IP (callT (T24)) (loopT (L24)) 24 F24 (ea24 v).1 (ea24 v).2 rd24 = (tr24 v.1 v.2).ev := by kernel_rfl
/--  -/
noncomputable def f24 (x0 : Int) (x1 : List UInt8) : Option B24 := lock (tr24 x0 x1).ev
theorem f24_eq (x0 : Int) (x1 : List UInt8) : f24 x0 x1 = (tr24 x0 x1).ev := lock_eq _
theorem c24 : ∀ v y, f24 v.1 v.2 = some y → callO IP 24 (ea24 v).1 (ea24 v).2 = some (er24 y) := fun v y h => fun_of T24_ok (by kernel_rfl) L24_ok rd24_ok (b24 v) ((f24_eq v.1 v.2).symm.trans h)
theorem s24 : Snd IP 24 (g24 f24) := g24_ok f24 c24

-- l25_0: loop 0 of function 25
abbrev TT25_0 : Type := Int × Int × Int × List AV × List AV
def h25_0_0 (v : Int × Int × Int × List AV × List AV) : St := ⟨[(1002500, .junk), (1, .int .i64 v.1), (2, .ref 0 0 0), (5, .int .i64 v.2.1)], [(0, .box [.int .i64 v.2.2.1, .view 3 v.2.2.2.1, .view 3 v.2.2.2.2] false)], 1, 0⟩
def h25_0 : TT25_0 → St := (fun v => h25_0_0 v)
def d25_0 : St → Option TT25_0 := sDec ⟨[(1002500, .junk), (1, .int .i64), (2, .ref 0 0 0), (5, .int .i64)], [(0, .box [.int .i64, .view 3, .view 3] false)], 1, 0⟩ (fun ls => eatI ls fun x0 ls => eatI ls fun x1 ls => eatI ls fun x2 ls => eatL ls fun x3 ls => eatL ls fun x4 ls => eat0 ls (x0, x1, x2, x3, x4)) (sNo)
theorem d25_0_ok : ∀ s v, d25_0 s = some v → s = h25_0 v := sDec_ok (by
  intro ls v h0
  obtain ⟨x0, ls0, rfl, h1⟩ := eatI_some h0
  obtain ⟨x1, ls1, rfl, h2⟩ := eatI_some h1
  obtain ⟨x2, ls2, rfl, h3⟩ := eatI_some h2
  obtain ⟨x3, ls3, rfl, h4⟩ := eatL_some h3
  obtain ⟨x4, ls4, rfl, h5⟩ := eatL_some h4
  obtain ⟨rfl, rfl⟩ := eat0_some h5
  rfl
) (sNo_ok)
theorem n25_0_0 (v : Int × Int × Int × List AV × List AV) : norm (hk (loopAt F25 0).1) (h25_0_0 v) = some (h25_0_0 v) := by kernel_rfl
noncomputable def x25_0_0 (x0 : Int) (x1 : Int) (x2 : Int) (x3 : List AV) (x4 : List AV) : X × St := (X.ret, { tm := [(4, AV.int IntKind.i64 x1)], hp := [], nx := 0, k := 0 })
noncomputable def x25_0_1 (x0 : Int) (x1 : Int) (x2 : Int) (x3 : List AV) (x4 : List AV) : X × St := (X.exit 0, { tm := [(4, AV.junk)], hp := [], nx := 0, k := 0 })
noncomputable def x25_0 : Nat → TT25_0 → X × St := fun j w => match j with
  | 0 => x25_0_0 w.1 w.2.1 w.2.2.1 w.2.2.2.1 w.2.2.2.2
  | 1 => x25_0_1 w.1 w.2.1 w.2.2.1 w.2.2.2.1 w.2.2.2.2
  | _ => (.ret, ⟨[], [], 0, 0⟩)
theorem e25_0 : ∀ j v, outB (x25_0 j v).1 = true := fun j v => match j with
  | 0 => rfl
  | 1 => rfl
  | _ + 2 => rfl
noncomputable def st25_0_0 (x0 : Int) (x1 : Int) (x2 : Int) (x3 : List AV) (x4 : List AV) : DT (Rd TT25_0) :=
 .br (decide (x1 < (↑x3.length : Int)))
  (.br (okAt [CS.int IntKind.i64, CS.int IntKind.i64, CS.int IntKind.i64] x3 x1)
   (.br (intOf (cellAt x3 x1 0) == x0) (.at (.done 0)) (.at (.next ((x0, IntKind.i64.wrap (x1 + 1), x2, x3, x4)))))
   (.no))
  (.at (.done 1))
noncomputable def st25_0 : TT25_0 → DT (Rd TT25_0) := (fun v => st25_0_0 v.1 v.2.1 v.2.2.1 v.2.2.2.1 v.2.2.2.2)
noncomputable def T25_0 : Tab := [(34, cloneE 3 24), (35, cloneE 3 32)]
theorem T25_0_ok : TabOk IP (T25_0) := ⟨sp34, sp35, trivial⟩
noncomputable def L25_0 : LTab := []
theorem L25_0_ok : LOk IP (L25_0) (loops (loopAt F25 0).2) := LOk_of (l := []) (by kernel_rfl) trivial
theorem b25_0_0 (v : Int × Int × Int × List AV × List AV) : execK (R := Rx TT25_0) IP (callT (T25_0)) (loopT (L25_0)) (loopAt F25 0).2 (h25_0_0 v) (endK (loopAt F25 0).1 d25_0) = (cvD (fun j => x25_0 j v) (st25_0_0 v.1 v.2.1 v.2.2.1 v.2.2.2.1 v.2.2.2.2)).ev := by kernel_rfl
noncomputable def l25_0 (v : TT25_0) : Option (Nat × TT25_0) := lock (iterO (fun v => (st25_0 v).ev) v)
theorem l25_0_eq (v : TT25_0) : l25_0 v = iterO (fun v => (st25_0 v).ev) v := lock_eq _
noncomputable def ll25_0 : LEnt := lEnt d25_0 (l25_0) (x25_0) 2
theorem t25_0 : Go.Eng.Told IP (loopAt F25 0).1 (loopAt F25 0).2 (ll25_0) := loop_of (st := st25_0) (T25_0_ok) (L25_0_ok) d25_0_ok (fun v => n25_0_0 v) (e25_0) (fun v => b25_0_0 v) (l25_0_eq)

-- f25: 
abbrev A25 : Type := Int × List AV × List AV × Int
abbrev B25 : Type := Int
def pa25 : PArgs := ⟨[.agg [.int .i64, .view 3, .view 3], .int .i64], []⟩
def to25 (ls : List Lf) : Option A25 := eatI ls fun x0 ls => eatL ls fun x1 ls => eatL ls fun x2 ls => eatI ls fun x3 ls => eat0 ls (x0, x1, x2, x3)
def ea25 (v : A25) : List AV × Heap := ([.agg [.int .i64 v.1, .view 3 v.2.1, .view 3 v.2.2.1], .int .i64 v.2.2.2], [])
def er25_0 (v : Int) : Res × Heap := (.ret (.int .i64 v), [])
def er25 : B25 → Res × Heap := er25_0
def en25 : Option B25 → List (Bool × Res × Heap) := (E1 er25_0)
def rd25 : Res → Heap → Option B25 := rDec ⟨false, .int .i64, []⟩ (fun ls => eatI ls fun x0 ls => eat0 ls x0) (rNo)
theorem to25_ok : ∀ ls v, to25 ls = some v → fArgs pa25 ls = ea25 v := by
  intro ls v h0
  unfold to25 at h0
  obtain ⟨x0, ls0, rfl, h1⟩ := eatI_some h0
  obtain ⟨x1, ls1, rfl, h2⟩ := eatL_some h1
  obtain ⟨x2, ls2, rfl, h3⟩ := eatL_some h2
  obtain ⟨x3, ls3, rfl, h4⟩ := eatI_some h3
  obtain ⟨rfl, rfl⟩ := eat0_some h4
  rfl
theorem rd25_ok : ∀ r h y, rd25 r h = some y → (r, h) = er25 y := rDec_ok (by
  intro ls v h0
  obtain ⟨x0, ls0, rfl, h1⟩ := eatI_some h0
  obtain ⟨rfl, rfl⟩ := eat0_some h1
  rfl
) (rNo_ok)
noncomputable def g25 (G : Int → (List AV) → (List AV) → Int → Option B25) : Ent := fEnt pa25 to25 (fun v => G v.1 v.2.1 v.2.2.1 v.2.2.2) en25
theorem g25_ok (G : Int → (List AV) → (List AV) → Int → Option B25) (hG : ∀ v y, G v.1 v.2.1 v.2.2.1 v.2.2.2 = some y → callO IP 25 (ea25 v).1 (ea25 v).2 = some (er25 y)) : Snd IP 25 (g25 G) := fEnt_ok to25_ok E1_ok hG
noncomputable def tr25 (x0 : Int) (x1 : List AV) (x2 : List AV) (x3 : Int) : DT B25 :=
 .bi (pj 0 (l25_0 (x3, 0, x0, x1, x2))) (fun y0 =>
  .at (y0.snd.fst))
  (.bi (pj 1 (l25_0 (x3, 0, x0, x1, x2))) (fun y0 =>
   .at (-1))
   (.no))
noncomputable def T25 : Tab := [(34, cloneE 3 24), (35, cloneE 3 32)]
theorem T25_ok : TabOk IP (T25) := ⟨sp34, sp35, trivial⟩
noncomputable def L25 : LTab := [(1002500, ll25_0)]
theorem L25_ok : LOk IP (L25) (loops F25.body) := LOk_of (l := [loopAt F25 0]) (by kernel_rfl) ⟨sel_one (by kernel_rfl) t25_0, trivial⟩
theorem b25 (v : A25) : bodyK (R := B25) IP (callT (T25)) (loopT (L25)) 25 F25 (ea25 v).1 (ea25 v).2 rd25 = (tr25 v.1 v.2.1 v.2.2.1 v.2.2.2).ev := by kernel_rfl
/--  -/
noncomputable def f25 (x0 : Int) (x1 : List AV) (x2 : List AV) (x3 : Int) : Option B25 := lock (tr25 x0 x1 x2 x3).ev
theorem f25_eq (x0 : Int) (x1 : List AV) (x2 : List AV) (x3 : Int) : f25 x0 x1 x2 x3 = (tr25 x0 x1 x2 x3).ev := lock_eq _
theorem c25 : ∀ v y, f25 v.1 v.2.1 v.2.2.1 v.2.2.2 = some y → callO IP 25 (ea25 v).1 (ea25 v).2 = some (er25 y) := fun v y h => fun_of T25_ok (by kernel_rfl) L25_ok rd25_ok (b25 v) ((f25_eq v.1 v.2.1 v.2.2.1 v.2.2.2).symm.trans h)
theorem s25 : Snd IP 25 (g25 f25) := g25_ok f25 c25

-- l26_0: loop 0 of function 26
abbrev TT26_0 : Type := List AV × List UInt8 × Int
def h26_0_0 (v : List AV × List UInt8 × Int) : St := ⟨[(1002600, .junk), (0, .view 3 v.1), (1, .str v.2.1), (5, .int .i64 v.2.2)], [], 0, 0⟩
def h26_0 : TT26_0 → St := (fun v => h26_0_0 v)
def d26_0 : St → Option TT26_0 := sDec ⟨[(1002600, .junk), (0, .view 3), (1, .str), (5, .int .i64)], [], 0, 0⟩ (fun ls => eatL ls fun x0 ls => eatS ls fun x1 ls => eatI ls fun x2 ls => eat0 ls (x0, x1, x2)) (sNo)
theorem d26_0_ok : ∀ s v, d26_0 s = some v → s = h26_0 v := sDec_ok (by
  intro ls v h0
  obtain ⟨x0, ls0, rfl, h1⟩ := eatL_some h0
  obtain ⟨x1, ls1, rfl, h2⟩ := eatS_some h1
  obtain ⟨x2, ls2, rfl, h3⟩ := eatI_some h2
  obtain ⟨rfl, rfl⟩ := eat0_some h3
  rfl
) (sNo_ok)
theorem n26_0_0 (v : List AV × List UInt8 × Int) : norm (hk (loopAt F26 0).1) (h26_0_0 v) = some (h26_0_0 v) := by kernel_rfl
noncomputable def x26_0_0 (x0 : List AV) (x1 : List UInt8) (x2 : Int) : X × St := (X.ret, { tm := [(4, AV.bool true)], hp := [], nx := 0, k := 0 })
noncomputable def x26_0_1 (x0 : List AV) (x1 : List UInt8) (x2 : Int) : X × St := (X.exit 0, { tm := [(4, AV.junk)], hp := [], nx := 0, k := 0 })
noncomputable def x26_0 : Nat → TT26_0 → X × St := fun j w => match j with
  | 0 => x26_0_0 w.1 w.2.1 w.2.2
  | 1 => x26_0_1 w.1 w.2.1 w.2.2
  | _ => (.ret, ⟨[], [], 0, 0⟩)
theorem e26_0 : ∀ j v, outB (x26_0 j v).1 = true := fun j v => match j with
  | 0 => rfl
  | 1 => rfl
  | _ + 2 => rfl
noncomputable def st26_0_0 (x0 : List AV) (x1 : List UInt8) (x2 : Int) : DT (Rd TT26_0) :=
 .br (decide (x2 < (↑x0.length : Int)))
  (.br (okAt [CS.int IntKind.i64, CS.int IntKind.i64, CS.str] x0 x2)
   (.br (strOf (cellAt x0 x2 2) == x1) (.at (.done 0)) (.at (.next ((x0, x1, IntKind.i64.wrap (x2 + 1))))))
   (.no))
  (.at (.done 1))
noncomputable def st26_0 : TT26_0 → DT (Rd TT26_0) := (fun v => st26_0_0 v.1 v.2.1 v.2.2)
noncomputable def T26_0 : Tab := [(34, cloneE 3 24), (35, cloneE 3 32)]
theorem T26_0_ok : TabOk IP (T26_0) := ⟨sp34, sp35, trivial⟩
noncomputable def L26_0 : LTab := []
theorem L26_0_ok : LOk IP (L26_0) (loops (loopAt F26 0).2) := LOk_of (l := []) (by kernel_rfl) trivial
theorem b26_0_0 (v : List AV × List UInt8 × Int) : execK (R := Rx TT26_0) IP (callT (T26_0)) (loopT (L26_0)) (loopAt F26 0).2 (h26_0_0 v) (endK (loopAt F26 0).1 d26_0) = (cvD (fun j => x26_0 j v) (st26_0_0 v.1 v.2.1 v.2.2)).ev := by kernel_rfl
noncomputable def l26_0 (v : TT26_0) : Option (Nat × TT26_0) := lock (iterO (fun v => (st26_0 v).ev) v)
theorem l26_0_eq (v : TT26_0) : l26_0 v = iterO (fun v => (st26_0 v).ev) v := lock_eq _
noncomputable def ll26_0 : LEnt := lEnt d26_0 (l26_0) (x26_0) 2
theorem t26_0 : Go.Eng.Told IP (loopAt F26 0).1 (loopAt F26 0).2 (ll26_0) := loop_of (st := st26_0) (T26_0_ok) (L26_0_ok) d26_0_ok (fun v => n26_0_0 v) (e26_0) (fun v => b26_0_0 v) (l26_0_eq)

-- f26: 
abbrev A26 : Type := List AV × List UInt8
abbrev B26 : Type := Bool
def pa26 : PArgs := ⟨[.view 3, .str], []⟩
def to26 (ls : List Lf) : Option A26 := eatL ls fun x0 ls => eatS ls fun x1 ls => eat0 ls (x0, x1)
def ea26 (v : A26) : List AV × Heap := ([.view 3 v.1, .str v.2], [])
def er26_0 (v : Bool) : Res × Heap := (.ret (.bool v), [])
def er26 : B26 → Res × Heap := er26_0
def en26 : Option B26 → List (Bool × Res × Heap) := (E1 er26_0)
def rd26 : Res → Heap → Option B26 := rDec ⟨false, .bool, []⟩ (fun ls => eatB ls fun x0 ls => eat0 ls x0) (rNo)
theorem to26_ok : ∀ ls v, to26 ls = some v → fArgs pa26 ls = ea26 v := by
  intro ls v h0
  unfold to26 at h0
  obtain ⟨x0, ls0, rfl, h1⟩ := eatL_some h0
  obtain ⟨x1, ls1, rfl, h2⟩ := eatS_some h1
  obtain ⟨rfl, rfl⟩ := eat0_some h2
  rfl
theorem rd26_ok : ∀ r h y, rd26 r h = some y → (r, h) = er26 y := rDec_ok (by
  intro ls v h0
  obtain ⟨x0, ls0, rfl, h1⟩ := eatB_some h0
  obtain ⟨rfl, rfl⟩ := eat0_some h1
  rfl
) (rNo_ok)
noncomputable def g26 (G : (List AV) → (List UInt8) → Option B26) : Ent := fEnt pa26 to26 (fun v => G v.1 v.2) en26
theorem g26_ok (G : (List AV) → (List UInt8) → Option B26) (hG : ∀ v y, G v.1 v.2 = some y → callO IP 26 (ea26 v).1 (ea26 v).2 = some (er26 y)) : Snd IP 26 (g26 G) := fEnt_ok to26_ok E1_ok hG
noncomputable def tr26 (x0 : List AV) (x1 : List UInt8) : DT B26 :=
 .bi (pj 0 (l26_0 (x0, x1, 0))) (fun y0 =>
  .at (true))
  (.bi (pj 1 (l26_0 (x0, x1, 0))) (fun y0 =>
   .at (false))
   (.no))
noncomputable def T26 : Tab := [(34, cloneE 3 24), (35, cloneE 3 32)]
theorem T26_ok : TabOk IP (T26) := ⟨sp34, sp35, trivial⟩
noncomputable def L26 : LTab := [(1002600, ll26_0)]
theorem L26_ok : LOk IP (L26) (loops F26.body) := LOk_of (l := [loopAt F26 0]) (by kernel_rfl) ⟨sel_one (by kernel_rfl) t26_0, trivial⟩
theorem b26 (v : A26) : bodyK (R := B26) IP (callT (T26)) (loopT (L26)) 26 F26 (ea26 v).1 (ea26 v).2 rd26 = (tr26 v.1 v.2).ev := by kernel_rfl
/--  -/
noncomputable def f26 (x0 : List AV) (x1 : List UInt8) : Option B26 := lock (tr26 x0 x1).ev
theorem f26_eq (x0 : List AV) (x1 : List UInt8) : f26 x0 x1 = (tr26 x0 x1).ev := lock_eq _
theorem c26 : ∀ v y, f26 v.1 v.2 = some y → callO IP 26 (ea26 v).1 (ea26 v).2 = some (er26 y) := fun v y h => fun_of T26_ok (by kernel_rfl) L26_ok rd26_ok (b26 v) ((f26_eq v.1 v.2).symm.trans h)
theorem s26 : Snd IP 26 (g26 f26) := g26_ok f26 c26

-- l10_1: loop 1 of function 10
abbrev TT10_1 : Type := Int × Int × List AV × List AV
def h10_1_0 (v : Int × Int × List AV × List AV) : St := ⟨[(1001001, .junk), (1, .ref 0 0 0), (5, .int .i64 v.1)], [(0, .box [.int .i64 v.2.1, .view 3 v.2.2.1, .view 3 v.2.2.2] false)], 1, 0⟩
def h10_1 : TT10_1 → St := (fun v => h10_1_0 v)
def d10_1 : St → Option TT10_1 := sDec ⟨[(1001001, .junk), (1, .ref 0 0 0), (5, .int .i64)], [(0, .box [.int .i64, .view 3, .view 3] false)], 1, 0⟩ (fun ls => eatI ls fun x0 ls => eatI ls fun x1 ls => eatL ls fun x2 ls => eatL ls fun x3 ls => eat0 ls (x0, x1, x2, x3)) (sNo)
theorem d10_1_ok : ∀ s v, d10_1 s = some v → s = h10_1 v := sDec_ok (by
  intro ls v h0
  obtain ⟨x0, ls0, rfl, h1⟩ := eatI_some h0
  obtain ⟨x1, ls1, rfl, h2⟩ := eatI_some h1
  obtain ⟨x2, ls2, rfl, h3⟩ := eatL_some h2
  obtain ⟨x3, ls3, rfl, h4⟩ := eatL_some h3
  obtain ⟨rfl, rfl⟩ := eat0_some h4
  rfl
) (sNo_ok)
theorem n10_1_0 (v : Int × Int × List AV × List AV) : norm (hk (loopAt F10 1).1) (h10_1_0 v) = some (h10_1_0 v) := by kernel_rfl
noncomputable def x10_1_0 (x0 : Int) (x1 : Int) (x2 : List AV) (x3 : List AV) : X × St := (X.ret, { tm := [(1, AV.ref 0 0 0), (2, AV.int IntKind.i64 1)], hp := [(0, Blk.box [AV.int IntKind.i64 x1, AV.view 3 x2, AV.view 3 x3] false)], nx := 1, k := 0 })
noncomputable def x10_1_1 (x0 : Int) (x1 : Int) (x2 : List AV) (x3 : List AV) : X × St := (X.ret, { tm := [(1, AV.ref 0 0 0), (2, AV.int IntKind.i64 11)], hp := [(0, Blk.box [AV.int IntKind.i64 x1, AV.view 3 x2, AV.view 3 x3] false)], nx := 1, k := 0 })
noncomputable def x10_1_2 (x0 : Int) (x1 : Int) (x2 : List AV) (x3 : List AV) : X × St := (X.ret, { tm := [(1, AV.ref 0 0 0), (2, AV.int IntKind.i64 12)], hp := [(0, Blk.box [AV.int IntKind.i64 x1, AV.view 3 x2, AV.view 3 x3] false)], nx := 1, k := 0 })
noncomputable def x10_1_3 (x0 : Int) (x1 : Int) (x2 : List AV) (x3 : List AV) : X × St := (X.exit 2, { tm := [(1, AV.ref 0 0 0), (2, AV.junk)], hp := [(0, Blk.box [AV.int IntKind.i64 x1, AV.view 3 x2, AV.view 3 x3] false)], nx := 1, k := 0 })
noncomputable def x10_1 : Nat → TT10_1 → X × St := fun j w => match j with
  | 0 => x10_1_0 w.1 w.2.1 w.2.2.1 w.2.2.2
  | 1 => x10_1_1 w.1 w.2.1 w.2.2.1 w.2.2.2
  | 2 => x10_1_2 w.1 w.2.1 w.2.2.1 w.2.2.2
  | 3 => x10_1_3 w.1 w.2.1 w.2.2.1 w.2.2.2
  | _ => (.ret, ⟨[], [], 0, 0⟩)
theorem e10_1 : ∀ j v, outB (x10_1 j v).1 = true := fun j v => match j with
  | 0 => rfl
  | 1 => rfl
  | 2 => rfl
  | 3 => rfl
  | _ + 4 => rfl
noncomputable def st10_1_0 (x0 : Int) (x1 : Int) (x2 : List AV) (x3 : List AV) : DT (Rd TT10_1) :=
 .br (decide (x0 < (↑x3.length : Int)))
  (.br (okAt [CS.int IntKind.i64, CS.int IntKind.i64, CS.str] x3 x0)
   (.bi (f24 (intOf (cellAt x3 x0 1)) (strOf (cellAt x3 x0 2))) (fun y0 =>
    .br (!y0)
     (.at (.done 0))
     (.bi (f25 x1 x2 x3 (intOf (cellAt x3 x0 0))) (fun y1 =>
      .br (decide (y1 < 0))
       (.at (.done 1))
       (.br (leB x0 x3.length && true)
        (.bi (f26 (List.take x0.toNat x3) (strOf (cellAt x3 x0 2))) (fun y2 =>
         .br (y2) (.at (.done 2)) (.at (.next ((IntKind.i64.wrap (x0 + 1), x1, x2, x3)))))
         (.no))
        (.no)))
      (.no)))
    (.no))
   (.no))
  (.at (.done 3))
noncomputable def st10_1 : TT10_1 → DT (Rd TT10_1) := (fun v => st10_1_0 v.1 v.2.1 v.2.2.1 v.2.2.2)
noncomputable def T10_1 : Tab := [(34, cloneE 3 24), (35, cloneE 3 32), (24, g24 f24), (25, g25 f25), (26, g26 f26)]
theorem T10_1_ok : TabOk IP (T10_1) := ⟨sp34, sp35, s24, s25, s26, trivial⟩
noncomputable def L10_1 : LTab := []
theorem L10_1_ok : LOk IP (L10_1) (loops (loopAt F10 1).2) := LOk_of (l := []) (by kernel_rfl) trivial
theorem b10_1_0 (v : Int × Int × List AV × List AV) : execK (R := Rx TT10_1) IP (callT (T10_1)) (loopT (L10_1)) (loopAt F10 1).2 (h10_1_0 v) (endK (loopAt F10 1).1 d10_1) = (cvD (fun j => x10_1 j v) (st10_1_0 v.1 v.2.1 v.2.2.1 v.2.2.2)).ev := by kernel_rfl
noncomputable def l10_1 (v : TT10_1) : Option (Nat × TT10_1) := lock (iterO (fun v => (st10_1 v).ev) v)
theorem l10_1_eq (v : TT10_1) : l10_1 v = iterO (fun v => (st10_1 v).ev) v := lock_eq _
noncomputable def ll10_1 : LEnt := lEnt d10_1 (l10_1) (x10_1) 4
theorem t10_1 : Go.Eng.Told IP (loopAt F10 1).1 (loopAt F10 1).2 (ll10_1) := loop_of (st := st10_1) (T10_1_ok) (L10_1_ok) d10_1_ok (fun v => n10_1_0 v) (e10_1) (fun v => b10_1_0 v) (l10_1_eq)

-- l27_0: loop 0 of function 27
abbrev TT27_0 : Type := List AV × Int × Int × Int
def h27_0_0 (v : List AV × Int × Int × Int) : St := ⟨[(1002700, .junk), (0, .view 3 v.1), (1, .int .i64 v.2.1), (5, .int .i64 v.2.2.1), (6, .int .i64 v.2.2.2)], [], 0, 0⟩
def h27_0 : TT27_0 → St := (fun v => h27_0_0 v)
def d27_0 : St → Option TT27_0 := sDec ⟨[(1002700, .junk), (0, .view 3), (1, .int .i64), (5, .int .i64), (6, .int .i64)], [], 0, 0⟩ (fun ls => eatL ls fun x0 ls => eatI ls fun x1 ls => eatI ls fun x2 ls => eatI ls fun x3 ls => eat0 ls (x0, x1, x2, x3)) (sNo)
theorem d27_0_ok : ∀ s v, d27_0 s = some v → s = h27_0 v := sDec_ok (by
  intro ls v h0
  obtain ⟨x0, ls0, rfl, h1⟩ := eatL_some h0
  obtain ⟨x1, ls1, rfl, h2⟩ := eatI_some h1
  obtain ⟨x2, ls2, rfl, h3⟩ := eatI_some h2
  obtain ⟨x3, ls3, rfl, h4⟩ := eatI_some h3
  obtain ⟨rfl, rfl⟩ := eat0_some h4
  rfl
) (sNo_ok)
theorem n27_0_0 (v : List AV × Int × Int × Int) : norm (hk (loopAt F27 0).1) (h27_0_0 v) = some (h27_0_0 v) := by kernel_rfl
noncomputable def x27_0_0 (x0 : List AV) (x1 : Int) (x2 : Int) (x3 : Int) : X × St := (X.exit 0, { tm := [(5, AV.int IntKind.i64 x2)], hp := [], nx := 0, k := 0 })
noncomputable def x27_0 : Nat → TT27_0 → X × St := fun j w => match j with
  | 0 => x27_0_0 w.1 w.2.1 w.2.2.1 w.2.2.2
  | _ => (.ret, ⟨[], [], 0, 0⟩)
theorem e27_0 : ∀ j v, outB (x27_0 j v).1 = true := fun j v => match j with
  | 0 => rfl
  | _ + 1 => rfl
noncomputable def st27_0_0 (x0 : List AV) (x1 : Int) (x2 : Int) (x3 : Int) : DT (Rd TT27_0) :=
 .br (decide (x3 < (↑x0.length : Int)))
  (.br (okAt [CS.int IntKind.i64, CS.int IntKind.i64, CS.str] x0 x3)
   (.bi (br (intOf (cellAt x0 x3 0) == x1) (br (okAt [CS.int IntKind.i64, CS.int IntKind.i64, CS.str] x0 x3) (some (decide (intOf (cellAt x0 x3 1) < 0))) none) (some false)) (fun y0 =>
    .br (y0)
     (.br (okAt [CS.int IntKind.i64, CS.int IntKind.i64, CS.str] x0 x3) (.at (.next ((x0, x1, IntKind.i64.wrap (x2 - intOf (cellAt x0 x3 1)), IntKind.i64.wrap (x3 + 1))))) (.no))
     (.at (.next ((x0, x1, x2, IntKind.i64.wrap (x3 + 1))))))
    (.no))
   (.no))
  (.at (.done 0))
noncomputable def st27_0 : TT27_0 → DT (Rd TT27_0) := (fun v => st27_0_0 v.1 v.2.1 v.2.2.1 v.2.2.2)
noncomputable def T27_0 : Tab := [(34, cloneE 3 24), (35, cloneE 3 32)]
theorem T27_0_ok : TabOk IP (T27_0) := ⟨sp34, sp35, trivial⟩
noncomputable def L27_0 : LTab := []
theorem L27_0_ok : LOk IP (L27_0) (loops (loopAt F27 0).2) := LOk_of (l := []) (by kernel_rfl) trivial
theorem b27_0_0 (v : List AV × Int × Int × Int) : execK (R := Rx TT27_0) IP (callT (T27_0)) (loopT (L27_0)) (loopAt F27 0).2 (h27_0_0 v) (endK (loopAt F27 0).1 d27_0) = (cvD (fun j => x27_0 j v) (st27_0_0 v.1 v.2.1 v.2.2.1 v.2.2.2)).ev := by kernel_rfl
noncomputable def l27_0 (v : TT27_0) : Option (Nat × TT27_0) := lock (iterO (fun v => (st27_0 v).ev) v)
theorem l27_0_eq (v : TT27_0) : l27_0 v = iterO (fun v => (st27_0 v).ev) v := lock_eq _
noncomputable def ll27_0 : LEnt := lEnt d27_0 (l27_0) (x27_0) 1
theorem t27_0 : Go.Eng.Told IP (loopAt F27 0).1 (loopAt F27 0).2 (ll27_0) := loop_of (st := st27_0) (T27_0_ok) (L27_0_ok) d27_0_ok (fun v => n27_0_0 v) (e27_0) (fun v => b27_0_0 v) (l27_0_eq)

-- f27: 
abbrev A27 : Type := List AV × Int
abbrev B27 : Type := Int
def pa27 : PArgs := ⟨[.view 3, .int .i64], []⟩
def to27 (ls : List Lf) : Option A27 := eatL ls fun x0 ls => eatI ls fun x1 ls => eat0 ls (x0, x1)
def ea27 (v : A27) : List AV × Heap := ([.view 3 v.1, .int .i64 v.2], [])
def er27_0 (v : Int) : Res × Heap := (.ret (.int .i64 v), [])
def er27 : B27 → Res × Heap := er27_0
def en27 : Option B27 → List (Bool × Res × Heap) := (E1 er27_0)
def rd27 : Res → Heap → Option B27 := rDec ⟨false, .int .i64, []⟩ (fun ls => eatI ls fun x0 ls => eat0 ls x0) (rNo)
theorem to27_ok : ∀ ls v, to27 ls = some v → fArgs pa27 ls = ea27 v := by
  intro ls v h0
  unfold to27 at h0
  obtain ⟨x0, ls0, rfl, h1⟩ := eatL_some h0
  obtain ⟨x1, ls1, rfl, h2⟩ := eatI_some h1
  obtain ⟨rfl, rfl⟩ := eat0_some h2
  rfl
theorem rd27_ok : ∀ r h y, rd27 r h = some y → (r, h) = er27 y := rDec_ok (by
  intro ls v h0
  obtain ⟨x0, ls0, rfl, h1⟩ := eatI_some h0
  obtain ⟨rfl, rfl⟩ := eat0_some h1
  rfl
) (rNo_ok)
noncomputable def g27 (G : (List AV) → Int → Option B27) : Ent := fEnt pa27 to27 (fun v => G v.1 v.2) en27
theorem g27_ok (G : (List AV) → Int → Option B27) (hG : ∀ v y, G v.1 v.2 = some y → callO IP 27 (ea27 v).1 (ea27 v).2 = some (er27 y)) : Snd IP 27 (g27 G) := fEnt_ok to27_ok E1_ok hG
noncomputable def tr27 (x0 : List AV) (x1 : Int) : DT B27 :=
 .bi (pj 0 (l27_0 (x0, x1, 0, 0))) (fun y0 =>
  .at (y0.snd.snd.fst))
  (.no)
noncomputable def T27 : Tab := [(34, cloneE 3 24), (35, cloneE 3 32)]
theorem T27_ok : TabOk IP (T27) := ⟨sp34, sp35, trivial⟩
noncomputable def L27 : LTab := [(1002700, ll27_0)]
theorem L27_ok : LOk IP (L27) (loops F27.body) := LOk_of (l := [loopAt F27 0]) (by kernel_rfl) ⟨sel_one (by kernel_rfl) t27_0, trivial⟩
theorem b27 (v : A27) : bodyK (R := B27) IP (callT (T27)) (loopT (L27)) 27 F27 (ea27 v).1 (ea27 v).2 rd27 = (tr27 v.1 v.2).ev := by kernel_rfl
/--  -/
noncomputable def f27 (x0 : List AV) (x1 : Int) : Option B27 := lock (tr27 x0 x1).ev
theorem f27_eq (x0 : List AV) (x1 : Int) : f27 x0 x1 = (tr27 x0 x1).ev := lock_eq _
theorem c27 : ∀ v y, f27 v.1 v.2 = some y → callO IP 27 (ea27 v).1 (ea27 v).2 = some (er27 y) := fun v y h => fun_of T27_ok (by kernel_rfl) L27_ok rd27_ok (b27 v) ((f27_eq v.1 v.2).symm.trans h)
theorem s27 : Snd IP 27 (g27 f27) := g27_ok f27 c27

-- l10_2: loop 2 of function 10
abbrev TT10_2 : Type := Int × Int × List AV × List AV
def h10_2_0 (v : Int × Int × List AV × List AV) : St := ⟨[(1001002, .junk), (1, .ref 0 0 0), (7, .int .i64 v.1)], [(0, .box [.int .i64 v.2.1, .view 3 v.2.2.1, .view 3 v.2.2.2] false)], 1, 0⟩
def h10_2 : TT10_2 → St := (fun v => h10_2_0 v)
def d10_2 : St → Option TT10_2 := sDec ⟨[(1001002, .junk), (1, .ref 0 0 0), (7, .int .i64)], [(0, .box [.int .i64, .view 3, .view 3] false)], 1, 0⟩ (fun ls => eatI ls fun x0 ls => eatI ls fun x1 ls => eatL ls fun x2 ls => eatL ls fun x3 ls => eat0 ls (x0, x1, x2, x3)) (sNo)
theorem d10_2_ok : ∀ s v, d10_2 s = some v → s = h10_2 v := sDec_ok (by
  intro ls v h0
  obtain ⟨x0, ls0, rfl, h1⟩ := eatI_some h0
  obtain ⟨x1, ls1, rfl, h2⟩ := eatI_some h1
  obtain ⟨x2, ls2, rfl, h3⟩ := eatL_some h2
  obtain ⟨x3, ls3, rfl, h4⟩ := eatL_some h3
  obtain ⟨rfl, rfl⟩ := eat0_some h4
  rfl
) (sNo_ok)
theorem n10_2_0 (v : Int × Int × List AV × List AV) : norm (hk (loopAt F10 2).1) (h10_2_0 v) = some (h10_2_0 v) := by kernel_rfl
noncomputable def x10_2_0 (x0 : Int) (x1 : Int) (x2 : List AV) (x3 : List AV) : X × St := (X.ret, { tm := [(2, AV.int IntKind.i64 25)], hp := [], nx := 0, k := 0 })
noncomputable def x10_2_1 (x0 : Int) (x1 : Int) (x2 : List AV) (x3 : List AV) : X × St := (X.exit 4, { tm := [(2, AV.junk)], hp := [], nx := 0, k := 0 })
noncomputable def x10_2 : Nat → TT10_2 → X × St := fun j w => match j with
  | 0 => x10_2_0 w.1 w.2.1 w.2.2.1 w.2.2.2
  | 1 => x10_2_1 w.1 w.2.1 w.2.2.1 w.2.2.2
  | _ => (.ret, ⟨[], [], 0, 0⟩)
theorem e10_2 : ∀ j v, outB (x10_2 j v).1 = true := fun j v => match j with
  | 0 => rfl
  | 1 => rfl
  | _ + 2 => rfl
noncomputable def st10_2_0 (x0 : Int) (x1 : Int) (x2 : List AV) (x3 : List AV) : DT (Rd TT10_2) :=
 .br (decide (x0 < (↑x2.length : Int)))
  (.br (okAt [CS.int IntKind.i64, CS.int IntKind.i64, CS.int IntKind.i64] x2 x0)
   (.bi (f27 x3 (intOf (cellAt x2 x0 0))) (fun y0 =>
    .br (intOf (cellAt x2 x0 2) != y0)
     (.at (.done 0))
     (.br (decide (intOf (cellAt x2 x0 2) > intOf (cellAt x2 x0 1)))
      (.at (.done 0))
      (.br (decide (intOf (cellAt x2 x0 2) > x1)) (.at (.done 0)) (.at (.next ((IntKind.i64.wrap (x0 + 1), x1, x2, x3)))))))
    (.no))
   (.no))
  (.at (.done 1))
noncomputable def st10_2 : TT10_2 → DT (Rd TT10_2) := (fun v => st10_2_0 v.1 v.2.1 v.2.2.1 v.2.2.2)
noncomputable def T10_2 : Tab := [(34, cloneE 3 24), (35, cloneE 3 32), (27, g27 f27)]
theorem T10_2_ok : TabOk IP (T10_2) := ⟨sp34, sp35, s27, trivial⟩
noncomputable def L10_2 : LTab := []
theorem L10_2_ok : LOk IP (L10_2) (loops (loopAt F10 2).2) := LOk_of (l := []) (by kernel_rfl) trivial
theorem b10_2_0 (v : Int × Int × List AV × List AV) : execK (R := Rx TT10_2) IP (callT (T10_2)) (loopT (L10_2)) (loopAt F10 2).2 (h10_2_0 v) (endK (loopAt F10 2).1 d10_2) = (cvD (fun j => x10_2 j v) (st10_2_0 v.1 v.2.1 v.2.2.1 v.2.2.2)).ev := by kernel_rfl
noncomputable def l10_2 (v : TT10_2) : Option (Nat × TT10_2) := lock (iterO (fun v => (st10_2 v).ev) v)
theorem l10_2_eq (v : TT10_2) : l10_2 v = iterO (fun v => (st10_2 v).ev) v := lock_eq _
noncomputable def ll10_2 : LEnt := lEnt d10_2 (l10_2) (x10_2) 2
theorem t10_2 : Go.Eng.Told IP (loopAt F10 2).1 (loopAt F10 2).2 (ll10_2) := loop_of (st := st10_2) (T10_2_ok) (L10_2_ok) d10_2_ok (fun v => n10_2_0 v) (e10_2) (fun v => b10_2_0 v) (l10_2_eq)

-- f10: R.Check
abbrev A10 : Type := Int × List AV × List AV
abbrev B10 : Type := Int
def pa10 : PArgs := ⟨[.agg [.int .i64, .view 3, .view 3]], []⟩
def to10 (ls : List Lf) : Option A10 := eatI ls fun x0 ls => eatL ls fun x1 ls => eatL ls fun x2 ls => eat0 ls (x0, x1, x2)
def ea10 (v : A10) : List AV × Heap := ([.agg [.int .i64 v.1, .view 3 v.2.1, .view 3 v.2.2]], [])
def er10_0 (v : Int) : Res × Heap := (.ret (.int .i64 v), [])
def er10 : B10 → Res × Heap := er10_0
def en10 : Option B10 → List (Bool × Res × Heap) := (E1 er10_0)
def rd10 : Res → Heap → Option B10 := rDec ⟨false, .int .i64, []⟩ (fun ls => eatI ls fun x0 ls => eat0 ls x0) (rNo)
theorem to10_ok : ∀ ls v, to10 ls = some v → fArgs pa10 ls = ea10 v := by
  intro ls v h0
  unfold to10 at h0
  obtain ⟨x0, ls0, rfl, h1⟩ := eatI_some h0
  obtain ⟨x1, ls1, rfl, h2⟩ := eatL_some h1
  obtain ⟨x2, ls2, rfl, h3⟩ := eatL_some h2
  obtain ⟨rfl, rfl⟩ := eat0_some h3
  rfl
theorem rd10_ok : ∀ r h y, rd10 r h = some y → (r, h) = er10 y := rDec_ok (by
  intro ls v h0
  obtain ⟨x0, ls0, rfl, h1⟩ := eatI_some h0
  obtain ⟨rfl, rfl⟩ := eat0_some h1
  rfl
) (rNo_ok)
noncomputable def g10 (G : Int → (List AV) → (List AV) → Option B10) : Ent := fEnt pa10 to10 (fun v => G v.1 v.2.1 v.2.2) en10
theorem g10_ok (G : Int → (List AV) → (List AV) → Option B10) (hG : ∀ v y, G v.1 v.2.1 v.2.2 = some y → callO IP 10 (ea10 v).1 (ea10 v).2 = some (er10 y)) : Snd IP 10 (g10 G) := fEnt_ok to10_ok E1_ok hG
noncomputable def tr10 (x0 : Int) (x1 : List AV) (x2 : List AV) : DT B10 :=
 .bi (br (decide ((↑x1.length : Int) > 64)) (some true) (some (decide ((↑x2.length : Int) > 64)))) (fun y0 =>
  .br (y0)
   (.at (5))
   (.bi (br (decide (x0 < 0)) (some true) (some (decide (x0 > 1000000000000)))) (fun y1 =>
    .br (y1)
     (.at (1))
     (.bi (pj 0 (l10_0 (0, x0, x1, x2))) (fun y2 =>
      .at (1))
      (.bi (pj 1 (l10_0 (0, x0, x1, x2))) (fun y2 =>
       .at (10))
       (.bi (pj 2 (l10_0 (0, x0, x1, x2))) (fun y2 =>
        .bi (pj 0 (l10_1 (0, y2.snd.fst, y2.snd.snd.fst, y2.snd.snd.snd))) (fun y3 =>
         .at (1))
         (.bi (pj 1 (l10_1 (0, y2.snd.fst, y2.snd.snd.fst, y2.snd.snd.snd))) (fun y3 =>
          .at (11))
          (.bi (pj 2 (l10_1 (0, y2.snd.fst, y2.snd.snd.fst, y2.snd.snd.snd))) (fun y3 =>
           .at (12))
           (.bi (pj 3 (l10_1 (0, y2.snd.fst, y2.snd.snd.fst, y2.snd.snd.snd))) (fun y3 =>
            .bi (pj 0 (l10_2 (0, y3.snd.fst, y3.snd.snd.fst, y3.snd.snd.snd))) (fun y4 =>
             .at (25))
             (.bi (pj 1 (l10_2 (0, y3.snd.fst, y3.snd.snd.fst, y3.snd.snd.snd))) (fun y4 =>
              .at (0))
              (.no)))
            (.no)))))
        (.no)))))
    (.no)))
  (.no)
noncomputable def T10 : Tab := [(34, cloneE 3 24), (35, cloneE 3 32)]
theorem T10_ok : TabOk IP (T10) := ⟨sp34, sp35, trivial⟩
noncomputable def L10 : LTab := [(1001000, ll10_0), (1001001, ll10_1), (1001002, ll10_2)]
theorem L10_ok : LOk IP (L10) (loops F10.body) := LOk_of (l := [loopAt F10 0, loopAt F10 1, loopAt F10 2]) (by kernel_rfl) ⟨sel_one (by kernel_rfl) t10_0, sel_one (by kernel_rfl) t10_1, sel_one (by kernel_rfl) t10_2, trivial⟩
theorem b10 (v : A10) : bodyK (R := B10) IP (callT (T10)) (loopT (L10)) 10 F10 (ea10 v).1 (ea10 v).2 rd10 = (tr10 v.1 v.2.1 v.2.2).ev := by kernel_rfl
/-- R.Check -/
noncomputable def f10 (x0 : Int) (x1 : List AV) (x2 : List AV) : Option B10 := lock (tr10 x0 x1 x2).ev
theorem f10_eq (x0 : Int) (x1 : List AV) (x2 : List AV) : f10 x0 x1 x2 = (tr10 x0 x1 x2).ev := lock_eq _
theorem c10 : ∀ v y, f10 v.1 v.2.1 v.2.2 = some y → callO IP 10 (ea10 v).1 (ea10 v).2 = some (er10 y) := fun v y h => fun_of T10_ok (by kernel_rfl) L10_ok rd10_ok (b10 v) ((f10_eq v.1 v.2.1 v.2.2).symm.trans h)
theorem s10 : Snd IP 10 (g10 f10) := g10_ok f10 c10

-- f11: 
abbrev A11 : Type := Int × List AV × List AV × Int
abbrev B11 : Type := Int
def pa11 : PArgs := ⟨[.agg [.int .i64, .view 3, .view 3], .int .i64], []⟩
def to11 (ls : List Lf) : Option A11 := eatI ls fun x0 ls => eatL ls fun x1 ls => eatL ls fun x2 ls => eatI ls fun x3 ls => eat0 ls (x0, x1, x2, x3)
def ea11 (v : A11) : List AV × Heap := ([.agg [.int .i64 v.1, .view 3 v.2.1, .view 3 v.2.2.1], .int .i64 v.2.2.2], [])
def er11_0 (v : Int) : Res × Heap := (.ret (.int .i64 v), [])
def er11 : B11 → Res × Heap := er11_0
def en11 : Option B11 → List (Bool × Res × Heap) := (E1 er11_0)
def rd11 : Res → Heap → Option B11 := rDec ⟨false, .int .i64, []⟩ (fun ls => eatI ls fun x0 ls => eat0 ls x0) (rNo)
theorem to11_ok : ∀ ls v, to11 ls = some v → fArgs pa11 ls = ea11 v := by
  intro ls v h0
  unfold to11 at h0
  obtain ⟨x0, ls0, rfl, h1⟩ := eatI_some h0
  obtain ⟨x1, ls1, rfl, h2⟩ := eatL_some h1
  obtain ⟨x2, ls2, rfl, h3⟩ := eatL_some h2
  obtain ⟨x3, ls3, rfl, h4⟩ := eatI_some h3
  obtain ⟨rfl, rfl⟩ := eat0_some h4
  rfl
theorem rd11_ok : ∀ r h y, rd11 r h = some y → (r, h) = er11 y := rDec_ok (by
  intro ls v h0
  obtain ⟨x0, ls0, rfl, h1⟩ := eatI_some h0
  obtain ⟨rfl, rfl⟩ := eat0_some h1
  rfl
) (rNo_ok)
noncomputable def g11 (G : Int → (List AV) → (List AV) → Int → Option B11) : Ent := fEnt pa11 to11 (fun v => G v.1 v.2.1 v.2.2.1 v.2.2.2) en11
theorem g11_ok (G : Int → (List AV) → (List AV) → Int → Option B11) (hG : ∀ v y, G v.1 v.2.1 v.2.2.1 v.2.2.2 = some y → callO IP 11 (ea11 v).1 (ea11 v).2 = some (er11 y)) : Snd IP 11 (g11 G) := fEnt_ok to11_ok E1_ok hG
noncomputable def tr11 (x0 : Int) (x1 : List AV) (x2 : List AV) (x3 : Int) : DT B11 :=
 .bi (f28 x1 x3) (fun y0 =>
  .br (decide (y0 < 0))
   (.at (0))
   (.br (okAt [CS.int IntKind.i64, CS.int IntKind.i64, CS.int IntKind.i64] x1 y0) (.at (intOf (cellAt x1 y0 2))) (.no)))
  (.no)
noncomputable def T11 : Tab := [(34, cloneE 3 24), (35, cloneE 3 32), (28, g28 f28)]
theorem T11_ok : TabOk IP (T11) := ⟨sp34, sp35, s28, trivial⟩
noncomputable def L11 : LTab := []
theorem L11_ok : LOk IP (L11) (loops F11.body) := LOk_of (l := []) (by kernel_rfl) trivial
theorem b11 (v : A11) : bodyK (R := B11) IP (callT (T11)) (loopT (L11)) 11 F11 (ea11 v).1 (ea11 v).2 rd11 = (tr11 v.1 v.2.1 v.2.2.1 v.2.2.2).ev := by kernel_rfl
/--  -/
noncomputable def f11 (x0 : Int) (x1 : List AV) (x2 : List AV) (x3 : Int) : Option B11 := lock (tr11 x0 x1 x2 x3).ev
theorem f11_eq (x0 : Int) (x1 : List AV) (x2 : List AV) (x3 : Int) : f11 x0 x1 x2 x3 = (tr11 x0 x1 x2 x3).ev := lock_eq _
theorem c11 : ∀ v y, f11 v.1 v.2.1 v.2.2.1 v.2.2.2 = some y → callO IP 11 (ea11 v).1 (ea11 v).2 = some (er11 y) := fun v y h => fun_of T11_ok (by kernel_rfl) L11_ok rd11_ok (b11 v) ((f11_eq v.1 v.2.1 v.2.2.1 v.2.2.2).symm.trans h)
theorem s11 : Snd IP 11 (g11 f11) := g11_ok f11 c11

-- f12: 
abbrev A12 : Type := Int × List AV × List AV × Int
abbrev B12 : Type := Int
def pa12 : PArgs := ⟨[.agg [.int .i64, .view 3, .view 3], .int .i64], []⟩
def to12 (ls : List Lf) : Option A12 := eatI ls fun x0 ls => eatL ls fun x1 ls => eatL ls fun x2 ls => eatI ls fun x3 ls => eat0 ls (x0, x1, x2, x3)
def ea12 (v : A12) : List AV × Heap := ([.agg [.int .i64 v.1, .view 3 v.2.1, .view 3 v.2.2.1], .int .i64 v.2.2.2], [])
def er12_0 (v : Int) : Res × Heap := (.ret (.int .i64 v), [])
def er12 : B12 → Res × Heap := er12_0
def en12 : Option B12 → List (Bool × Res × Heap) := (E1 er12_0)
def rd12 : Res → Heap → Option B12 := rDec ⟨false, .int .i64, []⟩ (fun ls => eatI ls fun x0 ls => eat0 ls x0) (rNo)
theorem to12_ok : ∀ ls v, to12 ls = some v → fArgs pa12 ls = ea12 v := by
  intro ls v h0
  unfold to12 at h0
  obtain ⟨x0, ls0, rfl, h1⟩ := eatI_some h0
  obtain ⟨x1, ls1, rfl, h2⟩ := eatL_some h1
  obtain ⟨x2, ls2, rfl, h3⟩ := eatL_some h2
  obtain ⟨x3, ls3, rfl, h4⟩ := eatI_some h3
  obtain ⟨rfl, rfl⟩ := eat0_some h4
  rfl
theorem rd12_ok : ∀ r h y, rd12 r h = some y → (r, h) = er12 y := rDec_ok (by
  intro ls v h0
  obtain ⟨x0, ls0, rfl, h1⟩ := eatI_some h0
  obtain ⟨rfl, rfl⟩ := eat0_some h1
  rfl
) (rNo_ok)
noncomputable def g12 (G : Int → (List AV) → (List AV) → Int → Option B12) : Ent := fEnt pa12 to12 (fun v => G v.1 v.2.1 v.2.2.1 v.2.2.2) en12
theorem g12_ok (G : Int → (List AV) → (List AV) → Int → Option B12) (hG : ∀ v y, G v.1 v.2.1 v.2.2.1 v.2.2.2 = some y → callO IP 12 (ea12 v).1 (ea12 v).2 = some (er12 y)) : Snd IP 12 (g12 G) := fEnt_ok to12_ok E1_ok hG
noncomputable def tr12 (x0 : Int) (x1 : List AV) (x2 : List AV) (x3 : Int) : DT B12 :=
 .bi (f25 x0 x1 x2 x3) (fun y0 =>
  .br (decide (y0 < 0))
   (.at (0))
   (.br (okAt [CS.int IntKind.i64, CS.int IntKind.i64, CS.int IntKind.i64] x1 y0) (.at (intOf (cellAt x1 y0 2))) (.no)))
  (.no)
noncomputable def T12 : Tab := [(34, cloneE 3 24), (35, cloneE 3 32), (25, g25 f25)]
theorem T12_ok : TabOk IP (T12) := ⟨sp34, sp35, s25, trivial⟩
noncomputable def L12 : LTab := []
theorem L12_ok : LOk IP (L12) (loops F12.body) := LOk_of (l := []) (by kernel_rfl) trivial
theorem b12 (v : A12) : bodyK (R := B12) IP (callT (T12)) (loopT (L12)) 12 F12 (ea12 v).1 (ea12 v).2 rd12 = (tr12 v.1 v.2.1 v.2.2.1 v.2.2.2).ev := by kernel_rfl
/--  -/
noncomputable def f12 (x0 : Int) (x1 : List AV) (x2 : List AV) (x3 : Int) : Option B12 := lock (tr12 x0 x1 x2 x3).ev
theorem f12_eq (x0 : Int) (x1 : List AV) (x2 : List AV) (x3 : Int) : f12 x0 x1 x2 x3 = (tr12 x0 x1 x2 x3).ev := lock_eq _
theorem c12 : ∀ v y, f12 v.1 v.2.1 v.2.2.1 v.2.2.2 = some y → callO IP 12 (ea12 v).1 (ea12 v).2 = some (er12 y) := fun v y h => fun_of T12_ok (by kernel_rfl) L12_ok rd12_ok (b12 v) ((f12_eq v.1 v.2.1 v.2.2.1 v.2.2.2).symm.trans h)
theorem s12 : Snd IP 12 (g12 f12) := g12_ok f12 c12

-- f3: StandinChecks
abbrev A3 : Type := Int × List AV × List AV × Int
abbrev B3 : Type := Bool
def pa3 : PArgs := ⟨[.agg [.int .i64, .view 3, .view 3], .int .i64], []⟩
def to3 (ls : List Lf) : Option A3 := eatI ls fun x0 ls => eatL ls fun x1 ls => eatL ls fun x2 ls => eatI ls fun x3 ls => eat0 ls (x0, x1, x2, x3)
def ea3 (v : A3) : List AV × Heap := ([.agg [.int .i64 v.1, .view 3 v.2.1, .view 3 v.2.2.1], .int .i64 v.2.2.2], [])
def er3_0 (v : Bool) : Res × Heap := (.ret (.bool v), [])
def er3 : B3 → Res × Heap := er3_0
def en3 : Option B3 → List (Bool × Res × Heap) := (E1 er3_0)
def rd3 : Res → Heap → Option B3 := rDec ⟨false, .bool, []⟩ (fun ls => eatB ls fun x0 ls => eat0 ls x0) (rNo)
theorem to3_ok : ∀ ls v, to3 ls = some v → fArgs pa3 ls = ea3 v := by
  intro ls v h0
  unfold to3 at h0
  obtain ⟨x0, ls0, rfl, h1⟩ := eatI_some h0
  obtain ⟨x1, ls1, rfl, h2⟩ := eatL_some h1
  obtain ⟨x2, ls2, rfl, h3⟩ := eatL_some h2
  obtain ⟨x3, ls3, rfl, h4⟩ := eatI_some h3
  obtain ⟨rfl, rfl⟩ := eat0_some h4
  rfl
theorem rd3_ok : ∀ r h y, rd3 r h = some y → (r, h) = er3 y := rDec_ok (by
  intro ls v h0
  obtain ⟨x0, ls0, rfl, h1⟩ := eatB_some h0
  obtain ⟨rfl, rfl⟩ := eat0_some h1
  rfl
) (rNo_ok)
noncomputable def g3 (G : Int → (List AV) → (List AV) → Int → Option B3) : Ent := fEnt pa3 to3 (fun v => G v.1 v.2.1 v.2.2.1 v.2.2.2) en3
theorem g3_ok (G : Int → (List AV) → (List AV) → Int → Option B3) (hG : ∀ v y, G v.1 v.2.1 v.2.2.1 v.2.2.2 = some y → callO IP 3 (ea3 v).1 (ea3 v).2 = some (er3 y)) : Snd IP 3 (g3 G) := fEnt_ok to3_ok E1_ok hG
noncomputable def tr3 (x0 : Int) (x1 : List AV) (x2 : List AV) (x3 : Int) : DT B3 :=
 .bi (f7 x0 x1 x2) (fun y0 =>
  .br (!y0)
   (.bi (f8) (fun y1 =>
    .at (y1))
    (.no))
   (.bi (f9 x0 x1 x2) (fun y1 =>
    .bi (f10 x0 x1 x2) (fun y2 =>
     .br (y1 == y2)
      (.bi (f11 x0 x1 x2 x3) (fun y3 =>
       .bi (f12 x0 x1 x2 x3) (fun y4 =>
        .br (y3 == y4)
         (.bi (f8) (fun y5 =>
          .at (y5))
          (.no))
         (.at (false)))
        (.no))
       (.no))
      (.at (false)))
     (.no))
    (.no)))
  (.no)
noncomputable def T3 : Tab := [(34, cloneE 3 24), (35, cloneE 3 32), (7, g7 f7), (8, g8 f8), (9, g9 f9), (10, g10 f10), (11, g11 f11), (12, g12 f12)]
theorem T3_ok : TabOk IP (T3) := ⟨sp34, sp35, s7, s8, s9, s10, s11, s12, trivial⟩
noncomputable def L3 : LTab := []
theorem L3_ok : LOk IP (L3) (loops F3.body) := LOk_of (l := []) (by kernel_rfl) trivial
theorem b3 (v : A3) : bodyK (R := B3) IP (callT (T3)) (loopT (L3)) 3 F3 (ea3 v).1 (ea3 v).2 rd3 = (tr3 v.1 v.2.1 v.2.2.1 v.2.2.2).ev := by kernel_rfl
/-- StandinChecks -/
noncomputable def f3 (x0 : Int) (x1 : List AV) (x2 : List AV) (x3 : Int) : Option B3 := lock (tr3 x0 x1 x2 x3).ev
theorem f3_eq (x0 : Int) (x1 : List AV) (x2 : List AV) (x3 : Int) : f3 x0 x1 x2 x3 = (tr3 x0 x1 x2 x3).ev := lock_eq _
theorem c3 : ∀ v y, f3 v.1 v.2.1 v.2.2.1 v.2.2.2 = some y → callO IP 3 (ea3 v).1 (ea3 v).2 = some (er3 y) := fun v y h => fun_of T3_ok (by kernel_rfl) L3_ok rd3_ok (b3 v) ((f3_eq v.1 v.2.1 v.2.2.1 v.2.2.2).symm.trans h)
theorem s3 : Snd IP 3 (g3 f3) := g3_ok f3 c3

end Go.Proofs.H53

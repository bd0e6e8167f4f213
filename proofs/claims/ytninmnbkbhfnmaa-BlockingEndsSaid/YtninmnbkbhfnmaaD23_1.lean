/- Functions over plain data. Printed by a program of mine. -/
import Derived.Test.YtninmnbkbhfnmaaE3
import Derived.Test.YtninmnbkbhfnmaaIP23
import Derived.KernelRfl
set_option linter.unusedVariables false
set_option linter.unusedSimpArgs false
set_option linter.unnecessarySimpa false
namespace Go.Proofs.H23
open Go Go.Eng
set_option maxRecDepth 100000

-- l9_0: loop 0 of function 9
abbrev TT9_0 : Type := List AV × Int
def h9_0_0 (v : List AV × Int) : St := ⟨[(1000900, .junk), (0, .view 7 v.1), (3, .int .i64 v.2)], [], 0, 0⟩
def h9_0 : TT9_0 → St := (fun v => h9_0_0 v)
def d9_0 : St → Option TT9_0 := sDec ⟨[(1000900, .junk), (0, .view 7), (3, .int .i64)], [], 0, 0⟩ (fun ls => eatL ls fun x0 ls => eatI ls fun x1 ls => eat0 ls (x0, x1)) (sNo)
theorem d9_0_ok : ∀ s v, d9_0 s = some v → s = h9_0 v := sDec_ok (by
  intro ls v h0
  obtain ⟨x0, ls0, rfl, h1⟩ := eatL_some h0
  obtain ⟨x1, ls1, rfl, h2⟩ := eatI_some h1
  obtain ⟨rfl, rfl⟩ := eat0_some h2
  rfl
) (sNo_ok)
theorem n9_0_0 (v : List AV × Int) : norm (loopAt F9 0).1 (h9_0_0 v) = some (h9_0_0 v) := by kernel_rfl
noncomputable def x9_0_0 (x0 : List AV) (x1 : Int) : X × St := (X.ret,
  {
    tm :=
      [(2, AV.bool false), (16, AV.bool (decide ((↑(strOf (cellAt x0 x1 6)).length : Int) > 100))), (15, AV.int IntKind.i64 (↑(strOf (cellAt x0 x1 6)).length : Int)),
        (14, AV.str (strOf (cellAt x0 x1 6))), (13, AV.ptr [AV.str (strOf (cellAt x0 x1 6))]),
        (12,
          AV.ptr
            [AV.int IntKind.i64 (intOf (cellAt x0 x1 0)), AV.int IntKind.i64 (intOf (cellAt x0 x1 1)), AV.int IntKind.i64 (intOf (cellAt x0 x1 2)),
              AV.int IntKind.i64 (intOf (cellAt x0 x1 3)), AV.int IntKind.i64 (intOf (cellAt x0 x1 4)), AV.int IntKind.i64 (intOf (cellAt x0 x1 5)),
              AV.str (strOf (cellAt x0 x1 6))]),
        (11, AV.int IntKind.i64 x1), (10, AV.view 7 x0), (7, AV.bool (decide (x1 < (↑x0.length : Int)))), (6, AV.int IntKind.i64 (↑x0.length : Int)), (5, AV.view 7 x0),
        (4, AV.int IntKind.i64 x1), (1000900, AV.junk), (0, AV.view 7 x0), (3, AV.int IntKind.i64 x1)],
    hp := [], nx := 192, k := 0 })
noncomputable def x9_0_1 (x0 : List AV) (x1 : Int) : X × St := (X.exit 0,
  {
    tm :=
      [(7, AV.bool (decide (x1 < (↑x0.length : Int)))), (6, AV.int IntKind.i64 (↑x0.length : Int)), (5, AV.view 7 x0), (4, AV.int IntKind.i64 x1), (1000900, AV.junk),
        (0, AV.view 7 x0), (3, AV.int IntKind.i64 x1)],
    hp := [], nx := 64, k := 0 })
noncomputable def x9_0 : Nat → TT9_0 → X × St := fun j w => match j with
  | 0 => x9_0_0 w.1 w.2
  | 1 => x9_0_1 w.1 w.2
  | _ => (.ret, ⟨[], [], 0, 0⟩)
theorem e9_0 : ∀ j v, outB (x9_0 j v).1 = true := fun j v => match j with
  | 0 => rfl
  | 1 => rfl
  | _ + 2 => rfl
noncomputable def st9_0_0 (x0 : List AV) (x1 : Int) : DT (Rd TT9_0) :=
 .br (decide (x1 < (↑x0.length : Int)))
  (.br (okAt [CS.int IntKind.i64, CS.int IntKind.i64, CS.int IntKind.i64, CS.int IntKind.i64, CS.int IntKind.i64, CS.int IntKind.i64, CS.str] x0 x1)
   (.br (decide ((↑(strOf (cellAt x0 x1 6)).length : Int) > 100)) (.at (.done 0)) (.at (.next ((x0, IntKind.i64.wrap (x1 + 1))))))
   (.no))
  (.at (.done 1))
noncomputable def st9_0 : TT9_0 → DT (Rd TT9_0) := (fun v => st9_0_0 v.1 v.2)
noncomputable def T9_0 : Tab := [(29, cloneE 7 64)]
theorem T9_0_ok : TabOk IP (T9_0) := ⟨sp29, trivial⟩
noncomputable def L9_0 : LTab := []
theorem L9_0_ok : LOk IP (L9_0) (loops (loopAt F9 0).2) := LOk_of (l := []) (by kernel_rfl) trivial
theorem b9_0_0 (v : List AV × Int) : execK (R := Rx TT9_0) IP (callT (T9_0)) (loopT (L9_0)) (loopAt F9 0).2 (h9_0_0 v) (endK (loopAt F9 0).1 d9_0) = (cvD (fun j => x9_0 j v) (st9_0_0 v.1 v.2)).ev := by kernel_rfl
noncomputable def l9_0 (v : TT9_0) : Option (Nat × TT9_0) := lock (iterO (fun v => (st9_0 v).ev) v)
theorem l9_0_eq (v : TT9_0) : l9_0 v = iterO (fun v => (st9_0 v).ev) v := lock_eq _
noncomputable def ll9_0 : LEnt := lEnt d9_0 (l9_0) (x9_0) 2
theorem t9_0 : Go.Eng.Told IP (loopAt F9 0).1 (loopAt F9 0).2 (ll9_0) := loop_of (st := st9_0) (T9_0_ok) (L9_0_ok) d9_0_ok (fun v => n9_0_0 v) (e9_0) (fun v => b9_0_0 v) (l9_0_eq)

-- f9: 
abbrev A9 : Type := List AV
abbrev B9 : Type := Bool
def pa9 : PArgs := ⟨[.view 7], []⟩
def to9 (ls : List Lf) : Option A9 := eatL ls fun x0 ls => eat0 ls x0
def ea9 (v : A9) : List AV × Heap := ([.view 7 v], [])
def er9_0 (v : Bool) : Res × Heap := (.ret (.bool v), [])
def er9 : B9 → Res × Heap := er9_0
def en9 : Option B9 → List (Bool × Res × Heap) := (E1 er9_0)
def rd9 : Res → Heap → Option B9 := rDec ⟨false, .bool, []⟩ (fun ls => eatB ls fun x0 ls => eat0 ls x0) (rNo)
theorem to9_ok : ∀ ls v, to9 ls = some v → fArgs pa9 ls = ea9 v := by
  intro ls v h0
  unfold to9 at h0
  obtain ⟨x0, ls0, rfl, h1⟩ := eatL_some h0
  obtain ⟨rfl, rfl⟩ := eat0_some h1
  rfl
theorem rd9_ok : ∀ r h y, rd9 r h = some y → (r, h) = er9 y := rDec_ok (by
  intro ls v h0
  obtain ⟨x0, ls0, rfl, h1⟩ := eatB_some h0
  obtain ⟨rfl, rfl⟩ := eat0_some h1
  rfl
) (rNo_ok)
noncomputable def g9 (G : (List AV) → Option B9) : Ent := fEnt pa9 to9 (fun v => G v) en9
theorem g9_ok (G : (List AV) → Option B9) (hG : ∀ v y, G v = some y → callO IP 9 (ea9 v).1 (ea9 v).2 = some (er9 y)) : Snd IP 9 (g9 G) := fEnt_ok to9_ok E1_ok hG
noncomputable def tr9 (x0 : List AV) : DT B9 :=
 .bi (pj 0 (l9_0 (x0, 0))) (fun y0 =>
  .at (false))
  (.bi (pj 1 (l9_0 (x0, 0))) (fun y0 =>
   .at (true))
   (.no))
noncomputable def T9 : Tab := [(29, cloneE 7 64)]
theorem T9_ok : TabOk IP (T9) := ⟨sp29, trivial⟩
noncomputable def L9 : LTab := [(1000900, ll9_0)]
theorem L9_ok : LOk IP (L9) (loops F9.body) := LOk_of (l := [loopAt F9 0]) (by kernel_rfl) ⟨sel_one (by kernel_rfl) t9_0, trivial⟩
theorem b9 (v : A9) : bodyK (R := B9) IP (callT (T9)) (loopT (L9)) 9 F9 (ea9 v).1 (ea9 v).2 rd9 = (tr9 v).ev := by kernel_rfl
/--  -/
noncomputable def f9 (x0 : List AV) : Option B9 := lock (tr9 x0).ev
theorem f9_eq (x0 : List AV) : f9 x0 = (tr9 x0).ev := lock_eq _
theorem c9 : ∀ v y, f9 v = some y → callO IP 9 (ea9 v).1 (ea9 v).2 = some (er9 y) := fun v y h => fun_of T9_ok (by kernel_rfl) L9_ok rd9_ok (b9 v) ((f9_eq v).symm.trans h)
theorem s9 : Snd IP 9 (g9 f9) := g9_ok f9 c9

-- f32: 
abbrev A32 : Type := Int
abbrev B32 : Type := Bool
def pa32 : PArgs := ⟨[.int .i64], []⟩
def to32 (ls : List Lf) : Option A32 := eatI ls fun x0 ls => eat0 ls x0
def ea32 (v : A32) : List AV × Heap := ([.int .i64 v], [])
def er32_0 (v : Bool) : Res × Heap := (.ret (.bool v), [])
def er32 : B32 → Res × Heap := er32_0
def en32 : Option B32 → List (Bool × Res × Heap) := (E1 er32_0)
def rd32 : Res → Heap → Option B32 := rDec ⟨false, .bool, []⟩ (fun ls => eatB ls fun x0 ls => eat0 ls x0) (rNo)
theorem to32_ok : ∀ ls v, to32 ls = some v → fArgs pa32 ls = ea32 v := by
  intro ls v h0
  unfold to32 at h0
  obtain ⟨x0, ls0, rfl, h1⟩ := eatI_some h0
  obtain ⟨rfl, rfl⟩ := eat0_some h1
  rfl
theorem rd32_ok : ∀ r h y, rd32 r h = some y → (r, h) = er32 y := rDec_ok (by
  intro ls v h0
  obtain ⟨x0, ls0, rfl, h1⟩ := eatB_some h0
  obtain ⟨rfl, rfl⟩ := eat0_some h1
  rfl
) (rNo_ok)
noncomputable def g32 (G : Int → Option B32) : Ent := fEnt pa32 to32 (fun v => G v) en32
theorem g32_ok (G : Int → Option B32) (hG : ∀ v y, G v = some y → callO IP 32 (ea32 v).1 (ea32 v).2 = some (er32 y)) : Snd IP 32 (g32 G) := fEnt_ok to32_ok E1_ok hG
noncomputable def tr32 (x0 : Int) : DT B32 :=
 .bi (br (decide (x0 ≥ 0)) (some (decide (x0 ≤ 73048))) (some false)) (fun y0 =>
  .at (y0))
  (.no)
noncomputable def T32 : Tab := [(29, cloneE 7 64)]
theorem T32_ok : TabOk IP (T32) := ⟨sp29, trivial⟩
noncomputable def L32 : LTab := []
theorem L32_ok : LOk IP (L32) (loops F32.body) := LOk_of (l := []) (by kernel_rfl) trivial
theorem b32 (v : A32) : bodyK (R := B32) IP (callT (T32)) (loopT (L32)) 32 F32 (ea32 v).1 (ea32 v).2 rd32 = (tr32 v).ev := by kernel_rfl
/--  -/
noncomputable def f32 (x0 : Int) : Option B32 := lock (tr32 x0).ev
theorem f32_eq (x0 : Int) : f32 x0 = (tr32 x0).ev := lock_eq _
theorem c32 : ∀ v y, f32 v = some y → callO IP 32 (ea32 v).1 (ea32 v).2 = some (er32 y) := fun v y h => fun_of T32_ok (by kernel_rfl) L32_ok rd32_ok (b32 v) ((f32_eq v).symm.trans h)
theorem s32 : Snd IP 32 (g32 f32) := g32_ok f32 c32

-- f25: 
abbrev A25 : Type := Int × Int × Int × Int × Int × Int × List UInt8
abbrev B25 : Type := Bool
def pa25 : PArgs := ⟨[.agg [.int .i64, .int .i64, .int .i64, .int .i64, .int .i64, .int .i64, .str]], []⟩
def to25 (ls : List Lf) : Option A25 := eatI ls fun x0 ls => eatI ls fun x1 ls => eatI ls fun x2 ls => eatI ls fun x3 ls => eatI ls fun x4 ls => eatI ls fun x5 ls => eatS ls fun x6 ls => eat0 ls (x0, x1, x2, x3, x4, x5, x6)
def ea25 (v : A25) : List AV × Heap := ([.agg [.int .i64 v.1, .int .i64 v.2.1, .int .i64 v.2.2.1, .int .i64 v.2.2.2.1, .int .i64 v.2.2.2.2.1, .int .i64 v.2.2.2.2.2.1, .str v.2.2.2.2.2.2]], [])
def er25_0 (v : Bool) : Res × Heap := (.ret (.bool v), [])
def er25 : B25 → Res × Heap := er25_0
def en25 : Option B25 → List (Bool × Res × Heap) := (E1 er25_0)
def rd25 : Res → Heap → Option B25 := rDec ⟨false, .bool, []⟩ (fun ls => eatB ls fun x0 ls => eat0 ls x0) (rNo)
theorem to25_ok : ∀ ls v, to25 ls = some v → fArgs pa25 ls = ea25 v := by
  intro ls v h0
  unfold to25 at h0
  obtain ⟨x0, ls0, rfl, h1⟩ := eatI_some h0
  obtain ⟨x1, ls1, rfl, h2⟩ := eatI_some h1
  obtain ⟨x2, ls2, rfl, h3⟩ := eatI_some h2
  obtain ⟨x3, ls3, rfl, h4⟩ := eatI_some h3
  obtain ⟨x4, ls4, rfl, h5⟩ := eatI_some h4
  obtain ⟨x5, ls5, rfl, h6⟩ := eatI_some h5
  obtain ⟨x6, ls6, rfl, h7⟩ := eatS_some h6
  obtain ⟨rfl, rfl⟩ := eat0_some h7
  rfl
theorem rd25_ok : ∀ r h y, rd25 r h = some y → (r, h) = er25 y := rDec_ok (by
  intro ls v h0
  obtain ⟨x0, ls0, rfl, h1⟩ := eatB_some h0
  obtain ⟨rfl, rfl⟩ := eat0_some h1
  rfl
) (rNo_ok)
noncomputable def g25 (G : Int → Int → Int → Int → Int → Int → (List UInt8) → Option B25) : Ent := fEnt pa25 to25 (fun v => G v.1 v.2.1 v.2.2.1 v.2.2.2.1 v.2.2.2.2.1 v.2.2.2.2.2.1 v.2.2.2.2.2.2) en25
theorem g25_ok (G : Int → Int → Int → Int → Int → Int → (List UInt8) → Option B25) (hG : ∀ v y, G v.1 v.2.1 v.2.2.1 v.2.2.2.1 v.2.2.2.2.1 v.2.2.2.2.2.1 v.2.2.2.2.2.2 = some y → callO IP 25 (ea25 v).1 (ea25 v).2 = some (er25 y)) : Snd IP 25 (g25 G) := fEnt_ok to25_ok E1_ok hG
noncomputable def tr25 (x0 : Int) (x1 : Int) (x2 : Int) (x3 : Int) (x4 : Int) (x5 : Int) (x6 : List UInt8) : DT B25 :=
 .bi (br (decide (x0 < 1)) (some true) (some (decide (x1 < 1000)))) (fun y0 =>
  .bi (br y0 (some true) (some (decide (x2 < 1)))) (fun y1 =>
   .bi (br y1 (some true) (some (decide (x2 > 4)))) (fun y2 =>
    .bi (br y2 (some true) (br (sm (f32 x4)) (some !gv (f32 x4)) none)) (fun y3 =>
     .bi (br y3 (some true) (br (sm (f32 x5)) (some !gv (f32 x5)) none)) (fun y4 =>
      .bi (br y4 (some true) (some (decide (x4 > x5)))) (fun y5 =>
       .br (y5)
        (.at (false))
        (.br (x2 != 4)
         (.at (x3 == 0))
         (.bi (br (decide (x3 ≥ 1)) (some (decide (x3 ≤ 1000000000000))) (some false)) (fun y6 =>
          .at (y6))
          (.no))))
       (.no))
      (.no))
     (.no))
    (.no))
   (.no))
  (.no)
noncomputable def T25 : Tab := [(29, cloneE 7 64), (32, g32 f32)]
theorem T25_ok : TabOk IP (T25) := ⟨sp29, s32, trivial⟩
noncomputable def L25 : LTab := []
theorem L25_ok : LOk IP (L25) (loops F25.body) := LOk_of (l := []) (by kernel_rfl) trivial
theorem b25 (v : A25) : bodyK (R := B25) IP (callT (T25)) (loopT (L25)) 25 F25 (ea25 v).1 (ea25 v).2 rd25 = (tr25 v.1 v.2.1 v.2.2.1 v.2.2.2.1 v.2.2.2.2.1 v.2.2.2.2.2.1 v.2.2.2.2.2.2).ev := by kernel_rfl
/--  -/
noncomputable def f25 (x0 : Int) (x1 : Int) (x2 : Int) (x3 : Int) (x4 : Int) (x5 : Int) (x6 : List UInt8) : Option B25 := lock (tr25 x0 x1 x2 x3 x4 x5 x6).ev
theorem f25_eq (x0 : Int) (x1 : Int) (x2 : Int) (x3 : Int) (x4 : Int) (x5 : Int) (x6 : List UInt8) : f25 x0 x1 x2 x3 x4 x5 x6 = (tr25 x0 x1 x2 x3 x4 x5 x6).ev := lock_eq _
theorem c25 : ∀ v y, f25 v.1 v.2.1 v.2.2.1 v.2.2.2.1 v.2.2.2.2.1 v.2.2.2.2.2.1 v.2.2.2.2.2.2 = some y → callO IP 25 (ea25 v).1 (ea25 v).2 = some (er25 y) := fun v y h => fun_of T25_ok (by kernel_rfl) L25_ok rd25_ok (b25 v) ((f25_eq v.1 v.2.1 v.2.2.1 v.2.2.2.1 v.2.2.2.2.1 v.2.2.2.2.2.1 v.2.2.2.2.2.2).symm.trans h)
theorem s25 : Snd IP 25 (g25 f25) := g25_ok f25 c25

-- l26_0: loop 0 of function 26
abbrev TT26_0 : Type := List UInt8 × Int × Int
def h26_0_0 (v : List UInt8 × Int × Int) : St := ⟨[(1002600, .junk), (0, .str v.1), (7, .int .i64 v.2.1), (8, .int .i64 v.2.2)], [], 0, 0⟩
def h26_0 : TT26_0 → St := (fun v => h26_0_0 v)
def d26_0 : St → Option TT26_0 := sDec ⟨[(1002600, .junk), (0, .str), (7, .int .i64), (8, .int .i64)], [], 0, 0⟩ (fun ls => eatS ls fun x0 ls => eatI ls fun x1 ls => eatI ls fun x2 ls => eat0 ls (x0, x1, x2)) (sNo)
theorem d26_0_ok : ∀ s v, d26_0 s = some v → s = h26_0 v := sDec_ok (by
  intro ls v h0
  obtain ⟨x0, ls0, rfl, h1⟩ := eatS_some h0
  obtain ⟨x1, ls1, rfl, h2⟩ := eatI_some h1
  obtain ⟨x2, ls2, rfl, h3⟩ := eatI_some h2
  obtain ⟨rfl, rfl⟩ := eat0_some h3
  rfl
) (sNo_ok)
theorem n26_0_0 (v : List UInt8 × Int × Int) : norm (loopAt F26 0).1 (h26_0_0 v) = some (h26_0_0 v) := by kernel_rfl
noncomputable def x26_0_0 (x0 : List UInt8) (x1 : Int) (x2 : Int) : X × St := (X.ret,
  {
    tm :=
      [(2, AV.bool false),
        (37,
          AV.bool
            (gv
              (br (!gv (br (decide (byteAt x0 x2 ≥ 97)) (some (decide (byteAt x0 x2 ≤ 122))) (some false)))
                (br (x2 == 0) (some true) (br (byteAt x0 x2 != 95) (br (decide (byteAt x0 x2 < 48)) (some true) (some (decide (byteAt x0 x2 > 57)))) (some false))) (some false)))),
        (22, AV.bool !gv (br (decide (byteAt x0 x2 ≥ 97)) (some (decide (byteAt x0 x2 ≤ 122))) (some false))),
        (21, AV.bool !gv (br (decide (byteAt x0 x2 ≥ 97)) (some (decide (byteAt x0 x2 ≤ 122))) (some false))),
        (20, AV.bool (gv (br (decide (byteAt x0 x2 ≥ 97)) (some (decide (byteAt x0 x2 ≤ 122))) (some false)))),
        (5, AV.bool (gv (br (decide (byteAt x0 x2 ≥ 97)) (some (decide (byteAt x0 x2 ≤ 122))) (some false)))),
        (19, AV.bool (gv (br (decide (byteAt x0 x2 ≥ 97)) (some (decide (byteAt x0 x2 ≤ 122))) (some false)))), (16, AV.bool (decide (byteAt x0 x2 ≥ 97))),
        (15, AV.bool (decide (byteAt x0 x2 ≥ 97))), (14, AV.int IntKind.u8 (byteAt x0 x2)), (4, AV.int IntKind.u8 (byteAt x0 x2)), (13, AV.int IntKind.u8 (byteAt x0 x2)),
        (12, AV.int IntKind.i64 x2), (11, AV.str x0), (3, AV.int IntKind.i64 x2), (10, AV.int IntKind.i64 x2), (9, AV.bool (decide (x2 < x1))), (1002600, AV.junk), (0, AV.str x0),
        (7, AV.int IntKind.i64 x1), (8, AV.int IntKind.i64 x2)],
    hp := [], nx := 528, k := 0 })
noncomputable def x26_0_1 (x0 : List UInt8) (x1 : Int) (x2 : Int) : X × St := (X.exit 0, { tm := [(9, AV.bool (decide (x2 < x1))), (1002600, AV.junk), (0, AV.str x0), (7, AV.int IntKind.i64 x1), (8, AV.int IntKind.i64 x2)], hp := [], nx := 16, k := 0 })
noncomputable def x26_0 : Nat → TT26_0 → X × St := fun j w => match j with
  | 0 => x26_0_0 w.1 w.2.1 w.2.2
  | 1 => x26_0_1 w.1 w.2.1 w.2.2
  | _ => (.ret, ⟨[], [], 0, 0⟩)
theorem e26_0 : ∀ j v, outB (x26_0 j v).1 = true := fun j v => match j with
  | 0 => rfl
  | 1 => rfl
  | _ + 2 => rfl
noncomputable def st26_0_0 (x0 : List UInt8) (x1 : Int) (x2 : Int) : DT (Rd TT26_0) :=
 .br (decide (x2 < x1))
  (.br (inB x0.length x2)
   (.bi (br (decide (byteAt x0 x2 ≥ 97)) (some (decide (byteAt x0 x2 ≤ 122))) (some false)) (fun y0 =>
    .bi (br (!y0) (br (x2 == 0) (some true) (br (byteAt x0 x2 != 95) (br (decide (byteAt x0 x2 < 48)) (some true) (some (decide (byteAt x0 x2 > 57)))) (some false))) (some false)) (fun y1 =>
     .br (y1) (.at (.done 0)) (.at (.next ((x0, x1, IntKind.i64.wrap (x2 + 1))))))
     (.no))
    (.no))
   (.no))
  (.at (.done 1))
noncomputable def st26_0 : TT26_0 → DT (Rd TT26_0) := (fun v => st26_0_0 v.1 v.2.1 v.2.2)
noncomputable def T26_0 : Tab := [(29, cloneE 7 64)]
theorem T26_0_ok : TabOk IP (T26_0) := ⟨sp29, trivial⟩
noncomputable def L26_0 : LTab := []
theorem L26_0_ok : LOk IP (L26_0) (loops (loopAt F26 0).2) := LOk_of (l := []) (by kernel_rfl) trivial
theorem b26_0_0 (v : List UInt8 × Int × Int) : execK (R := Rx TT26_0) IP (callT (T26_0)) (loopT (L26_0)) (loopAt F26 0).2 (h26_0_0 v) (endK (loopAt F26 0).1 d26_0) = (cvD (fun j => x26_0 j v) (st26_0_0 v.1 v.2.1 v.2.2)).ev := by kernel_rfl
noncomputable def l26_0 (v : TT26_0) : Option (Nat × TT26_0) := lock (iterO (fun v => (st26_0 v).ev) v)
theorem l26_0_eq (v : TT26_0) : l26_0 v = iterO (fun v => (st26_0 v).ev) v := lock_eq _
noncomputable def ll26_0 : LEnt := lEnt d26_0 (l26_0) (x26_0) 2
theorem t26_0 : Go.Eng.Told IP (loopAt F26 0).1 (loopAt F26 0).2 (ll26_0) := loop_of (st := st26_0) (T26_0_ok) (L26_0_ok) d26_0_ok (fun v => n26_0_0 v) (e26_0) (fun v => b26_0_0 v) (l26_0_eq)

-- f26: 
abbrev A26 : Type := List UInt8
abbrev B26 : Type := Bool
def pa26 : PArgs := ⟨[.str], []⟩
def to26 (ls : List Lf) : Option A26 := eatS ls fun x0 ls => eat0 ls x0
def ea26 (v : A26) : List AV × Heap := ([.str v], [])
def er26_0 (v : Bool) : Res × Heap := (.ret (.bool v), [])
def er26 : B26 → Res × Heap := er26_0
def en26 : Option B26 → List (Bool × Res × Heap) := (E1 er26_0)
def rd26 : Res → Heap → Option B26 := rDec ⟨false, .bool, []⟩ (fun ls => eatB ls fun x0 ls => eat0 ls x0) (rNo)
theorem to26_ok : ∀ ls v, to26 ls = some v → fArgs pa26 ls = ea26 v := by
  intro ls v h0
  unfold to26 at h0
  obtain ⟨x0, ls0, rfl, h1⟩ := eatS_some h0
  obtain ⟨rfl, rfl⟩ := eat0_some h1
  rfl
theorem rd26_ok : ∀ r h y, rd26 r h = some y → (r, h) = er26 y := rDec_ok (by
  intro ls v h0
  obtain ⟨x0, ls0, rfl, h1⟩ := eatB_some h0
  obtain ⟨rfl, rfl⟩ := eat0_some h1
  rfl
) (rNo_ok)
noncomputable def g26 (G : (List UInt8) → Option B26) : Ent := fEnt pa26 to26 (fun v => G v) en26
theorem g26_ok (G : (List UInt8) → Option B26) (hG : ∀ v y, G v = some y → callO IP 26 (ea26 v).1 (ea26 v).2 = some (er26 y)) : Snd IP 26 (g26 G) := fEnt_ok to26_ok E1_ok hG
noncomputable def tr26 (x0 : List UInt8) : DT B26 :=
 .bi (pj 0 (l26_0 (x0, (↑x0.length : Int), 0))) (fun y0 =>
  .at (false))
  (.bi (pj 1 (l26_0 (x0, (↑x0.length : Int), 0))) (fun y0 =>
   .bi (br (decide ((↑y0.fst.length : Int) ≥ 1)) (some (decide ((↑y0.fst.length : Int) ≤ 16))) (some false)) (fun y1 =>
    .at (y1))
    (.no))
   (.no))
noncomputable def T26 : Tab := [(29, cloneE 7 64)]
theorem T26_ok : TabOk IP (T26) := ⟨sp29, trivial⟩
noncomputable def L26 : LTab := [(1002600, ll26_0)]
theorem L26_ok : LOk IP (L26) (loops F26.body) := LOk_of (l := [loopAt F26 0]) (by kernel_rfl) ⟨sel_one (by kernel_rfl) t26_0, trivial⟩
theorem b26 (v : A26) : bodyK (R := B26) IP (callT (T26)) (loopT (L26)) 26 F26 (ea26 v).1 (ea26 v).2 rd26 = (tr26 v).ev := by kernel_rfl
/--  -/
noncomputable def f26 (x0 : List UInt8) : Option B26 := lock (tr26 x0).ev
theorem f26_eq (x0 : List UInt8) : f26 x0 = (tr26 x0).ev := lock_eq _
theorem c26 : ∀ v y, f26 v = some y → callO IP 26 (ea26 v).1 (ea26 v).2 = some (er26 y) := fun v y h => fun_of T26_ok (by kernel_rfl) L26_ok rd26_ok (b26 v) ((f26_eq v).symm.trans h)
theorem s26 : Snd IP 26 (g26 f26) := g26_ok f26 c26

-- l10_0: loop 0 of function 10
abbrev TT10_0 : Type := List AV × List AV × Int × Int
def h10_0_0 (v : List AV × List AV × Int × Int) : St := ⟨[(1001000, .junk), (0, .view 7 v.1), (8, .view 7 v.2.1), (9, .int .i64 v.2.2.1), (10, .int .i64 v.2.2.2)], [], 0, 0⟩
def h10_0 : TT10_0 → St := (fun v => h10_0_0 v)
def d10_0 : St → Option TT10_0 := sDec ⟨[(1001000, .junk), (0, .view 7), (8, .view 7), (9, .int .i64), (10, .int .i64)], [], 0, 0⟩ (fun ls => eatL ls fun x0 ls => eatL ls fun x1 ls => eatI ls fun x2 ls => eatI ls fun x3 ls => eat0 ls (x0, x1, x2, x3)) (sNo)
theorem d10_0_ok : ∀ s v, d10_0 s = some v → s = h10_0 v := sDec_ok (by
  intro ls v h0
  obtain ⟨x0, ls0, rfl, h1⟩ := eatL_some h0
  obtain ⟨x1, ls1, rfl, h2⟩ := eatL_some h1
  obtain ⟨x2, ls2, rfl, h3⟩ := eatI_some h2
  obtain ⟨x3, ls3, rfl, h4⟩ := eatI_some h3
  obtain ⟨rfl, rfl⟩ := eat0_some h4
  rfl
) (sNo_ok)
theorem n10_0_0 (v : List AV × List AV × Int × Int) : norm (loopAt F10 0).1 (h10_0_0 v) = some (h10_0_0 v) := by kernel_rfl
noncomputable def x10_0_0 (x0 : List AV) (x1 : List AV) (x2 : Int) (x3 : Int) : X × St := (X.ret,
  {
    tm :=
      [(2, AV.int IntKind.i64 1),
        (15,
          AV.bool
            !gv
                (f25 (intOf (cellAt x1 x3 0)) (intOf (cellAt x1 x3 1)) (intOf (cellAt x1 x3 2)) (intOf (cellAt x1 x3 3)) (intOf (cellAt x1 x3 4)) (intOf (cellAt x1 x3 5))
                  (strOf (cellAt x1 x3 6)))),
        (18,
          AV.bool
            !gv
                (f25 (intOf (cellAt x1 x3 0)) (intOf (cellAt x1 x3 1)) (intOf (cellAt x1 x3 2)) (intOf (cellAt x1 x3 3)) (intOf (cellAt x1 x3 4)) (intOf (cellAt x1 x3 5))
                  (strOf (cellAt x1 x3 6)))),
        (17,
          AV.bool
            (gv
              (f25 (intOf (cellAt x1 x3 0)) (intOf (cellAt x1 x3 1)) (intOf (cellAt x1 x3 2)) (intOf (cellAt x1 x3 3)) (intOf (cellAt x1 x3 4)) (intOf (cellAt x1 x3 5))
                (strOf (cellAt x1 x3 6))))),
        (16,
          AV.agg
            [AV.int IntKind.i64 (intOf (cellAt x1 x3 0)), AV.int IntKind.i64 (intOf (cellAt x1 x3 1)), AV.int IntKind.i64 (intOf (cellAt x1 x3 2)),
              AV.int IntKind.i64 (intOf (cellAt x1 x3 3)), AV.int IntKind.i64 (intOf (cellAt x1 x3 4)), AV.int IntKind.i64 (intOf (cellAt x1 x3 5)),
              AV.str (strOf (cellAt x1 x3 6))]),
        (3, AV.int IntKind.i64 x3), (4, AV.ref 64 0 0),
        (14,
          AV.agg
            [AV.int IntKind.i64 (intOf (cellAt x1 x3 0)), AV.int IntKind.i64 (intOf (cellAt x1 x3 1)), AV.int IntKind.i64 (intOf (cellAt x1 x3 2)),
              AV.int IntKind.i64 (intOf (cellAt x1 x3 3)), AV.int IntKind.i64 (intOf (cellAt x1 x3 4)), AV.int IntKind.i64 (intOf (cellAt x1 x3 5)),
              AV.str (strOf (cellAt x1 x3 6))]),
        (13,
          AV.ptr
            [AV.int IntKind.i64 (intOf (cellAt x1 x3 0)), AV.int IntKind.i64 (intOf (cellAt x1 x3 1)), AV.int IntKind.i64 (intOf (cellAt x1 x3 2)),
              AV.int IntKind.i64 (intOf (cellAt x1 x3 3)), AV.int IntKind.i64 (intOf (cellAt x1 x3 4)), AV.int IntKind.i64 (intOf (cellAt x1 x3 5)),
              AV.str (strOf (cellAt x1 x3 6))]),
        (12, AV.int IntKind.i64 x3), (11, AV.bool (decide (x3 < x2))), (1001000, AV.junk), (0, AV.view 7 x0), (8, AV.view 7 x1), (9, AV.int IntKind.i64 x2),
        (10, AV.int IntKind.i64 x3)],
    hp :=
      [(64,
          Blk.box
            [AV.int IntKind.i64 (intOf (cellAt x1 x3 0)), AV.int IntKind.i64 (intOf (cellAt x1 x3 1)), AV.int IntKind.i64 (intOf (cellAt x1 x3 2)),
              AV.int IntKind.i64 (intOf (cellAt x1 x3 3)), AV.int IntKind.i64 (intOf (cellAt x1 x3 4)), AV.int IntKind.i64 (intOf (cellAt x1 x3 5)),
              AV.str (strOf (cellAt x1 x3 6))]
            false)],
    nx := 192, k := 0 })
noncomputable def x10_0_1 (x0 : List AV) (x1 : List AV) (x2 : Int) (x3 : Int) : X × St := (X.ret,
  {
    tm :=
      [(2, AV.int IntKind.i64 4), (19, AV.bool !gv (f26 (strOf (cellAt x1 x3 6)))), (23, AV.bool !gv (f26 (strOf (cellAt x1 x3 6)))),
        (22, AV.bool (gv (f26 (strOf (cellAt x1 x3 6))))), (21, AV.str (strOf (cellAt x1 x3 6))), (20, AV.ref 64 0 6),
        (15,
          AV.bool
            !gv
                (f25 (intOf (cellAt x1 x3 0)) (intOf (cellAt x1 x3 1)) (intOf (cellAt x1 x3 2)) (intOf (cellAt x1 x3 3)) (intOf (cellAt x1 x3 4)) (intOf (cellAt x1 x3 5))
                  (strOf (cellAt x1 x3 6)))),
        (18,
          AV.bool
            !gv
                (f25 (intOf (cellAt x1 x3 0)) (intOf (cellAt x1 x3 1)) (intOf (cellAt x1 x3 2)) (intOf (cellAt x1 x3 3)) (intOf (cellAt x1 x3 4)) (intOf (cellAt x1 x3 5))
                  (strOf (cellAt x1 x3 6)))),
        (17,
          AV.bool
            (gv
              (f25 (intOf (cellAt x1 x3 0)) (intOf (cellAt x1 x3 1)) (intOf (cellAt x1 x3 2)) (intOf (cellAt x1 x3 3)) (intOf (cellAt x1 x3 4)) (intOf (cellAt x1 x3 5))
                (strOf (cellAt x1 x3 6))))),
        (16,
          AV.agg
            [AV.int IntKind.i64 (intOf (cellAt x1 x3 0)), AV.int IntKind.i64 (intOf (cellAt x1 x3 1)), AV.int IntKind.i64 (intOf (cellAt x1 x3 2)),
              AV.int IntKind.i64 (intOf (cellAt x1 x3 3)), AV.int IntKind.i64 (intOf (cellAt x1 x3 4)), AV.int IntKind.i64 (intOf (cellAt x1 x3 5)),
              AV.str (strOf (cellAt x1 x3 6))]),
        (3, AV.int IntKind.i64 x3), (4, AV.ref 64 0 0),
        (14,
          AV.agg
            [AV.int IntKind.i64 (intOf (cellAt x1 x3 0)), AV.int IntKind.i64 (intOf (cellAt x1 x3 1)), AV.int IntKind.i64 (intOf (cellAt x1 x3 2)),
              AV.int IntKind.i64 (intOf (cellAt x1 x3 3)), AV.int IntKind.i64 (intOf (cellAt x1 x3 4)), AV.int IntKind.i64 (intOf (cellAt x1 x3 5)),
              AV.str (strOf (cellAt x1 x3 6))]),
        (13,
          AV.ptr
            [AV.int IntKind.i64 (intOf (cellAt x1 x3 0)), AV.int IntKind.i64 (intOf (cellAt x1 x3 1)), AV.int IntKind.i64 (intOf (cellAt x1 x3 2)),
              AV.int IntKind.i64 (intOf (cellAt x1 x3 3)), AV.int IntKind.i64 (intOf (cellAt x1 x3 4)), AV.int IntKind.i64 (intOf (cellAt x1 x3 5)),
              AV.str (strOf (cellAt x1 x3 6))]),
        (12, AV.int IntKind.i64 x3), (11, AV.bool (decide (x3 < x2))), (1001000, AV.junk), (0, AV.view 7 x0), (8, AV.view 7 x1), (9, AV.int IntKind.i64 x2),
        (10, AV.int IntKind.i64 x3)],
    hp :=
      [(64,
          Blk.box
            [AV.int IntKind.i64 (intOf (cellAt x1 x3 0)), AV.int IntKind.i64 (intOf (cellAt x1 x3 1)), AV.int IntKind.i64 (intOf (cellAt x1 x3 2)),
              AV.int IntKind.i64 (intOf (cellAt x1 x3 3)), AV.int IntKind.i64 (intOf (cellAt x1 x3 4)), AV.int IntKind.i64 (intOf (cellAt x1 x3 5)),
              AV.str (strOf (cellAt x1 x3 6))]
            false)],
    nx := 272, k := 0 })
noncomputable def x10_0_2 (x0 : List AV) (x1 : List AV) (x2 : Int) (x3 : Int) : X × St := (X.ret,
  {
    tm :=
      [(2, AV.int IntKind.i64 10), (24, AV.bool (decide (intOf (cellAt x1 x3 0) ≤ intOf (cellAt x0 (IntKind.i64.wrap (x3 - 1)) 0)))),
        (37, AV.bool (decide (intOf (cellAt x1 x3 0) ≤ intOf (cellAt x0 (IntKind.i64.wrap (x3 - 1)) 0)))),
        (36, AV.bool (decide (intOf (cellAt x1 x3 0) ≤ intOf (cellAt x0 (IntKind.i64.wrap (x3 - 1)) 0)))),
        (35, AV.int IntKind.i64 (intOf (cellAt x0 (IntKind.i64.wrap (x3 - 1)) 0))),
        (34,
          AV.ptr
            [AV.int IntKind.i64 (intOf (cellAt x0 (IntKind.i64.wrap (x3 - 1)) 0)), AV.int IntKind.i64 (intOf (cellAt x0 (IntKind.i64.wrap (x3 - 1)) 1)),
              AV.int IntKind.i64 (intOf (cellAt x0 (IntKind.i64.wrap (x3 - 1)) 2)), AV.int IntKind.i64 (intOf (cellAt x0 (IntKind.i64.wrap (x3 - 1)) 3)),
              AV.int IntKind.i64 (intOf (cellAt x0 (IntKind.i64.wrap (x3 - 1)) 4)), AV.int IntKind.i64 (intOf (cellAt x0 (IntKind.i64.wrap (x3 - 1)) 5)),
              AV.str (strOf (cellAt x0 (IntKind.i64.wrap (x3 - 1)) 6))]),
        (33,
          AV.ptr
            [AV.int IntKind.i64 (intOf (cellAt x0 (IntKind.i64.wrap (x3 - 1)) 0)), AV.int IntKind.i64 (intOf (cellAt x0 (IntKind.i64.wrap (x3 - 1)) 1)),
              AV.int IntKind.i64 (intOf (cellAt x0 (IntKind.i64.wrap (x3 - 1)) 2)), AV.int IntKind.i64 (intOf (cellAt x0 (IntKind.i64.wrap (x3 - 1)) 3)),
              AV.int IntKind.i64 (intOf (cellAt x0 (IntKind.i64.wrap (x3 - 1)) 4)), AV.int IntKind.i64 (intOf (cellAt x0 (IntKind.i64.wrap (x3 - 1)) 5)),
              AV.str (strOf (cellAt x0 (IntKind.i64.wrap (x3 - 1)) 6))]),
        (32, AV.int IntKind.i64 (IntKind.i64.wrap (x3 - 1))), (31, AV.int IntKind.i64 x3), (30, AV.view 7 x0), (29, AV.int IntKind.i64 (intOf (cellAt x1 x3 0))),
        (28, AV.ref 64 0 0), (27, AV.bool true), (26, AV.bool (decide (x3 > 0))), (25, AV.int IntKind.i64 x3), (19, AV.bool !gv (f26 (strOf (cellAt x1 x3 6)))),
        (23, AV.bool !gv (f26 (strOf (cellAt x1 x3 6)))), (22, AV.bool (gv (f26 (strOf (cellAt x1 x3 6))))), (21, AV.str (strOf (cellAt x1 x3 6))), (20, AV.ref 64 0 6),
        (15,
          AV.bool
            !gv
                (f25 (intOf (cellAt x1 x3 0)) (intOf (cellAt x1 x3 1)) (intOf (cellAt x1 x3 2)) (intOf (cellAt x1 x3 3)) (intOf (cellAt x1 x3 4)) (intOf (cellAt x1 x3 5))
                  (strOf (cellAt x1 x3 6)))),
        (18,
          AV.bool
            !gv
                (f25 (intOf (cellAt x1 x3 0)) (intOf (cellAt x1 x3 1)) (intOf (cellAt x1 x3 2)) (intOf (cellAt x1 x3 3)) (intOf (cellAt x1 x3 4)) (intOf (cellAt x1 x3 5))
                  (strOf (cellAt x1 x3 6)))),
        (17,
          AV.bool
            (gv
              (f25 (intOf (cellAt x1 x3 0)) (intOf (cellAt x1 x3 1)) (intOf (cellAt x1 x3 2)) (intOf (cellAt x1 x3 3)) (intOf (cellAt x1 x3 4)) (intOf (cellAt x1 x3 5))
                (strOf (cellAt x1 x3 6))))),
        (16,
          AV.agg
            [AV.int IntKind.i64 (intOf (cellAt x1 x3 0)), AV.int IntKind.i64 (intOf (cellAt x1 x3 1)), AV.int IntKind.i64 (intOf (cellAt x1 x3 2)),
              AV.int IntKind.i64 (intOf (cellAt x1 x3 3)), AV.int IntKind.i64 (intOf (cellAt x1 x3 4)), AV.int IntKind.i64 (intOf (cellAt x1 x3 5)),
              AV.str (strOf (cellAt x1 x3 6))]),
        (3, AV.int IntKind.i64 x3), (4, AV.ref 64 0 0),
        (14,
          AV.agg
            [AV.int IntKind.i64 (intOf (cellAt x1 x3 0)), AV.int IntKind.i64 (intOf (cellAt x1 x3 1)), AV.int IntKind.i64 (intOf (cellAt x1 x3 2)),
              AV.int IntKind.i64 (intOf (cellAt x1 x3 3)), AV.int IntKind.i64 (intOf (cellAt x1 x3 4)), AV.int IntKind.i64 (intOf (cellAt x1 x3 5)),
              AV.str (strOf (cellAt x1 x3 6))]),
        (13,
          AV.ptr
            [AV.int IntKind.i64 (intOf (cellAt x1 x3 0)), AV.int IntKind.i64 (intOf (cellAt x1 x3 1)), AV.int IntKind.i64 (intOf (cellAt x1 x3 2)),
              AV.int IntKind.i64 (intOf (cellAt x1 x3 3)), AV.int IntKind.i64 (intOf (cellAt x1 x3 4)), AV.int IntKind.i64 (intOf (cellAt x1 x3 5)),
              AV.str (strOf (cellAt x1 x3 6))]),
        (12, AV.int IntKind.i64 x3), (11, AV.bool (decide (x3 < x2))), (1001000, AV.junk), (0, AV.view 7 x0), (8, AV.view 7 x1), (9, AV.int IntKind.i64 x2),
        (10, AV.int IntKind.i64 x3)],
    hp :=
      [(64,
          Blk.box
            [AV.int IntKind.i64 (intOf (cellAt x1 x3 0)), AV.int IntKind.i64 (intOf (cellAt x1 x3 1)), AV.int IntKind.i64 (intOf (cellAt x1 x3 2)),
              AV.int IntKind.i64 (intOf (cellAt x1 x3 3)), AV.int IntKind.i64 (intOf (cellAt x1 x3 4)), AV.int IntKind.i64 (intOf (cellAt x1 x3 5)),
              AV.str (strOf (cellAt x1 x3 6))]
            false)],
    nx := 496, k := 0 })
noncomputable def x10_0_3 (x0 : List AV) (x1 : List AV) (x2 : Int) (x3 : Int) : X × St := (X.exit 0,
  { tm := [(11, AV.bool (decide (x3 < x2))), (1001000, AV.junk), (0, AV.view 7 x0), (8, AV.view 7 x1), (9, AV.int IntKind.i64 x2), (10, AV.int IntKind.i64 x3)], hp := [], nx := 16,
    k := 0 })
noncomputable def x10_0 : Nat → TT10_0 → X × St := fun j w => match j with
  | 0 => x10_0_0 w.1 w.2.1 w.2.2.1 w.2.2.2
  | 1 => x10_0_1 w.1 w.2.1 w.2.2.1 w.2.2.2
  | 2 => x10_0_2 w.1 w.2.1 w.2.2.1 w.2.2.2
  | 3 => x10_0_3 w.1 w.2.1 w.2.2.1 w.2.2.2
  | _ => (.ret, ⟨[], [], 0, 0⟩)
theorem e10_0 : ∀ j v, outB (x10_0 j v).1 = true := fun j v => match j with
  | 0 => rfl
  | 1 => rfl
  | 2 => rfl
  | 3 => rfl
  | _ + 4 => rfl
noncomputable def st10_0_0 (x0 : List AV) (x1 : List AV) (x2 : Int) (x3 : Int) : DT (Rd TT10_0) :=
 .br (decide (x3 < x2))
  (.br (okAt [CS.int IntKind.i64, CS.int IntKind.i64, CS.int IntKind.i64, CS.int IntKind.i64, CS.int IntKind.i64, CS.int IntKind.i64, CS.str] x1 x3)
   (.bi (f25 (intOf (cellAt x1 x3 0)) (intOf (cellAt x1 x3 1)) (intOf (cellAt x1 x3 2)) (intOf (cellAt x1 x3 3)) (intOf (cellAt x1 x3 4)) (intOf (cellAt x1 x3 5)) (strOf (cellAt x1 x3 6))) (fun y0 =>
    .br (!y0)
     (.at (.done 0))
     (.bi (f26 (strOf (cellAt x1 x3 6))) (fun y1 =>
      .br (!y1)
       (.at (.done 1))
       (.br (decide (x3 > 0))
        (.br (okAt [CS.int IntKind.i64, CS.int IntKind.i64, CS.int IntKind.i64, CS.int IntKind.i64, CS.int IntKind.i64, CS.int IntKind.i64, CS.str] x0 (IntKind.i64.wrap (x3 - 1)))
         (.br (decide (intOf (cellAt x1 x3 0) ≤ intOf (cellAt x0 (IntKind.i64.wrap (x3 - 1)) 0))) (.at (.done 2)) (.at (.next ((x0, x1, x2, IntKind.i64.wrap (x3 + 1))))))
         (.no))
        (.at (.next ((x0, x1, x2, IntKind.i64.wrap (x3 + 1)))))))
      (.no)))
    (.no))
   (.no))
  (.at (.done 3))
noncomputable def st10_0 : TT10_0 → DT (Rd TT10_0) := (fun v => st10_0_0 v.1 v.2.1 v.2.2.1 v.2.2.2)
noncomputable def T10_0 : Tab := [(29, cloneE 7 64), (25, g25 f25), (26, g26 f26)]
theorem T10_0_ok : TabOk IP (T10_0) := ⟨sp29, s25, s26, trivial⟩
noncomputable def L10_0 : LTab := []
theorem L10_0_ok : LOk IP (L10_0) (loops (loopAt F10 0).2) := LOk_of (l := []) (by kernel_rfl) trivial
theorem b10_0_0 (v : List AV × List AV × Int × Int) : execK (R := Rx TT10_0) IP (callT (T10_0)) (loopT (L10_0)) (loopAt F10 0).2 (h10_0_0 v) (endK (loopAt F10 0).1 d10_0) = (cvD (fun j => x10_0 j v) (st10_0_0 v.1 v.2.1 v.2.2.1 v.2.2.2)).ev := by kernel_rfl
noncomputable def l10_0 (v : TT10_0) : Option (Nat × TT10_0) := lock (iterO (fun v => (st10_0 v).ev) v)
theorem l10_0_eq (v : TT10_0) : l10_0 v = iterO (fun v => (st10_0 v).ev) v := lock_eq _
noncomputable def ll10_0 : LEnt := lEnt d10_0 (l10_0) (x10_0) 4
theorem t10_0 : Go.Eng.Told IP (loopAt F10 0).1 (loopAt F10 0).2 (ll10_0) := loop_of (st := st10_0) (T10_0_ok) (L10_0_ok) d10_0_ok (fun v => n10_0_0 v) (e10_0) (fun v => b10_0_0 v) (l10_0_eq)

-- f10: Check
abbrev A10 : Type := List AV
abbrev B10 : Type := Int
def pa10 : PArgs := ⟨[.view 7], []⟩
def to10 (ls : List Lf) : Option A10 := eatL ls fun x0 ls => eat0 ls x0
def ea10 (v : A10) : List AV × Heap := ([.view 7 v], [])
def er10_0 (v : Int) : Res × Heap := (.ret (.int .i64 v), [])
def er10 : B10 → Res × Heap := er10_0
def en10 : Option B10 → List (Bool × Res × Heap) := (E1 er10_0)
def rd10 : Res → Heap → Option B10 := rDec ⟨false, .int .i64, []⟩ (fun ls => eatI ls fun x0 ls => eat0 ls x0) (rNo)
theorem to10_ok : ∀ ls v, to10 ls = some v → fArgs pa10 ls = ea10 v := by
  intro ls v h0
  unfold to10 at h0
  obtain ⟨x0, ls0, rfl, h1⟩ := eatL_some h0
  obtain ⟨rfl, rfl⟩ := eat0_some h1
  rfl
theorem rd10_ok : ∀ r h y, rd10 r h = some y → (r, h) = er10 y := rDec_ok (by
  intro ls v h0
  obtain ⟨x0, ls0, rfl, h1⟩ := eatI_some h0
  obtain ⟨rfl, rfl⟩ := eat0_some h1
  rfl
) (rNo_ok)
noncomputable def g10 (G : (List AV) → Option B10) : Ent := fEnt pa10 to10 (fun v => G v) en10
theorem g10_ok (G : (List AV) → Option B10) (hG : ∀ v y, G v = some y → callO IP 10 (ea10 v).1 (ea10 v).2 = some (er10 y)) : Snd IP 10 (g10 G) := fEnt_ok to10_ok E1_ok hG
noncomputable def tr10 (x0 : List AV) : DT B10 :=
 .br (decide ((↑x0.length : Int) > 64))
  (.at (5))
  (.bi (pj 0 (l10_0 (x0, x0, (↑x0.length : Int), 0))) (fun y0 =>
   .at (1))
   (.bi (pj 1 (l10_0 (x0, x0, (↑x0.length : Int), 0))) (fun y0 =>
    .at (4))
    (.bi (pj 2 (l10_0 (x0, x0, (↑x0.length : Int), 0))) (fun y0 =>
     .at (10))
     (.bi (pj 3 (l10_0 (x0, x0, (↑x0.length : Int), 0))) (fun y0 =>
      .at (0))
      (.no)))))
noncomputable def T10 : Tab := [(29, cloneE 7 64)]
theorem T10_ok : TabOk IP (T10) := ⟨sp29, trivial⟩
noncomputable def L10 : LTab := [(1001000, ll10_0)]
theorem L10_ok : LOk IP (L10) (loops F10.body) := LOk_of (l := [loopAt F10 0]) (by kernel_rfl) ⟨sel_one (by kernel_rfl) t10_0, trivial⟩
theorem b10 (v : A10) : bodyK (R := B10) IP (callT (T10)) (loopT (L10)) 10 F10 (ea10 v).1 (ea10 v).2 rd10 = (tr10 v).ev := by kernel_rfl
/-- Check -/
noncomputable def f10 (x0 : List AV) : Option B10 := lock (tr10 x0).ev
theorem f10_eq (x0 : List AV) : f10 x0 = (tr10 x0).ev := lock_eq _
theorem c10 : ∀ v y, f10 v = some y → callO IP 10 (ea10 v).1 (ea10 v).2 = some (er10 y) := fun v y h => fun_of T10_ok (by kernel_rfl) L10_ok rd10_ok (b10 v) ((f10_eq v).symm.trans h)
theorem s10 : Snd IP 10 (g10 f10) := g10_ok f10 c10

-- f24: 
abbrev A24 : Type := Int
abbrev B24 : Type := Bool
def pa24 : PArgs := ⟨[.int .i64], []⟩
def to24 (ls : List Lf) : Option A24 := eatI ls fun x0 ls => eat0 ls x0
def ea24 (v : A24) : List AV × Heap := ([.int .i64 v], [])
def er24_0 (v : Bool) : Res × Heap := (.ret (.bool v), [])
def er24 : B24 → Res × Heap := er24_0
def en24 : Option B24 → List (Bool × Res × Heap) := (E1 er24_0)
def rd24 : Res → Heap → Option B24 := rDec ⟨false, .bool, []⟩ (fun ls => eatB ls fun x0 ls => eat0 ls x0) (rNo)
theorem to24_ok : ∀ ls v, to24 ls = some v → fArgs pa24 ls = ea24 v := by
  intro ls v h0
  unfold to24 at h0
  obtain ⟨x0, ls0, rfl, h1⟩ := eatI_some h0
  obtain ⟨rfl, rfl⟩ := eat0_some h1
  rfl
theorem rd24_ok : ∀ r h y, rd24 r h = some y → (r, h) = er24 y := rDec_ok (by
  intro ls v h0
  obtain ⟨x0, ls0, rfl, h1⟩ := eatB_some h0
  obtain ⟨rfl, rfl⟩ := eat0_some h1
  rfl
) (rNo_ok)
noncomputable def g24 (G : Int → Option B24) : Ent := fEnt pa24 to24 (fun v => G v) en24
theorem g24_ok (G : Int → Option B24) (hG : ∀ v y, G v = some y → callO IP 24 (ea24 v).1 (ea24 v).2 = some (er24 y)) : Snd IP 24 (g24 G) := fEnt_ok to24_ok E1_ok hG
noncomputable def tr24 (x0 : Int) : DT B24 :=
 .bi (br (decide (x0 ≥ 0)) (some (decide (x0 ≤ 73048))) (some false)) (fun y0 =>
  .at (y0))
  (.no)
noncomputable def T24 : Tab := [(29, cloneE 7 64)]
theorem T24_ok : TabOk IP (T24) := ⟨sp29, trivial⟩
noncomputable def L24 : LTab := []
theorem L24_ok : LOk IP (L24) (loops F24.body) := LOk_of (l := []) (by kernel_rfl) trivial
theorem b24 (v : A24) : bodyK (R := B24) IP (callT (T24)) (loopT (L24)) 24 F24 (ea24 v).1 (ea24 v).2 rd24 = (tr24 v).ev := by kernel_rfl
/--  -/
noncomputable def f24 (x0 : Int) : Option B24 := lock (tr24 x0).ev
theorem f24_eq (x0 : Int) : f24 x0 = (tr24 x0).ev := lock_eq _
theorem c24 : ∀ v y, f24 v = some y → callO IP 24 (ea24 v).1 (ea24 v).2 = some (er24 y) := fun v y h => fun_of T24_ok (by kernel_rfl) L24_ok rd24_ok (b24 v) ((f24_eq v).symm.trans h)
theorem s24 : Snd IP 24 (g24 f24) := g24_ok f24 c24

-- f27: 
abbrev A27 : Type := Int × Int × Int × Int × Int × Int × List UInt8
abbrev B27 : Type := Bool
def pa27 : PArgs := ⟨[.agg [.int .i64, .int .i64, .int .i64, .int .i64, .int .i64, .int .i64, .str]], []⟩
def to27 (ls : List Lf) : Option A27 := eatI ls fun x0 ls => eatI ls fun x1 ls => eatI ls fun x2 ls => eatI ls fun x3 ls => eatI ls fun x4 ls => eatI ls fun x5 ls => eatS ls fun x6 ls => eat0 ls (x0, x1, x2, x3, x4, x5, x6)
def ea27 (v : A27) : List AV × Heap := ([.agg [.int .i64 v.1, .int .i64 v.2.1, .int .i64 v.2.2.1, .int .i64 v.2.2.2.1, .int .i64 v.2.2.2.2.1, .int .i64 v.2.2.2.2.2.1, .str v.2.2.2.2.2.2]], [])
def er27_0 (v : Bool) : Res × Heap := (.ret (.bool v), [])
def er27 : B27 → Res × Heap := er27_0
def en27 : Option B27 → List (Bool × Res × Heap) := (E1 er27_0)
def rd27 : Res → Heap → Option B27 := rDec ⟨false, .bool, []⟩ (fun ls => eatB ls fun x0 ls => eat0 ls x0) (rNo)
theorem to27_ok : ∀ ls v, to27 ls = some v → fArgs pa27 ls = ea27 v := by
  intro ls v h0
  unfold to27 at h0
  obtain ⟨x0, ls0, rfl, h1⟩ := eatI_some h0
  obtain ⟨x1, ls1, rfl, h2⟩ := eatI_some h1
  obtain ⟨x2, ls2, rfl, h3⟩ := eatI_some h2
  obtain ⟨x3, ls3, rfl, h4⟩ := eatI_some h3
  obtain ⟨x4, ls4, rfl, h5⟩ := eatI_some h4
  obtain ⟨x5, ls5, rfl, h6⟩ := eatI_some h5
  obtain ⟨x6, ls6, rfl, h7⟩ := eatS_some h6
  obtain ⟨rfl, rfl⟩ := eat0_some h7
  rfl
theorem rd27_ok : ∀ r h y, rd27 r h = some y → (r, h) = er27 y := rDec_ok (by
  intro ls v h0
  obtain ⟨x0, ls0, rfl, h1⟩ := eatB_some h0
  obtain ⟨rfl, rfl⟩ := eat0_some h1
  rfl
) (rNo_ok)
noncomputable def g27 (G : Int → Int → Int → Int → Int → Int → (List UInt8) → Option B27) : Ent := fEnt pa27 to27 (fun v => G v.1 v.2.1 v.2.2.1 v.2.2.2.1 v.2.2.2.2.1 v.2.2.2.2.2.1 v.2.2.2.2.2.2) en27
theorem g27_ok (G : Int → Int → Int → Int → Int → Int → (List UInt8) → Option B27) (hG : ∀ v y, G v.1 v.2.1 v.2.2.1 v.2.2.2.1 v.2.2.2.2.1 v.2.2.2.2.2.1 v.2.2.2.2.2.2 = some y → callO IP 27 (ea27 v).1 (ea27 v).2 = some (er27 y)) : Snd IP 27 (g27 G) := fEnt_ok to27_ok E1_ok hG
noncomputable def tr27 (x0 : Int) (x1 : Int) (x2 : Int) (x3 : Int) (x4 : Int) (x5 : Int) (x6 : List UInt8) : DT B27 :=
 .bi (br (decide (x0 < 1)) (some true) (some (decide (x1 < 1000)))) (fun y0 =>
  .bi (br y0 (some true) (some (decide (x2 < 1)))) (fun y1 =>
   .bi (br y1 (some true) (some (decide (x2 > 4)))) (fun y2 =>
    .br (y2)
     (.at (false))
     (.bi (br (x2 == 4) (br (decide (x3 < 1)) (some true) (some (decide (x3 > 1000000000000)))) (some false)) (fun y3 =>
      .bi (br y3 (some true) (br (x2 != 4) (some (x3 != 0)) (some false))) (fun y4 =>
       .br (y4)
        (.at (false))
        (.bi (f24 x4) (fun y5 =>
         .bi (br y5 (br (sm (f24 x5)) (some (gv (f24 x5))) none) (some false)) (fun y6 =>
          .bi (br y6 (some (decide (x4 ≤ x5))) (some false)) (fun y7 =>
           .at (y7))
           (.no))
          (.no))
         (.no)))
       (.no))
      (.no)))
    (.no))
   (.no))
  (.no)
noncomputable def T27 : Tab := [(29, cloneE 7 64), (24, g24 f24)]
theorem T27_ok : TabOk IP (T27) := ⟨sp29, s24, trivial⟩
noncomputable def L27 : LTab := []
theorem L27_ok : LOk IP (L27) (loops F27.body) := LOk_of (l := []) (by kernel_rfl) trivial
theorem b27 (v : A27) : bodyK (R := B27) IP (callT (T27)) (loopT (L27)) 27 F27 (ea27 v).1 (ea27 v).2 rd27 = (tr27 v.1 v.2.1 v.2.2.1 v.2.2.2.1 v.2.2.2.2.1 v.2.2.2.2.2.1 v.2.2.2.2.2.2).ev := by kernel_rfl
/--  -/
noncomputable def f27 (x0 : Int) (x1 : Int) (x2 : Int) (x3 : Int) (x4 : Int) (x5 : Int) (x6 : List UInt8) : Option B27 := lock (tr27 x0 x1 x2 x3 x4 x5 x6).ev
theorem f27_eq (x0 : Int) (x1 : Int) (x2 : Int) (x3 : Int) (x4 : Int) (x5 : Int) (x6 : List UInt8) : f27 x0 x1 x2 x3 x4 x5 x6 = (tr27 x0 x1 x2 x3 x4 x5 x6).ev := lock_eq _
theorem c27 : ∀ v y, f27 v.1 v.2.1 v.2.2.1 v.2.2.2.1 v.2.2.2.2.1 v.2.2.2.2.2.1 v.2.2.2.2.2.2 = some y → callO IP 27 (ea27 v).1 (ea27 v).2 = some (er27 y) := fun v y h => fun_of T27_ok (by kernel_rfl) L27_ok rd27_ok (b27 v) ((f27_eq v.1 v.2.1 v.2.2.1 v.2.2.2.1 v.2.2.2.2.1 v.2.2.2.2.2.1 v.2.2.2.2.2.2).symm.trans h)
theorem s27 : Snd IP 27 (g27 f27) := g27_ok f27 c27

-- l28_0: loop 0 of function 28
abbrev TT28_0 : Type := List UInt8 × Int
def h28_0_0 (v : List UInt8 × Int) : St := ⟨[(1002800, .junk), (0, .str v.1), (3, .int .i64 v.2)], [], 0, 0⟩
def h28_0 : TT28_0 → St := (fun v => h28_0_0 v)
def d28_0 : St → Option TT28_0 := sDec ⟨[(1002800, .junk), (0, .str), (3, .int .i64)], [], 0, 0⟩ (fun ls => eatS ls fun x0 ls => eatI ls fun x1 ls => eat0 ls (x0, x1)) (sNo)
theorem d28_0_ok : ∀ s v, d28_0 s = some v → s = h28_0 v := sDec_ok (by
  intro ls v h0
  obtain ⟨x0, ls0, rfl, h1⟩ := eatS_some h0
  obtain ⟨x1, ls1, rfl, h2⟩ := eatI_some h1
  obtain ⟨rfl, rfl⟩ := eat0_some h2
  rfl
) (sNo_ok)
theorem n28_0_0 (v : List UInt8 × Int) : norm (loopAt F28 0).1 (h28_0_0 v) = some (h28_0_0 v) := by kernel_rfl
noncomputable def x28_0_0 (x0 : List UInt8) (x1 : Int) : X × St := (X.ret,
  {
    tm :=
      [(2, AV.bool false),
        (55,
          AV.bool
            (gv
              (br
                (gv
                  (br (gv (br (decide (byteAt x0 x1 < 97)) (some true) (br (inB x0.length x1) (some (decide (byteAt x0 x1 > 122))) none)))
                    (br (inB x0.length x1) (br (decide (byteAt x0 x1 < 48)) (some true) (br (inB x0.length x1) (some (decide (byteAt x0 x1 > 57))) none)) none) (some false)))
                (br (inB x0.length x1) (some (byteAt x0 x1 != 95)) none) (some false)))),
        (50,
          AV.bool
            (gv
              (br (gv (br (decide (byteAt x0 x1 < 97)) (some true) (br (inB x0.length x1) (some (decide (byteAt x0 x1 > 122))) none)))
                (br (inB x0.length x1) (br (decide (byteAt x0 x1 < 48)) (some true) (br (inB x0.length x1) (some (decide (byteAt x0 x1 > 57))) none)) none) (some false)))),
        (49,
          AV.bool
            (gv
              (br (gv (br (decide (byteAt x0 x1 < 97)) (some true) (br (inB x0.length x1) (some (decide (byteAt x0 x1 > 122))) none)))
                (br (inB x0.length x1) (br (decide (byteAt x0 x1 < 48)) (some true) (br (inB x0.length x1) (some (decide (byteAt x0 x1 > 57))) none)) none) (some false)))),
        (38, AV.bool (gv (br (decide (byteAt x0 x1 < 97)) (some true) (br (inB x0.length x1) (some (decide (byteAt x0 x1 > 122))) none)))),
        (37, AV.bool (gv (br (decide (byteAt x0 x1 < 97)) (some true) (br (inB x0.length x1) (some (decide (byteAt x0 x1 > 122))) none)))),
        (32, AV.bool (decide (byteAt x0 x1 < 97))), (31, AV.bool (decide (byteAt x0 x1 < 97))), (30, AV.int IntKind.u8 (byteAt x0 x1)), (29, AV.int IntKind.i64 x1),
        (28, AV.str x0), (25, AV.bool (decide (x1 < (↑x0.length : Int)))), (24, AV.int IntKind.i64 (↑x0.length : Int)), (23, AV.str x0), (22, AV.int IntKind.i64 x1),
        (1002800, AV.junk), (0, AV.str x0), (3, AV.int IntKind.i64 x1)],
    hp := [], nx := 528, k := 0 })
noncomputable def x28_0_1 (x0 : List UInt8) (x1 : Int) : X × St := (X.exit 0,
  {
    tm :=
      [(25, AV.bool (decide (x1 < (↑x0.length : Int)))), (24, AV.int IntKind.i64 (↑x0.length : Int)), (23, AV.str x0), (22, AV.int IntKind.i64 x1), (1002800, AV.junk),
        (0, AV.str x0), (3, AV.int IntKind.i64 x1)],
    hp := [], nx := 64, k := 0 })
noncomputable def x28_0 : Nat → TT28_0 → X × St := fun j w => match j with
  | 0 => x28_0_0 w.1 w.2
  | 1 => x28_0_1 w.1 w.2
  | _ => (.ret, ⟨[], [], 0, 0⟩)
theorem e28_0 : ∀ j v, outB (x28_0 j v).1 = true := fun j v => match j with
  | 0 => rfl
  | 1 => rfl
  | _ + 2 => rfl
noncomputable def st28_0_0 (x0 : List UInt8) (x1 : Int) : DT (Rd TT28_0) :=
 .br (decide (x1 < (↑x0.length : Int)))
  (.br (inB x0.length x1)
   (.bi (br (decide (byteAt x0 x1 < 97)) (some true) (br (inB x0.length x1) (some (decide (byteAt x0 x1 > 122))) none)) (fun y0 =>
    .bi (br y0 (br (inB x0.length x1) (br (decide (byteAt x0 x1 < 48)) (some true) (br (inB x0.length x1) (some (decide (byteAt x0 x1 > 57))) none)) none) (some false)) (fun y1 =>
     .bi (br y1 (br (inB x0.length x1) (some (byteAt x0 x1 != 95)) none) (some false)) (fun y2 =>
      .br (y2) (.at (.done 0)) (.at (.next ((x0, IntKind.i64.wrap (x1 + 1))))))
      (.no))
     (.no))
    (.no))
   (.no))
  (.at (.done 1))
noncomputable def st28_0 : TT28_0 → DT (Rd TT28_0) := (fun v => st28_0_0 v.1 v.2)
noncomputable def T28_0 : Tab := [(29, cloneE 7 64)]
theorem T28_0_ok : TabOk IP (T28_0) := ⟨sp29, trivial⟩
noncomputable def L28_0 : LTab := []
theorem L28_0_ok : LOk IP (L28_0) (loops (loopAt F28 0).2) := LOk_of (l := []) (by kernel_rfl) trivial
theorem b28_0_0 (v : List UInt8 × Int) : execK (R := Rx TT28_0) IP (callT (T28_0)) (loopT (L28_0)) (loopAt F28 0).2 (h28_0_0 v) (endK (loopAt F28 0).1 d28_0) = (cvD (fun j => x28_0 j v) (st28_0_0 v.1 v.2)).ev := by kernel_rfl
noncomputable def l28_0 (v : TT28_0) : Option (Nat × TT28_0) := lock (iterO (fun v => (st28_0 v).ev) v)
theorem l28_0_eq (v : TT28_0) : l28_0 v = iterO (fun v => (st28_0 v).ev) v := lock_eq _
noncomputable def ll28_0 : LEnt := lEnt d28_0 (l28_0) (x28_0) 2
theorem t28_0 : Go.Eng.Told IP (loopAt F28 0).1 (loopAt F28 0).2 (ll28_0) := loop_of (st := st28_0) (T28_0_ok) (L28_0_ok) d28_0_ok (fun v => n28_0_0 v) (e28_0) (fun v => b28_0_0 v) (l28_0_eq)

-- f28: 
abbrev A28 : Type := List UInt8
abbrev B28 : Type := Bool
def pa28 : PArgs := ⟨[.str], []⟩
def to28 (ls : List Lf) : Option A28 := eatS ls fun x0 ls => eat0 ls x0
def ea28 (v : A28) : List AV × Heap := ([.str v], [])
def er28_0 (v : Bool) : Res × Heap := (.ret (.bool v), [])
def er28 : B28 → Res × Heap := er28_0
def en28 : Option B28 → List (Bool × Res × Heap) := (E1 er28_0)
def rd28 : Res → Heap → Option B28 := rDec ⟨false, .bool, []⟩ (fun ls => eatB ls fun x0 ls => eat0 ls x0) (rNo)
theorem to28_ok : ∀ ls v, to28 ls = some v → fArgs pa28 ls = ea28 v := by
  intro ls v h0
  unfold to28 at h0
  obtain ⟨x0, ls0, rfl, h1⟩ := eatS_some h0
  obtain ⟨rfl, rfl⟩ := eat0_some h1
  rfl
theorem rd28_ok : ∀ r h y, rd28 r h = some y → (r, h) = er28 y := rDec_ok (by
  intro ls v h0
  obtain ⟨x0, ls0, rfl, h1⟩ := eatB_some h0
  obtain ⟨rfl, rfl⟩ := eat0_some h1
  rfl
) (rNo_ok)
noncomputable def g28 (G : (List UInt8) → Option B28) : Ent := fEnt pa28 to28 (fun v => G v) en28
theorem g28_ok (G : (List UInt8) → Option B28) (hG : ∀ v y, G v = some y → callO IP 28 (ea28 v).1 (ea28 v).2 = some (er28 y)) : Snd IP 28 (g28 G) := fEnt_ok to28_ok E1_ok hG
noncomputable def tr28 (x0 : List UInt8) : DT B28 :=
 .bi (br (decide ((↑x0.length : Int) < 1)) (some true) (some (decide ((↑x0.length : Int) > 16)))) (fun y0 =>
  .bi (br y0 (some true) (br (inB x0.length 0) (some (decide (byteAt x0 0 < 97))) none)) (fun y1 =>
   .bi (br y1 (some true) (br (inB x0.length 0) (some (decide (byteAt x0 0 > 122))) none)) (fun y2 =>
    .br (y2)
     (.at (false))
     (.bi (pj 0 (l28_0 (x0, 0))) (fun y3 =>
      .at (false))
      (.bi (pj 1 (l28_0 (x0, 0))) (fun y3 =>
       .at (true))
       (.no))))
    (.no))
   (.no))
  (.no)
noncomputable def T28 : Tab := [(29, cloneE 7 64)]
theorem T28_ok : TabOk IP (T28) := ⟨sp29, trivial⟩
noncomputable def L28 : LTab := [(1002800, ll28_0)]
theorem L28_ok : LOk IP (L28) (loops F28.body) := LOk_of (l := [loopAt F28 0]) (by kernel_rfl) ⟨sel_one (by kernel_rfl) t28_0, trivial⟩
theorem b28 (v : A28) : bodyK (R := B28) IP (callT (T28)) (loopT (L28)) 28 F28 (ea28 v).1 (ea28 v).2 rd28 = (tr28 v).ev := by kernel_rfl
/--  -/
noncomputable def f28 (x0 : List UInt8) : Option B28 := lock (tr28 x0).ev
theorem f28_eq (x0 : List UInt8) : f28 x0 = (tr28 x0).ev := lock_eq _
theorem c28 : ∀ v y, f28 v = some y → callO IP 28 (ea28 v).1 (ea28 v).2 = some (er28 y) := fun v y h => fun_of T28_ok (by kernel_rfl) L28_ok rd28_ok (b28 v) ((f28_eq v).symm.trans h)
theorem s28 : Snd IP 28 (g28 f28) := g28_ok f28 c28

end Go.Proofs.H23

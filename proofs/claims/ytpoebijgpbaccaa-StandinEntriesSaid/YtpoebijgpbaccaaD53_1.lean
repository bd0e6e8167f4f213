/- Functions over plain data. Printed by a program of mine. -/
import Derived.Test.YtpoebijgpbaccaaE3
import Derived.Test.YtpoebijgpbaccaaIP53
import Derived.KernelRfl
set_option linter.unusedVariables false
set_option linter.unusedSimpArgs false
set_option linter.unnecessarySimpa false
namespace Go.Proofs.H53
open Go Go.Eng
set_option maxRecDepth 100000

-- l7_0: loop 0 of function 7
abbrev TT7_0 : Type := Int × Int × List AV × List AV
def h7_0_0 (v : Int × Int × List AV × List AV) : St := ⟨[(1000700, .junk), (1, .ref 0 0 0), (3, .int .i64 v.1)], [(0, .box [.int .i64 v.2.1, .view 3 v.2.2.1, .view 3 v.2.2.2] false)], 1, 0⟩
def h7_0 : TT7_0 → St := (fun v => h7_0_0 v)
def d7_0 : St → Option TT7_0 := sDec ⟨[(1000700, .junk), (1, .ref 0 0 0), (3, .int .i64)], [(0, .box [.int .i64, .view 3, .view 3] false)], 1, 0⟩ (fun ls => eatI ls fun x0 ls => eatI ls fun x1 ls => eatL ls fun x2 ls => eatL ls fun x3 ls => eat0 ls (x0, x1, x2, x3)) (sNo)
theorem d7_0_ok : ∀ s v, d7_0 s = some v → s = h7_0 v := sDec_ok (by
  intro ls v h0
  obtain ⟨x0, ls0, rfl, h1⟩ := eatI_some h0
  obtain ⟨x1, ls1, rfl, h2⟩ := eatI_some h1
  obtain ⟨x2, ls2, rfl, h3⟩ := eatL_some h2
  obtain ⟨x3, ls3, rfl, h4⟩ := eatL_some h3
  obtain ⟨rfl, rfl⟩ := eat0_some h4
  rfl
) (sNo_ok)
theorem n7_0_0 (v : Int × Int × List AV × List AV) : norm (hk (loopAt F7 0).1) (h7_0_0 v) = some (h7_0_0 v) := by kernel_rfl
noncomputable def x7_0_0 (x0 : Int) (x1 : Int) (x2 : List AV) (x3 : List AV) : X × St := (X.ret, { tm := [(2, AV.bool false)], hp := [], nx := 0, k := 0 })
noncomputable def x7_0_1 (x0 : Int) (x1 : Int) (x2 : List AV) (x3 : List AV) : X × St := (X.exit 0, { tm := [(2, AV.junk)], hp := [], nx := 0, k := 0 })
noncomputable def x7_0 : Nat → TT7_0 → X × St := fun j w => match j with
  | 0 => x7_0_0 w.1 w.2.1 w.2.2.1 w.2.2.2
  | 1 => x7_0_1 w.1 w.2.1 w.2.2.1 w.2.2.2
  | _ => (.ret, ⟨[], [], 0, 0⟩)
theorem e7_0 : ∀ j v, outB (x7_0 j v).1 = true := fun j v => match j with
  | 0 => rfl
  | 1 => rfl
  | _ + 2 => rfl
noncomputable def st7_0_0 (x0 : Int) (x1 : Int) (x2 : List AV) (x3 : List AV) : DT (Rd TT7_0) :=
 .br (decide (x0 < (↑x3.length : Int)))
  (.br (okAt [CS.int IntKind.i64, CS.int IntKind.i64, CS.str] x3 x0)
   (.br (decide ((↑(strOf (cellAt x3 x0 2)).length : Int) > 100)) (.at (.done 0)) (.at (.next ((IntKind.i64.wrap (x0 + 1), x1, x2, x3)))))
   (.no))
  (.at (.done 1))
noncomputable def st7_0 : TT7_0 → DT (Rd TT7_0) := (fun v => st7_0_0 v.1 v.2.1 v.2.2.1 v.2.2.2)
noncomputable def T7_0 : Tab := [(34, cloneE 3 24), (35, cloneE 3 32)]
theorem T7_0_ok : TabOk IP (T7_0) := ⟨sp34, sp35, trivial⟩
noncomputable def L7_0 : LTab := []
theorem L7_0_ok : LOk IP (L7_0) (loops (loopAt F7 0).2) := LOk_of (l := []) (by kernel_rfl) trivial
theorem b7_0_0 (v : Int × Int × List AV × List AV) : execK (R := Rx TT7_0) IP (callT (T7_0)) (loopT (L7_0)) (loopAt F7 0).2 (h7_0_0 v) (endK (loopAt F7 0).1 d7_0) = (cvD (fun j => x7_0 j v) (st7_0_0 v.1 v.2.1 v.2.2.1 v.2.2.2)).ev := by kernel_rfl
noncomputable def l7_0 (v : TT7_0) : Option (Nat × TT7_0) := lock (iterO (fun v => (st7_0 v).ev) v)
theorem l7_0_eq (v : TT7_0) : l7_0 v = iterO (fun v => (st7_0 v).ev) v := lock_eq _
noncomputable def ll7_0 : LEnt := lEnt d7_0 (l7_0) (x7_0) 2
theorem t7_0 : Go.Eng.Told IP (loopAt F7 0).1 (loopAt F7 0).2 (ll7_0) := loop_of (st := st7_0) (T7_0_ok) (L7_0_ok) d7_0_ok (fun v => n7_0_0 v) (e7_0) (fun v => b7_0_0 v) (l7_0_eq)

-- f7: 
abbrev A7 : Type := Int × List AV × List AV
abbrev B7 : Type := Bool
def pa7 : PArgs := ⟨[.agg [.int .i64, .view 3, .view 3]], []⟩
def to7 (ls : List Lf) : Option A7 := eatI ls fun x0 ls => eatL ls fun x1 ls => eatL ls fun x2 ls => eat0 ls (x0, x1, x2)
def ea7 (v : A7) : List AV × Heap := ([.agg [.int .i64 v.1, .view 3 v.2.1, .view 3 v.2.2]], [])
def er7_0 (v : Bool) : Res × Heap := (.ret (.bool v), [])
def er7 : B7 → Res × Heap := er7_0
def en7 : Option B7 → List (Bool × Res × Heap) := (E1 er7_0)
def rd7 : Res → Heap → Option B7 := rDec ⟨false, .bool, []⟩ (fun ls => eatB ls fun x0 ls => eat0 ls x0) (rNo)
theorem to7_ok : ∀ ls v, to7 ls = some v → fArgs pa7 ls = ea7 v := by
  intro ls v h0
  unfold to7 at h0
  obtain ⟨x0, ls0, rfl, h1⟩ := eatI_some h0
  obtain ⟨x1, ls1, rfl, h2⟩ := eatL_some h1
  obtain ⟨x2, ls2, rfl, h3⟩ := eatL_some h2
  obtain ⟨rfl, rfl⟩ := eat0_some h3
  rfl
theorem rd7_ok : ∀ r h y, rd7 r h = some y → (r, h) = er7 y := rDec_ok (by
  intro ls v h0
  obtain ⟨x0, ls0, rfl, h1⟩ := eatB_some h0
  obtain ⟨rfl, rfl⟩ := eat0_some h1
  rfl
) (rNo_ok)
noncomputable def g7 (G : Int → (List AV) → (List AV) → Option B7) : Ent := fEnt pa7 to7 (fun v => G v.1 v.2.1 v.2.2) en7
theorem g7_ok (G : Int → (List AV) → (List AV) → Option B7) (hG : ∀ v y, G v.1 v.2.1 v.2.2 = some y → callO IP 7 (ea7 v).1 (ea7 v).2 = some (er7 y)) : Snd IP 7 (g7 G) := fEnt_ok to7_ok E1_ok hG
noncomputable def tr7 (x0 : Int) (x1 : List AV) (x2 : List AV) : DT B7 :=
 .bi (br (decide ((↑x1.length : Int) > 80)) (some true) (some (decide ((↑x2.length : Int) > 80)))) (fun y0 =>
  .br (y0)
   (.at (false))
   (.bi (pj 0 (l7_0 (0, x0, x1, x2))) (fun y1 =>
    .at (false))
    (.bi (pj 1 (l7_0 (0, x0, x1, x2))) (fun y1 =>
     .at (true))
     (.no))))
  (.no)
noncomputable def T7 : Tab := [(34, cloneE 3 24), (35, cloneE 3 32)]
theorem T7_ok : TabOk IP (T7) := ⟨sp34, sp35, trivial⟩
noncomputable def L7 : LTab := [(1000700, ll7_0)]
theorem L7_ok : LOk IP (L7) (loops F7.body) := LOk_of (l := [loopAt F7 0]) (by kernel_rfl) ⟨sel_one (by kernel_rfl) t7_0, trivial⟩
theorem b7 (v : A7) : bodyK (R := B7) IP (callT (T7)) (loopT (L7)) 7 F7 (ea7 v).1 (ea7 v).2 rd7 = (tr7 v.1 v.2.1 v.2.2).ev := by kernel_rfl
/--  -/
noncomputable def f7 (x0 : Int) (x1 : List AV) (x2 : List AV) : Option B7 := lock (tr7 x0 x1 x2).ev
theorem f7_eq (x0 : Int) (x1 : List AV) (x2 : List AV) : f7 x0 x1 x2 = (tr7 x0 x1 x2).ev := lock_eq _
theorem c7 : ∀ v y, f7 v.1 v.2.1 v.2.2 = some y → callO IP 7 (ea7 v).1 (ea7 v).2 = some (er7 y) := fun v y h => fun_of T7_ok (by kernel_rfl) L7_ok rd7_ok (b7 v) ((f7_eq v.1 v.2.1 v.2.2).symm.trans h)
theorem s7 : Snd IP 7 (g7 f7) := g7_ok f7 c7

-- f8: 
abbrev A8 : Type := Unit
abbrev B8 : Type := Bool
def pa8 : PArgs := ⟨[], []⟩
def to8 (ls : List Lf) : Option A8 := eat0 ls ()
def ea8 (v : A8) : List AV × Heap := ([], [])
def er8_0 (v : Bool) : Res × Heap := (.ret (.bool v), [])
def er8 : B8 → Res × Heap := er8_0
def en8 : Option B8 → List (Bool × Res × Heap) := (E1 er8_0)
def rd8 : Res → Heap → Option B8 := rDec ⟨false, .bool, []⟩ (fun ls => eatB ls fun x0 ls => eat0 ls x0) (rNo)
theorem to8_ok : ∀ ls v, to8 ls = some v → fArgs pa8 ls = ea8 v := by
  intro ls v h0
  unfold to8 at h0
  obtain ⟨rfl, rfl⟩ := eat0_some h0
  rfl
theorem rd8_ok : ∀ r h y, rd8 r h = some y → (r, h) = er8 y := rDec_ok (by
  intro ls v h0
  obtain ⟨x0, ls0, rfl, h1⟩ := eatB_some h0
  obtain ⟨rfl, rfl⟩ := eat0_some h1
  rfl
) (rNo_ok)
noncomputable def g8 (G : Option B8) : Ent := fEnt pa8 to8 (fun v => G) en8
theorem g8_ok (G : Option B8) (hG : ∀ v y, G = some y → callO IP 8 (ea8 v).1 (ea8 v).2 = some (er8 y)) : Snd IP 8 (g8 G) := fEnt_ok to8_ok E1_ok hG
noncomputable def tr8 : DT B8 :=
 .at (true)
/--  -/
noncomputable def f8 : Option B8 := lock (tr8).ev
theorem f8_eq : f8 = (tr8).ev := lock_eq _
theorem c8 : ∀ v y, f8 = some y → callO IP 8 (ea8 v).1 (ea8 v).2 = some (er8 y) := by
  intro v y h
  cases (f8_eq).symm.trans h
  exact callO_iff.2 ⟨60, by kernel_rfl⟩
theorem s8 : Snd IP 8 (g8 f8) := g8_ok f8 c8

-- l22_0: loop 0 of function 22
abbrev TT22_0 : Type := List AV × List AV × Int × Int
def h22_0_0 (v : List AV × List AV × Int × Int) : St := ⟨[(1002200, .junk), (0, .view 3 v.1), (5, .view 3 v.2.1), (6, .int .i64 v.2.2.1), (7, .int .i64 v.2.2.2)], [], 0, 0⟩
def h22_0 : TT22_0 → St := (fun v => h22_0_0 v)
def d22_0 : St → Option TT22_0 := sDec ⟨[(1002200, .junk), (0, .view 3), (5, .view 3), (6, .int .i64), (7, .int .i64)], [], 0, 0⟩ (fun ls => eatL ls fun x0 ls => eatL ls fun x1 ls => eatI ls fun x2 ls => eatI ls fun x3 ls => eat0 ls (x0, x1, x2, x3)) (sNo)
theorem d22_0_ok : ∀ s v, d22_0 s = some v → s = h22_0 v := sDec_ok (by
  intro ls v h0
  obtain ⟨x0, ls0, rfl, h1⟩ := eatL_some h0
  obtain ⟨x1, ls1, rfl, h2⟩ := eatL_some h1
  obtain ⟨x2, ls2, rfl, h3⟩ := eatI_some h2
  obtain ⟨x3, ls3, rfl, h4⟩ := eatI_some h3
  obtain ⟨rfl, rfl⟩ := eat0_some h4
  rfl
) (sNo_ok)
theorem n22_0_0 (v : List AV × List AV × Int × Int) : norm (hk (loopAt F22 0).1) (h22_0_0 v) = some (h22_0_0 v) := by kernel_rfl
noncomputable def x22_0_0 (x0 : List AV) (x1 : List AV) (x2 : Int) (x3 : Int) : X × St := (X.ret, { tm := [(2, AV.int IntKind.i64 1)], hp := [], nx := 0, k := 0 })
noncomputable def x22_0_1 (x0 : List AV) (x1 : List AV) (x2 : Int) (x3 : Int) : X × St := (X.ret, { tm := [(2, AV.int IntKind.i64 10)], hp := [], nx := 0, k := 0 })
noncomputable def x22_0_2 (x0 : List AV) (x1 : List AV) (x2 : Int) (x3 : Int) : X × St := (X.exit 0, { tm := [(2, AV.junk)], hp := [], nx := 0, k := 0 })
noncomputable def x22_0 : Nat → TT22_0 → X × St := fun j w => match j with
  | 0 => x22_0_0 w.1 w.2.1 w.2.2.1 w.2.2.2
  | 1 => x22_0_1 w.1 w.2.1 w.2.2.1 w.2.2.2
  | 2 => x22_0_2 w.1 w.2.1 w.2.2.1 w.2.2.2
  | _ => (.ret, ⟨[], [], 0, 0⟩)
theorem e22_0 : ∀ j v, outB (x22_0 j v).1 = true := fun j v => match j with
  | 0 => rfl
  | 1 => rfl
  | 2 => rfl
  | _ + 3 => rfl
noncomputable def st22_0_0 (x0 : List AV) (x1 : List AV) (x2 : Int) (x3 : Int) : DT (Rd TT22_0) :=
 .br (decide (x3 < x2))
  (.br (okAt [CS.int IntKind.i64, CS.int IntKind.i64, CS.int IntKind.i64] x1 x3)
   (.bi (br (decide (intOf (cellAt x1 x3 0) < 1000)) (some true) (some (decide (intOf (cellAt x1 x3 1) < 0)))) (fun y0 =>
    .bi (br y0 (some true) (some (decide (intOf (cellAt x1 x3 2) < 0)))) (fun y1 =>
     .br (y1)
      (.at (.done 0))
      (.br (decide (x3 > 0))
       (.br (okAt [CS.int IntKind.i64, CS.int IntKind.i64, CS.int IntKind.i64] x0 (IntKind.i64.wrap (x3 - 1)))
        (.br (decide (intOf (cellAt x1 x3 0) ≤ intOf (cellAt x0 (IntKind.i64.wrap (x3 - 1)) 0))) (.at (.done 1)) (.at (.next ((x0, x1, x2, IntKind.i64.wrap (x3 + 1))))))
        (.no))
       (.at (.next ((x0, x1, x2, IntKind.i64.wrap (x3 + 1)))))))
     (.no))
    (.no))
   (.no))
  (.at (.done 2))
noncomputable def st22_0 : TT22_0 → DT (Rd TT22_0) := (fun v => st22_0_0 v.1 v.2.1 v.2.2.1 v.2.2.2)
noncomputable def T22_0 : Tab := [(34, cloneE 3 24), (35, cloneE 3 32)]
theorem T22_0_ok : TabOk IP (T22_0) := ⟨sp34, sp35, trivial⟩
noncomputable def L22_0 : LTab := []
theorem L22_0_ok : LOk IP (L22_0) (loops (loopAt F22 0).2) := LOk_of (l := []) (by kernel_rfl) trivial
theorem b22_0_0 (v : List AV × List AV × Int × Int) : execK (R := Rx TT22_0) IP (callT (T22_0)) (loopT (L22_0)) (loopAt F22 0).2 (h22_0_0 v) (endK (loopAt F22 0).1 d22_0) = (cvD (fun j => x22_0 j v) (st22_0_0 v.1 v.2.1 v.2.2.1 v.2.2.2)).ev := by kernel_rfl
noncomputable def l22_0 (v : TT22_0) : Option (Nat × TT22_0) := lock (iterO (fun v => (st22_0 v).ev) v)
theorem l22_0_eq (v : TT22_0) : l22_0 v = iterO (fun v => (st22_0 v).ev) v := lock_eq _
noncomputable def ll22_0 : LEnt := lEnt d22_0 (l22_0) (x22_0) 3
theorem t22_0 : Go.Eng.Told IP (loopAt F22 0).1 (loopAt F22 0).2 (ll22_0) := loop_of (st := st22_0) (T22_0_ok) (L22_0_ok) d22_0_ok (fun v => n22_0_0 v) (e22_0) (fun v => b22_0_0 v) (l22_0_eq)

-- f22: 
abbrev A22 : Type := List AV
abbrev B22 : Type := Int
def pa22 : PArgs := ⟨[.view 3], []⟩
def to22 (ls : List Lf) : Option A22 := eatL ls fun x0 ls => eat0 ls x0
def ea22 (v : A22) : List AV × Heap := ([.view 3 v], [])
def er22_0 (v : Int) : Res × Heap := (.ret (.int .i64 v), [])
def er22 : B22 → Res × Heap := er22_0
def en22 : Option B22 → List (Bool × Res × Heap) := (E1 er22_0)
def rd22 : Res → Heap → Option B22 := rDec ⟨false, .int .i64, []⟩ (fun ls => eatI ls fun x0 ls => eat0 ls x0) (rNo)
theorem to22_ok : ∀ ls v, to22 ls = some v → fArgs pa22 ls = ea22 v := by
  intro ls v h0
  unfold to22 at h0
  obtain ⟨x0, ls0, rfl, h1⟩ := eatL_some h0
  obtain ⟨rfl, rfl⟩ := eat0_some h1
  rfl
theorem rd22_ok : ∀ r h y, rd22 r h = some y → (r, h) = er22 y := rDec_ok (by
  intro ls v h0
  obtain ⟨x0, ls0, rfl, h1⟩ := eatI_some h0
  obtain ⟨rfl, rfl⟩ := eat0_some h1
  rfl
) (rNo_ok)
noncomputable def g22 (G : (List AV) → Option B22) : Ent := fEnt pa22 to22 (fun v => G v) en22
theorem g22_ok (G : (List AV) → Option B22) (hG : ∀ v y, G v = some y → callO IP 22 (ea22 v).1 (ea22 v).2 = some (er22 y)) : Snd IP 22 (g22 G) := fEnt_ok to22_ok E1_ok hG
noncomputable def tr22 (x0 : List AV) : DT B22 :=
 .bi (pj 0 (l22_0 (x0, x0, (↑x0.length : Int), 0))) (fun y0 =>
  .at (1))
  (.bi (pj 1 (l22_0 (x0, x0, (↑x0.length : Int), 0))) (fun y0 =>
   .at (10))
   (.bi (pj 2 (l22_0 (x0, x0, (↑x0.length : Int), 0))) (fun y0 =>
    .at (0))
    (.no)))
noncomputable def T22 : Tab := [(34, cloneE 3 24), (35, cloneE 3 32)]
theorem T22_ok : TabOk IP (T22) := ⟨sp34, sp35, trivial⟩
noncomputable def L22 : LTab := [(1002200, ll22_0)]
theorem L22_ok : LOk IP (L22) (loops F22.body) := LOk_of (l := [loopAt F22 0]) (by kernel_rfl) ⟨sel_one (by kernel_rfl) t22_0, trivial⟩
theorem b22 (v : A22) : bodyK (R := B22) IP (callT (T22)) (loopT (L22)) 22 F22 (ea22 v).1 (ea22 v).2 rd22 = (tr22 v).ev := by kernel_rfl
/--  -/
noncomputable def f22 (x0 : List AV) : Option B22 := lock (tr22 x0).ev
theorem f22_eq (x0 : List AV) : f22 x0 = (tr22 x0).ev := lock_eq _
theorem c22 : ∀ v y, f22 v = some y → callO IP 22 (ea22 v).1 (ea22 v).2 = some (er22 y) := fun v y h => fun_of T22_ok (by kernel_rfl) L22_ok rd22_ok (b22 v) ((f22_eq v).symm.trans h)
theorem s22 : Snd IP 22 (g22 f22) := g22_ok f22 c22

-- f29: 
abbrev A29 : Type := Int
abbrev B29 : Type := Bool
def pa29 : PArgs := ⟨[.int .i64], []⟩
def to29 (ls : List Lf) : Option A29 := eatI ls fun x0 ls => eat0 ls x0
def ea29 (v : A29) : List AV × Heap := ([.int .i64 v], [])
def er29_0 (v : Bool) : Res × Heap := (.ret (.bool v), [])
def er29 : B29 → Res × Heap := er29_0
def en29 : Option B29 → List (Bool × Res × Heap) := (E1 er29_0)
def rd29 : Res → Heap → Option B29 := rDec ⟨false, .bool, []⟩ (fun ls => eatB ls fun x0 ls => eat0 ls x0) (rNo)
theorem to29_ok : ∀ ls v, to29 ls = some v → fArgs pa29 ls = ea29 v := by
  intro ls v h0
  unfold to29 at h0
  obtain ⟨x0, ls0, rfl, h1⟩ := eatI_some h0
  obtain ⟨rfl, rfl⟩ := eat0_some h1
  rfl
theorem rd29_ok : ∀ r h y, rd29 r h = some y → (r, h) = er29 y := rDec_ok (by
  intro ls v h0
  obtain ⟨x0, ls0, rfl, h1⟩ := eatB_some h0
  obtain ⟨rfl, rfl⟩ := eat0_some h1
  rfl
) (rNo_ok)
noncomputable def g29 (G : Int → Option B29) : Ent := fEnt pa29 to29 (fun v => G v) en29
theorem g29_ok (G : Int → Option B29) (hG : ∀ v y, G v = some y → callO IP 29 (ea29 v).1 (ea29 v).2 = some (er29 y)) : Snd IP 29 (g29 G) := fEnt_ok to29_ok E1_ok hG
noncomputable def tr29 (x0 : Int) : DT B29 :=
 .bi (br (decide (x0 ≥ -1000000000000)) (some (decide (x0 ≤ 1000000000000))) (some false)) (fun y0 =>
  .at (y0))
  (.no)
noncomputable def T29 : Tab := [(34, cloneE 3 24), (35, cloneE 3 32)]
theorem T29_ok : TabOk IP (T29) := ⟨sp34, sp35, trivial⟩
noncomputable def L29 : LTab := []
theorem L29_ok : LOk IP (L29) (loops F29.body) := LOk_of (l := []) (by kernel_rfl) trivial
theorem b29 (v : A29) : bodyK (R := B29) IP (callT (T29)) (loopT (L29)) 29 F29 (ea29 v).1 (ea29 v).2 rd29 = (tr29 v).ev := by kernel_rfl
/--  -/
noncomputable def f29 (x0 : Int) : Option B29 := lock (tr29 x0).ev
theorem f29_eq (x0 : Int) : f29 x0 = (tr29 x0).ev := lock_eq _
theorem c29 : ∀ v y, f29 v = some y → callO IP 29 (ea29 v).1 (ea29 v).2 = some (er29 y) := fun v y h => fun_of T29_ok (by kernel_rfl) L29_ok rd29_ok (b29 v) ((f29_eq v).symm.trans h)
theorem s29 : Snd IP 29 (g29 f29) := g29_ok f29 c29

-- l30_0: loop 0 of function 30
abbrev TT30_0 : Type := List UInt8 × Int × Int
def h30_0_0 (v : List UInt8 × Int × Int) : St := ⟨[(1003000, .junk), (0, .str v.1), (5, .int .i64 v.2.1), (6, .int .i64 v.2.2)], [], 0, 0⟩
def h30_0 : TT30_0 → St := (fun v => h30_0_0 v)
def d30_0 : St → Option TT30_0 := sDec ⟨[(1003000, .junk), (0, .str), (5, .int .i64), (6, .int .i64)], [], 0, 0⟩ (fun ls => eatS ls fun x0 ls => eatI ls fun x1 ls => eatI ls fun x2 ls => eat0 ls (x0, x1, x2)) (sNo)
theorem d30_0_ok : ∀ s v, d30_0 s = some v → s = h30_0 v := sDec_ok (by
  intro ls v h0
  obtain ⟨x0, ls0, rfl, h1⟩ := eatS_some h0
  obtain ⟨x1, ls1, rfl, h2⟩ := eatI_some h1
  obtain ⟨x2, ls2, rfl, h3⟩ := eatI_some h2
  obtain ⟨rfl, rfl⟩ := eat0_some h3
  rfl
) (sNo_ok)
theorem n30_0_0 (v : List UInt8 × Int × Int) : norm (hk (loopAt F30 0).1) (h30_0_0 v) = some (h30_0_0 v) := by kernel_rfl
noncomputable def x30_0_0 (x0 : List UInt8) (x1 : Int) (x2 : Int) : X × St := (X.ret, { tm := [(0, AV.str x0), (2, AV.bool false)], hp := [], nx := 0, k := 0 })
noncomputable def x30_0_1 (x0 : List UInt8) (x1 : Int) (x2 : Int) : X × St := (X.exit 0, { tm := [(0, AV.str x0), (2, AV.junk)], hp := [], nx := 0, k := 0 })
noncomputable def x30_0 : Nat → TT30_0 → X × St := fun j w => match j with
  | 0 => x30_0_0 w.1 w.2.1 w.2.2
  | 1 => x30_0_1 w.1 w.2.1 w.2.2
  | _ => (.ret, ⟨[], [], 0, 0⟩)
theorem e30_0 : ∀ j v, outB (x30_0 j v).1 = true := fun j v => match j with
  | 0 => rfl
  | 1 => rfl
  | _ + 2 => rfl
noncomputable def st30_0_0 (x0 : List UInt8) (x1 : Int) (x2 : Int) : DT (Rd TT30_0) :=
 .br (decide (x2 < x1))
  (.br (inB x0.length x2)
   (.bi (br (decide (byteAt x0 x2 < 33)) (some true) (br (inB x0.length x2) (some (decide (byteAt x0 x2 > 126))) none)) (fun y0 =>
    .br (y0) (.at (.done 0)) (.at (.next ((x0, x1, IntKind.i64.wrap (x2 + 1))))))
    (.no))
   (.no))
  (.at (.done 1))
noncomputable def st30_0 : TT30_0 → DT (Rd TT30_0) := (fun v => st30_0_0 v.1 v.2.1 v.2.2)
noncomputable def T30_0 : Tab := [(34, cloneE 3 24), (35, cloneE 3 32)]
theorem T30_0_ok : TabOk IP (T30_0) := ⟨sp34, sp35, trivial⟩
noncomputable def L30_0 : LTab := []
theorem L30_0_ok : LOk IP (L30_0) (loops (loopAt F30 0).2) := LOk_of (l := []) (by kernel_rfl) trivial
theorem b30_0_0 (v : List UInt8 × Int × Int) : execK (R := Rx TT30_0) IP (callT (T30_0)) (loopT (L30_0)) (loopAt F30 0).2 (h30_0_0 v) (endK (loopAt F30 0).1 d30_0) = (cvD (fun j => x30_0 j v) (st30_0_0 v.1 v.2.1 v.2.2)).ev := by kernel_rfl
noncomputable def l30_0 (v : TT30_0) : Option (Nat × TT30_0) := lock (iterO (fun v => (st30_0 v).ev) v)
theorem l30_0_eq (v : TT30_0) : l30_0 v = iterO (fun v => (st30_0 v).ev) v := lock_eq _
noncomputable def ll30_0 : LEnt := lEnt d30_0 (l30_0) (x30_0) 2
theorem t30_0 : Go.Eng.Told IP (loopAt F30 0).1 (loopAt F30 0).2 (ll30_0) := loop_of (st := st30_0) (T30_0_ok) (L30_0_ok) d30_0_ok (fun v => n30_0_0 v) (e30_0) (fun v => b30_0_0 v) (l30_0_eq)

-- f30: 
abbrev A30 : Type := List UInt8
abbrev B30 : Type := Bool
def pa30 : PArgs := ⟨[.str], []⟩
def to30 (ls : List Lf) : Option A30 := eatS ls fun x0 ls => eat0 ls x0
def ea30 (v : A30) : List AV × Heap := ([.str v], [])
def er30_0 (v : Bool) : Res × Heap := (.ret (.bool v), [])
def er30 : B30 → Res × Heap := er30_0
def en30 : Option B30 → List (Bool × Res × Heap) := (E1 er30_0)
def rd30 : Res → Heap → Option B30 := rDec ⟨false, .bool, []⟩ (fun ls => eatB ls fun x0 ls => eat0 ls x0) (rNo)
theorem to30_ok : ∀ ls v, to30 ls = some v → fArgs pa30 ls = ea30 v := by
  intro ls v h0
  unfold to30 at h0
  obtain ⟨x0, ls0, rfl, h1⟩ := eatS_some h0
  obtain ⟨rfl, rfl⟩ := eat0_some h1
  rfl
theorem rd30_ok : ∀ r h y, rd30 r h = some y → (r, h) = er30 y := rDec_ok (by
  intro ls v h0
  obtain ⟨x0, ls0, rfl, h1⟩ := eatB_some h0
  obtain ⟨rfl, rfl⟩ := eat0_some h1
  rfl
) (rNo_ok)
noncomputable def g30 (G : (List UInt8) → Option B30) : Ent := fEnt pa30 to30 (fun v => G v) en30
theorem g30_ok (G : (List UInt8) → Option B30) (hG : ∀ v y, G v = some y → callO IP 30 (ea30 v).1 (ea30 v).2 = some (er30 y)) : Snd IP 30 (g30 G) := fEnt_ok to30_ok E1_ok hG
noncomputable def tr30 (x0 : List UInt8) : DT B30 :=
 .bi (pj 0 (l30_0 (x0, (↑x0.length : Int), 0))) (fun y0 =>
  .at (false))
  (.bi (pj 1 (l30_0 (x0, (↑x0.length : Int), 0))) (fun y0 =>
   .bi (br (decide ((↑y0.fst.length : Int) ≥ 1)) (some (decide ((↑y0.fst.length : Int) ≤ 48))) (some false)) (fun y1 =>
    .at (y1))
    (.no))
   (.no))
noncomputable def T30 : Tab := [(34, cloneE 3 24), (35, cloneE 3 32)]
theorem T30_ok : TabOk IP (T30) := ⟨sp34, sp35, trivial⟩
noncomputable def L30 : LTab := [(1003000, ll30_0)]
theorem L30_ok : LOk IP (L30) (loops F30.body) := LOk_of (l := [loopAt F30 0]) (by kernel_rfl) ⟨sel_one (by kernel_rfl) t30_0, trivial⟩
theorem b30 (v : A30) : bodyK (R := B30) IP (callT (T30)) (loopT (L30)) 30 F30 (ea30 v).1 (ea30 v).2 rd30 = (tr30 v).ev := by kernel_rfl
/--  -/
noncomputable def f30 (x0 : List UInt8) : Option B30 := lock (tr30 x0).ev
theorem f30_eq (x0 : List UInt8) : f30 x0 = (tr30 x0).ev := lock_eq _
theorem c30 : ∀ v y, f30 v = some y → callO IP 30 (ea30 v).1 (ea30 v).2 = some (er30 y) := fun v y h => fun_of T30_ok (by kernel_rfl) L30_ok rd30_ok (b30 v) ((f30_eq v).symm.trans h)
theorem s30 : Snd IP 30 (g30 f30) := g30_ok f30 c30

-- f45: 
abbrev A45 : Type := Int × Int × Int × Int
abbrev B45 : Type := Bool
def pa45 : PArgs := ⟨[.agg [.int .i64, .int .i64, .int .i64], .ptr [.int .i64]], []⟩
def to45 (ls : List Lf) : Option A45 := eatI ls fun x0 ls => eatI ls fun x1 ls => eatI ls fun x2 ls => eatI ls fun x3 ls => eat0 ls (x0, x1, x2, x3)
def ea45 (v : A45) : List AV × Heap := ([.agg [.int .i64 v.1, .int .i64 v.2.1, .int .i64 v.2.2.1], .ptr [.int .i64 v.2.2.2]], [])
def er45_0 (v : Bool) : Res × Heap := (.ret (.bool v), [])
def er45 : B45 → Res × Heap := er45_0
def en45 : Option B45 → List (Bool × Res × Heap) := (E1 er45_0)
def rd45 : Res → Heap → Option B45 := rDec ⟨false, .bool, []⟩ (fun ls => eatB ls fun x0 ls => eat0 ls x0) (rNo)
theorem to45_ok : ∀ ls v, to45 ls = some v → fArgs pa45 ls = ea45 v := by
  intro ls v h0
  unfold to45 at h0
  obtain ⟨x0, ls0, rfl, h1⟩ := eatI_some h0
  obtain ⟨x1, ls1, rfl, h2⟩ := eatI_some h1
  obtain ⟨x2, ls2, rfl, h3⟩ := eatI_some h2
  obtain ⟨x3, ls3, rfl, h4⟩ := eatI_some h3
  obtain ⟨rfl, rfl⟩ := eat0_some h4
  rfl
theorem rd45_ok : ∀ r h y, rd45 r h = some y → (r, h) = er45 y := rDec_ok (by
  intro ls v h0
  obtain ⟨x0, ls0, rfl, h1⟩ := eatB_some h0
  obtain ⟨rfl, rfl⟩ := eat0_some h1
  rfl
) (rNo_ok)
noncomputable def g45 (G : Int → Int → Int → Int → Option B45) : Ent := fEnt pa45 to45 (fun v => G v.1 v.2.1 v.2.2.1 v.2.2.2) en45
theorem g45_ok (G : Int → Int → Int → Int → Option B45) (hG : ∀ v y, G v.1 v.2.1 v.2.2.1 v.2.2.2 = some y → callO IP 45 (ea45 v).1 (ea45 v).2 = some (er45 y)) : Snd IP 45 (g45 G) := fEnt_ok to45_ok E1_ok hG
noncomputable def tr45 (x0 : Int) (x1 : Int) (x2 : Int) (x3 : Int) : DT B45 :=
 .at (x0 == x3)
noncomputable def T45 : Tab := [(34, cloneE 3 24), (35, cloneE 3 32)]
theorem T45_ok : TabOk IP (T45) := ⟨sp34, sp35, trivial⟩
noncomputable def L45 : LTab := []
theorem L45_ok : LOk IP (L45) (loops F45.body) := LOk_of (l := []) (by kernel_rfl) trivial
theorem b45 (v : A45) : bodyK (R := B45) IP (callT (T45)) (loopT (L45)) 45 F45 (ea45 v).1 (ea45 v).2 rd45 = (tr45 v.1 v.2.1 v.2.2.1 v.2.2.2).ev := by kernel_rfl
/--  -/
noncomputable def f45 (x0 : Int) (x1 : Int) (x2 : Int) (x3 : Int) : Option B45 := lock (tr45 x0 x1 x2 x3).ev
theorem f45_eq (x0 : Int) (x1 : Int) (x2 : Int) (x3 : Int) : f45 x0 x1 x2 x3 = (tr45 x0 x1 x2 x3).ev := lock_eq _
theorem c45 : ∀ v y, f45 v.1 v.2.1 v.2.2.1 v.2.2.2 = some y → callO IP 45 (ea45 v).1 (ea45 v).2 = some (er45 y) := fun v y h => fun_of T45_ok (by kernel_rfl) L45_ok rd45_ok (b45 v) ((f45_eq v.1 v.2.1 v.2.2.1 v.2.2.2).symm.trans h)
theorem s45 : Snd IP 45 (g45 f45) := g45_ok f45 c45

-- l44_0: loop 0 of function 44
abbrev TT44_0 : Type := List AV × Int × Int × Int
def h44_0_0 (v : List AV × Int × Int × Int) : St := ⟨[(1004400, .junk), (0, .view 3 v.1), (1, .fn (.func 45) [.ptr [.int .i64 v.2.1]]), (7, .int .i64 v.2.2.1), (8, .int .i64 v.2.2.2)], [], 0, 0⟩
def h44_0 : TT44_0 → St := (fun v => h44_0_0 v)
def d44_0 : St → Option TT44_0 := sDec ⟨[(1004400, .junk), (0, .view 3), (1, .fn (.func 45) [.ptr [.int .i64]]), (7, .int .i64), (8, .int .i64)], [], 0, 0⟩ (fun ls => eatL ls fun x0 ls => eatI ls fun x1 ls => eatI ls fun x2 ls => eatI ls fun x3 ls => eat0 ls (x0, x1, x2, x3)) (sNo)
theorem d44_0_ok : ∀ s v, d44_0 s = some v → s = h44_0 v := sDec_ok (by
  intro ls v h0
  obtain ⟨x0, ls0, rfl, h1⟩ := eatL_some h0
  obtain ⟨x1, ls1, rfl, h2⟩ := eatI_some h1
  obtain ⟨x2, ls2, rfl, h3⟩ := eatI_some h2
  obtain ⟨x3, ls3, rfl, h4⟩ := eatI_some h3
  obtain ⟨rfl, rfl⟩ := eat0_some h4
  rfl
) (sNo_ok)
theorem n44_0_0 (v : List AV × Int × Int × Int) : norm (hk (loopAt F44 0).1) (h44_0_0 v) = some (h44_0_0 v) := by kernel_rfl
noncomputable def x44_0_0 (x0 : List AV) (x1 : Int) (x2 : Int) (x3 : Int) : X × St := (X.ret, { tm := [(4, AV.int IntKind.i64 x3)], hp := [], nx := 0, k := 0 })
noncomputable def x44_0_1 (x0 : List AV) (x1 : Int) (x2 : Int) (x3 : Int) : X × St := (X.exit 0, { tm := [(4, AV.junk)], hp := [], nx := 0, k := 0 })
noncomputable def x44_0 : Nat → TT44_0 → X × St := fun j w => match j with
  | 0 => x44_0_0 w.1 w.2.1 w.2.2.1 w.2.2.2
  | 1 => x44_0_1 w.1 w.2.1 w.2.2.1 w.2.2.2
  | _ => (.ret, ⟨[], [], 0, 0⟩)
theorem e44_0 : ∀ j v, outB (x44_0 j v).1 = true := fun j v => match j with
  | 0 => rfl
  | 1 => rfl
  | _ + 2 => rfl
noncomputable def st44_0_0 (x0 : List AV) (x1 : Int) (x2 : Int) (x3 : Int) : DT (Rd TT44_0) :=
 .br (decide (x3 < x2))
  (.br (okAt [CS.int IntKind.i64, CS.int IntKind.i64, CS.int IntKind.i64] x0 x3)
   (.bi (f45 (intOf (cellAt x0 x3 0)) (intOf (cellAt x0 x3 1)) (intOf (cellAt x0 x3 2)) x1) (fun y0 =>
    .br (y0) (.at (.done 0)) (.at (.next ((x0, x1, x2, IntKind.i64.wrap (x3 + 1))))))
    (.no))
   (.no))
  (.at (.done 1))
noncomputable def st44_0 : TT44_0 → DT (Rd TT44_0) := (fun v => st44_0_0 v.1 v.2.1 v.2.2.1 v.2.2.2)
noncomputable def T44_0 : Tab := [(34, cloneE 3 24), (35, cloneE 3 32), (45, g45 f45)]
theorem T44_0_ok : TabOk IP (T44_0) := ⟨sp34, sp35, s45, trivial⟩
noncomputable def L44_0 : LTab := []
theorem L44_0_ok : LOk IP (L44_0) (loops (loopAt F44 0).2) := LOk_of (l := []) (by kernel_rfl) trivial
theorem b44_0_0 (v : List AV × Int × Int × Int) : execK (R := Rx TT44_0) IP (callT (T44_0)) (loopT (L44_0)) (loopAt F44 0).2 (h44_0_0 v) (endK (loopAt F44 0).1 d44_0) = (cvD (fun j => x44_0 j v) (st44_0_0 v.1 v.2.1 v.2.2.1 v.2.2.2)).ev := by kernel_rfl
noncomputable def l44_0 (v : TT44_0) : Option (Nat × TT44_0) := lock (iterO (fun v => (st44_0 v).ev) v)
theorem l44_0_eq (v : TT44_0) : l44_0 v = iterO (fun v => (st44_0 v).ev) v := lock_eq _
noncomputable def ll44_0 : LEnt := lEnt d44_0 (l44_0) (x44_0) 2
theorem t44_0 : Go.Eng.Told IP (loopAt F44 0).1 (loopAt F44 0).2 (ll44_0) := loop_of (st := st44_0) (T44_0_ok) (L44_0_ok) d44_0_ok (fun v => n44_0_0 v) (e44_0) (fun v => b44_0_0 v) (l44_0_eq)

-- f44: 
abbrev A44 : Type := List AV × Int
abbrev B44 : Type := Int
def pa44 : PArgs := ⟨[.view 3, .fn (.func 45) [.ptr [.int .i64]]], []⟩
def to44 (ls : List Lf) : Option A44 := eatL ls fun x0 ls => eatI ls fun x1 ls => eat0 ls (x0, x1)
def ea44 (v : A44) : List AV × Heap := ([.view 3 v.1, .fn (.func 45) [.ptr [.int .i64 v.2]]], [])
def er44_0 (v : Int) : Res × Heap := (.ret (.int .i64 v), [])
def er44 : B44 → Res × Heap := er44_0
def en44 : Option B44 → List (Bool × Res × Heap) := (E1 er44_0)
def rd44 : Res → Heap → Option B44 := rDec ⟨false, .int .i64, []⟩ (fun ls => eatI ls fun x0 ls => eat0 ls x0) (rNo)
theorem to44_ok : ∀ ls v, to44 ls = some v → fArgs pa44 ls = ea44 v := by
  intro ls v h0
  unfold to44 at h0
  obtain ⟨x0, ls0, rfl, h1⟩ := eatL_some h0
  obtain ⟨x1, ls1, rfl, h2⟩ := eatI_some h1
  obtain ⟨rfl, rfl⟩ := eat0_some h2
  rfl
theorem rd44_ok : ∀ r h y, rd44 r h = some y → (r, h) = er44 y := rDec_ok (by
  intro ls v h0
  obtain ⟨x0, ls0, rfl, h1⟩ := eatI_some h0
  obtain ⟨rfl, rfl⟩ := eat0_some h1
  rfl
) (rNo_ok)
noncomputable def g44 (G : (List AV) → Int → Option B44) : Ent := fEnt pa44 to44 (fun v => G v.1 v.2) en44
theorem g44_ok (G : (List AV) → Int → Option B44) (hG : ∀ v y, G v.1 v.2 = some y → callO IP 44 (ea44 v).1 (ea44 v).2 = some (er44 y)) : Snd IP 44 (g44 G) := fEnt_ok to44_ok E1_ok hG
noncomputable def tr44 (x0 : List AV) (x1 : Int) : DT B44 :=
 .bi (pj 0 (l44_0 (x0, x1, (↑x0.length : Int), 0))) (fun y0 =>
  .at (y0.snd.snd.snd))
  (.bi (pj 1 (l44_0 (x0, x1, (↑x0.length : Int), 0))) (fun y0 =>
   .at (-1))
   (.no))
noncomputable def T44 : Tab := [(34, cloneE 3 24), (35, cloneE 3 32)]
theorem T44_ok : TabOk IP (T44) := ⟨sp34, sp35, trivial⟩
noncomputable def L44 : LTab := [(1004400, ll44_0)]
theorem L44_ok : LOk IP (L44) (loops F44.body) := LOk_of (l := [loopAt F44 0]) (by kernel_rfl) ⟨sel_one (by kernel_rfl) t44_0, trivial⟩
theorem b44 (v : A44) : bodyK (R := B44) IP (callT (T44)) (loopT (L44)) 44 F44 (ea44 v).1 (ea44 v).2 rd44 = (tr44 v.1 v.2).ev := by kernel_rfl
/--  -/
noncomputable def f44 (x0 : List AV) (x1 : Int) : Option B44 := lock (tr44 x0 x1).ev
theorem f44_eq (x0 : List AV) (x1 : Int) : f44 x0 x1 = (tr44 x0 x1).ev := lock_eq _
theorem c44 : ∀ v y, f44 v.1 v.2 = some y → callO IP 44 (ea44 v).1 (ea44 v).2 = some (er44 y) := fun v y h => fun_of T44_ok (by kernel_rfl) L44_ok rd44_ok (b44 v) ((f44_eq v.1 v.2).symm.trans h)
theorem s44 : Snd IP 44 (g44 f44) := g44_ok f44 c44

-- f28: 
abbrev A28 : Type := List AV × Int
abbrev B28 : Type := Int
def pa28 : PArgs := ⟨[.view 3, .int .i64], []⟩
def to28 (ls : List Lf) : Option A28 := eatL ls fun x0 ls => eatI ls fun x1 ls => eat0 ls (x0, x1)
def ea28 (v : A28) : List AV × Heap := ([.view 3 v.1, .int .i64 v.2], [])
def er28_0 (v : Int) : Res × Heap := (.ret (.int .i64 v), [])
def er28 : B28 → Res × Heap := er28_0
def en28 : Option B28 → List (Bool × Res × Heap) := (E1 er28_0)
def rd28 : Res → Heap → Option B28 := rDec ⟨false, .int .i64, []⟩ (fun ls => eatI ls fun x0 ls => eat0 ls x0) (rNo)
theorem to28_ok : ∀ ls v, to28 ls = some v → fArgs pa28 ls = ea28 v := by
  intro ls v h0
  unfold to28 at h0
  obtain ⟨x0, ls0, rfl, h1⟩ := eatL_some h0
  obtain ⟨x1, ls1, rfl, h2⟩ := eatI_some h1
  obtain ⟨rfl, rfl⟩ := eat0_some h2
  rfl
theorem rd28_ok : ∀ r h y, rd28 r h = some y → (r, h) = er28 y := rDec_ok (by
  intro ls v h0
  obtain ⟨x0, ls0, rfl, h1⟩ := eatI_some h0
  obtain ⟨rfl, rfl⟩ := eat0_some h1
  rfl
) (rNo_ok)
noncomputable def g28 (G : (List AV) → Int → Option B28) : Ent := fEnt pa28 to28 (fun v => G v.1 v.2) en28
theorem g28_ok (G : (List AV) → Int → Option B28) (hG : ∀ v y, G v.1 v.2 = some y → callO IP 28 (ea28 v).1 (ea28 v).2 = some (er28 y)) : Snd IP 28 (g28 G) := fEnt_ok to28_ok E1_ok hG
noncomputable def tr28 (x0 : List AV) (x1 : Int) : DT B28 :=
 .bi (f44 x0 x1) (fun y0 =>
  .at (y0))
  (.no)
noncomputable def T28 : Tab := [(34, cloneE 3 24), (35, cloneE 3 32), (44, g44 f44)]
theorem T28_ok : TabOk IP (T28) := ⟨sp34, sp35, s44, trivial⟩
noncomputable def L28 : LTab := []
theorem L28_ok : LOk IP (L28) (loops F28.body) := LOk_of (l := []) (by kernel_rfl) trivial
theorem b28 (v : A28) : bodyK (R := B28) IP (callT (T28)) (loopT (L28)) 28 F28 (ea28 v).1 (ea28 v).2 rd28 = (tr28 v.1 v.2).ev := by kernel_rfl
/--  -/
noncomputable def f28 (x0 : List AV) (x1 : Int) : Option B28 := lock (tr28 x0 x1).ev
theorem f28_eq (x0 : List AV) (x1 : Int) : f28 x0 x1 = (tr28 x0 x1).ev := lock_eq _
theorem c28 : ∀ v y, f28 v.1 v.2 = some y → callO IP 28 (ea28 v).1 (ea28 v).2 = some (er28 y) := fun v y h => fun_of T28_ok (by kernel_rfl) L28_ok rd28_ok (b28 v) ((f28_eq v.1 v.2).symm.trans h)
theorem s28 : Snd IP 28 (g28 f28) := g28_ok f28 c28

-- f41: 
abbrev A41 : Type := Int × Int × List UInt8 × Int × Int × List UInt8
abbrev B41 : Type := Bool
def pa41 : PArgs := ⟨[.agg [.int .i64, .int .i64, .str], .ptr [.int .i64, .int .i64, .str]], []⟩
def to41 (ls : List Lf) : Option A41 := eatI ls fun x0 ls => eatI ls fun x1 ls => eatS ls fun x2 ls => eatI ls fun x3 ls => eatI ls fun x4 ls => eatS ls fun x5 ls => eat0 ls (x0, x1, x2, x3, x4, x5)
def ea41 (v : A41) : List AV × Heap := ([.agg [.int .i64 v.1, .int .i64 v.2.1, .str v.2.2.1], .ptr [.int .i64 v.2.2.2.1, .int .i64 v.2.2.2.2.1, .str v.2.2.2.2.2]], [])
def er41_0 (v : Bool) : Res × Heap := (.ret (.bool v), [])
def er41 : B41 → Res × Heap := er41_0
def en41 : Option B41 → List (Bool × Res × Heap) := (E1 er41_0)
def rd41 : Res → Heap → Option B41 := rDec ⟨false, .bool, []⟩ (fun ls => eatB ls fun x0 ls => eat0 ls x0) (rNo)
theorem to41_ok : ∀ ls v, to41 ls = some v → fArgs pa41 ls = ea41 v := by
  intro ls v h0
  unfold to41 at h0
  obtain ⟨x0, ls0, rfl, h1⟩ := eatI_some h0
  obtain ⟨x1, ls1, rfl, h2⟩ := eatI_some h1
  obtain ⟨x2, ls2, rfl, h3⟩ := eatS_some h2
  obtain ⟨x3, ls3, rfl, h4⟩ := eatI_some h3
  obtain ⟨x4, ls4, rfl, h5⟩ := eatI_some h4
  obtain ⟨x5, ls5, rfl, h6⟩ := eatS_some h5
  obtain ⟨rfl, rfl⟩ := eat0_some h6
  rfl
theorem rd41_ok : ∀ r h y, rd41 r h = some y → (r, h) = er41 y := rDec_ok (by
  intro ls v h0
  obtain ⟨x0, ls0, rfl, h1⟩ := eatB_some h0
  obtain ⟨rfl, rfl⟩ := eat0_some h1
  rfl
) (rNo_ok)
noncomputable def g41 (G : Int → Int → (List UInt8) → Int → Int → (List UInt8) → Option B41) : Ent := fEnt pa41 to41 (fun v => G v.1 v.2.1 v.2.2.1 v.2.2.2.1 v.2.2.2.2.1 v.2.2.2.2.2) en41
theorem g41_ok (G : Int → Int → (List UInt8) → Int → Int → (List UInt8) → Option B41) (hG : ∀ v y, G v.1 v.2.1 v.2.2.1 v.2.2.2.1 v.2.2.2.2.1 v.2.2.2.2.2 = some y → callO IP 41 (ea41 v).1 (ea41 v).2 = some (er41 y)) : Snd IP 41 (g41 G) := fEnt_ok to41_ok E1_ok hG
noncomputable def tr41 (x0 : Int) (x1 : Int) (x2 : List UInt8) (x3 : Int) (x4 : Int) (x5 : List UInt8) : DT B41 :=
 .at (x2 == x5)
noncomputable def T41 : Tab := [(34, cloneE 3 24), (35, cloneE 3 32)]
theorem T41_ok : TabOk IP (T41) := ⟨sp34, sp35, trivial⟩
noncomputable def L41 : LTab := []
theorem L41_ok : LOk IP (L41) (loops F41.body) := LOk_of (l := []) (by kernel_rfl) trivial
theorem b41 (v : A41) : bodyK (R := B41) IP (callT (T41)) (loopT (L41)) 41 F41 (ea41 v).1 (ea41 v).2 rd41 = (tr41 v.1 v.2.1 v.2.2.1 v.2.2.2.1 v.2.2.2.2.1 v.2.2.2.2.2).ev := by kernel_rfl
/--  -/
noncomputable def f41 (x0 : Int) (x1 : Int) (x2 : List UInt8) (x3 : Int) (x4 : Int) (x5 : List UInt8) : Option B41 := lock (tr41 x0 x1 x2 x3 x4 x5).ev
theorem f41_eq (x0 : Int) (x1 : Int) (x2 : List UInt8) (x3 : Int) (x4 : Int) (x5 : List UInt8) : f41 x0 x1 x2 x3 x4 x5 = (tr41 x0 x1 x2 x3 x4 x5).ev := lock_eq _
theorem c41 : ∀ v y, f41 v.1 v.2.1 v.2.2.1 v.2.2.2.1 v.2.2.2.2.1 v.2.2.2.2.2 = some y → callO IP 41 (ea41 v).1 (ea41 v).2 = some (er41 y) := fun v y h => fun_of T41_ok (by kernel_rfl) L41_ok rd41_ok (b41 v) ((f41_eq v.1 v.2.1 v.2.2.1 v.2.2.2.1 v.2.2.2.2.1 v.2.2.2.2.2).symm.trans h)
theorem s41 : Snd IP 41 (g41 f41) := g41_ok f41 c41

-- l46_0: loop 0 of function 46
abbrev TT46_0 : Type := List AV × Int × Int × List UInt8 × Int × Int
def h46_0_0 (v : List AV × Int × Int × List UInt8 × Int × Int) : St := ⟨[(1004600, .junk), (0, .view 3 v.1), (1, .fn (.func 41) [.ptr [.int .i64 v.2.1, .int .i64 v.2.2.1, .str v.2.2.2.1]]), (7, .int .i64 v.2.2.2.2.1), (8, .int .i64 v.2.2.2.2.2)], [], 0, 0⟩
def h46_0 : TT46_0 → St := (fun v => h46_0_0 v)
def d46_0 : St → Option TT46_0 := sDec ⟨[(1004600, .junk), (0, .view 3), (1, .fn (.func 41) [.ptr [.int .i64, .int .i64, .str]]), (7, .int .i64), (8, .int .i64)], [], 0, 0⟩ (fun ls => eatL ls fun x0 ls => eatI ls fun x1 ls => eatI ls fun x2 ls => eatS ls fun x3 ls => eatI ls fun x4 ls => eatI ls fun x5 ls => eat0 ls (x0, x1, x2, x3, x4, x5)) (sNo)
theorem d46_0_ok : ∀ s v, d46_0 s = some v → s = h46_0 v := sDec_ok (by
  intro ls v h0
  obtain ⟨x0, ls0, rfl, h1⟩ := eatL_some h0
  obtain ⟨x1, ls1, rfl, h2⟩ := eatI_some h1
  obtain ⟨x2, ls2, rfl, h3⟩ := eatI_some h2
  obtain ⟨x3, ls3, rfl, h4⟩ := eatS_some h3
  obtain ⟨x4, ls4, rfl, h5⟩ := eatI_some h4
  obtain ⟨x5, ls5, rfl, h6⟩ := eatI_some h5
  obtain ⟨rfl, rfl⟩ := eat0_some h6
  rfl
) (sNo_ok)
theorem n46_0_0 (v : List AV × Int × Int × List UInt8 × Int × Int) : norm (hk (loopAt F46 0).1) (h46_0_0 v) = some (h46_0_0 v) := by kernel_rfl
noncomputable def x46_0_0 (x0 : List AV) (x1 : Int) (x2 : Int) (x3 : List UInt8) (x4 : Int) (x5 : Int) : X × St := (X.ret, { tm := [(4, AV.int IntKind.i64 x5)], hp := [], nx := 0, k := 0 })
noncomputable def x46_0_1 (x0 : List AV) (x1 : Int) (x2 : Int) (x3 : List UInt8) (x4 : Int) (x5 : Int) : X × St := (X.exit 0, { tm := [(4, AV.junk)], hp := [], nx := 0, k := 0 })
noncomputable def x46_0 : Nat → TT46_0 → X × St := fun j w => match j with
  | 0 => x46_0_0 w.1 w.2.1 w.2.2.1 w.2.2.2.1 w.2.2.2.2.1 w.2.2.2.2.2
  | 1 => x46_0_1 w.1 w.2.1 w.2.2.1 w.2.2.2.1 w.2.2.2.2.1 w.2.2.2.2.2
  | _ => (.ret, ⟨[], [], 0, 0⟩)
theorem e46_0 : ∀ j v, outB (x46_0 j v).1 = true := fun j v => match j with
  | 0 => rfl
  | 1 => rfl
  | _ + 2 => rfl
noncomputable def st46_0_0 (x0 : List AV) (x1 : Int) (x2 : Int) (x3 : List UInt8) (x4 : Int) (x5 : Int) : DT (Rd TT46_0) :=
 .br (decide (x5 < x4))
  (.br (okAt [CS.int IntKind.i64, CS.int IntKind.i64, CS.str] x0 x5)
   (.bi (f41 (intOf (cellAt x0 x5 0)) (intOf (cellAt x0 x5 1)) (strOf (cellAt x0 x5 2)) x1 x2 x3) (fun y0 =>
    .br (y0) (.at (.done 0)) (.at (.next ((x0, x1, x2, x3, x4, IntKind.i64.wrap (x5 + 1))))))
    (.no))
   (.no))
  (.at (.done 1))
noncomputable def st46_0 : TT46_0 → DT (Rd TT46_0) := (fun v => st46_0_0 v.1 v.2.1 v.2.2.1 v.2.2.2.1 v.2.2.2.2.1 v.2.2.2.2.2)
noncomputable def T46_0 : Tab := [(34, cloneE 3 24), (35, cloneE 3 32), (41, g41 f41)]
theorem T46_0_ok : TabOk IP (T46_0) := ⟨sp34, sp35, s41, trivial⟩
noncomputable def L46_0 : LTab := []
theorem L46_0_ok : LOk IP (L46_0) (loops (loopAt F46 0).2) := LOk_of (l := []) (by kernel_rfl) trivial
theorem b46_0_0 (v : List AV × Int × Int × List UInt8 × Int × Int) : execK (R := Rx TT46_0) IP (callT (T46_0)) (loopT (L46_0)) (loopAt F46 0).2 (h46_0_0 v) (endK (loopAt F46 0).1 d46_0) = (cvD (fun j => x46_0 j v) (st46_0_0 v.1 v.2.1 v.2.2.1 v.2.2.2.1 v.2.2.2.2.1 v.2.2.2.2.2)).ev := by kernel_rfl
noncomputable def l46_0 (v : TT46_0) : Option (Nat × TT46_0) := lock (iterO (fun v => (st46_0 v).ev) v)
theorem l46_0_eq (v : TT46_0) : l46_0 v = iterO (fun v => (st46_0 v).ev) v := lock_eq _
noncomputable def ll46_0 : LEnt := lEnt d46_0 (l46_0) (x46_0) 2
theorem t46_0 : Go.Eng.Told IP (loopAt F46 0).1 (loopAt F46 0).2 (ll46_0) := loop_of (st := st46_0) (T46_0_ok) (L46_0_ok) d46_0_ok (fun v => n46_0_0 v) (e46_0) (fun v => b46_0_0 v) (l46_0_eq)

-- f46: 
abbrev A46 : Type := List AV × Int × Int × List UInt8
abbrev B46 : Type := Int
def pa46 : PArgs := ⟨[.view 3, .fn (.func 41) [.ptr [.int .i64, .int .i64, .str]]], []⟩
def to46 (ls : List Lf) : Option A46 := eatL ls fun x0 ls => eatI ls fun x1 ls => eatI ls fun x2 ls => eatS ls fun x3 ls => eat0 ls (x0, x1, x2, x3)
def ea46 (v : A46) : List AV × Heap := ([.view 3 v.1, .fn (.func 41) [.ptr [.int .i64 v.2.1, .int .i64 v.2.2.1, .str v.2.2.2]]], [])
def er46_0 (v : Int) : Res × Heap := (.ret (.int .i64 v), [])
def er46 : B46 → Res × Heap := er46_0
def en46 : Option B46 → List (Bool × Res × Heap) := (E1 er46_0)
def rd46 : Res → Heap → Option B46 := rDec ⟨false, .int .i64, []⟩ (fun ls => eatI ls fun x0 ls => eat0 ls x0) (rNo)
theorem to46_ok : ∀ ls v, to46 ls = some v → fArgs pa46 ls = ea46 v := by
  intro ls v h0
  unfold to46 at h0
  obtain ⟨x0, ls0, rfl, h1⟩ := eatL_some h0
  obtain ⟨x1, ls1, rfl, h2⟩ := eatI_some h1
  obtain ⟨x2, ls2, rfl, h3⟩ := eatI_some h2
  obtain ⟨x3, ls3, rfl, h4⟩ := eatS_some h3
  obtain ⟨rfl, rfl⟩ := eat0_some h4
  rfl
theorem rd46_ok : ∀ r h y, rd46 r h = some y → (r, h) = er46 y := rDec_ok (by
  intro ls v h0
  obtain ⟨x0, ls0, rfl, h1⟩ := eatI_some h0
  obtain ⟨rfl, rfl⟩ := eat0_some h1
  rfl
) (rNo_ok)
noncomputable def g46 (G : (List AV) → Int → Int → (List UInt8) → Option B46) : Ent := fEnt pa46 to46 (fun v => G v.1 v.2.1 v.2.2.1 v.2.2.2) en46
theorem g46_ok (G : (List AV) → Int → Int → (List UInt8) → Option B46) (hG : ∀ v y, G v.1 v.2.1 v.2.2.1 v.2.2.2 = some y → callO IP 46 (ea46 v).1 (ea46 v).2 = some (er46 y)) : Snd IP 46 (g46 G) := fEnt_ok to46_ok E1_ok hG
noncomputable def tr46 (x0 : List AV) (x1 : Int) (x2 : Int) (x3 : List UInt8) : DT B46 :=
 .bi (pj 0 (l46_0 (x0, x1, x2, x3, (↑x0.length : Int), 0))) (fun y0 =>
  .at (y0.snd.snd.snd.snd.snd))
  (.bi (pj 1 (l46_0 (x0, x1, x2, x3, (↑x0.length : Int), 0))) (fun y0 =>
   .at (-1))
   (.no))
noncomputable def T46 : Tab := [(34, cloneE 3 24), (35, cloneE 3 32)]
theorem T46_ok : TabOk IP (T46) := ⟨sp34, sp35, trivial⟩
noncomputable def L46 : LTab := [(1004600, ll46_0)]
theorem L46_ok : LOk IP (L46) (loops F46.body) := LOk_of (l := [loopAt F46 0]) (by kernel_rfl) ⟨sel_one (by kernel_rfl) t46_0, trivial⟩
theorem b46 (v : A46) : bodyK (R := B46) IP (callT (T46)) (loopT (L46)) 46 F46 (ea46 v).1 (ea46 v).2 rd46 = (tr46 v.1 v.2.1 v.2.2.1 v.2.2.2).ev := by kernel_rfl
/--  -/
noncomputable def f46 (x0 : List AV) (x1 : Int) (x2 : Int) (x3 : List UInt8) : Option B46 := lock (tr46 x0 x1 x2 x3).ev
theorem f46_eq (x0 : List AV) (x1 : Int) (x2 : Int) (x3 : List UInt8) : f46 x0 x1 x2 x3 = (tr46 x0 x1 x2 x3).ev := lock_eq _
theorem c46 : ∀ v y, f46 v.1 v.2.1 v.2.2.1 v.2.2.2 = some y → callO IP 46 (ea46 v).1 (ea46 v).2 = some (er46 y) := fun v y h => fun_of T46_ok (by kernel_rfl) L46_ok rd46_ok (b46 v) ((f46_eq v.1 v.2.1 v.2.2.1 v.2.2.2).symm.trans h)
theorem s46 : Snd IP 46 (g46 f46) := g46_ok f46 c46

-- f31: 
abbrev A31 : Type := List AV × Int × Int × List UInt8
abbrev B31 : Type := Bool
def pa31 : PArgs := ⟨[.view 3, .fn (.func 41) [.ptr [.int .i64, .int .i64, .str]]], []⟩
def to31 (ls : List Lf) : Option A31 := eatL ls fun x0 ls => eatI ls fun x1 ls => eatI ls fun x2 ls => eatS ls fun x3 ls => eat0 ls (x0, x1, x2, x3)
def ea31 (v : A31) : List AV × Heap := ([.view 3 v.1, .fn (.func 41) [.ptr [.int .i64 v.2.1, .int .i64 v.2.2.1, .str v.2.2.2]]], [])
def er31_0 (v : Bool) : Res × Heap := (.ret (.bool v), [])
def er31 : B31 → Res × Heap := er31_0
def en31 : Option B31 → List (Bool × Res × Heap) := (E1 er31_0)
def rd31 : Res → Heap → Option B31 := rDec ⟨false, .bool, []⟩ (fun ls => eatB ls fun x0 ls => eat0 ls x0) (rNo)
theorem to31_ok : ∀ ls v, to31 ls = some v → fArgs pa31 ls = ea31 v := by
  intro ls v h0
  unfold to31 at h0
  obtain ⟨x0, ls0, rfl, h1⟩ := eatL_some h0
  obtain ⟨x1, ls1, rfl, h2⟩ := eatI_some h1
  obtain ⟨x2, ls2, rfl, h3⟩ := eatI_some h2
  obtain ⟨x3, ls3, rfl, h4⟩ := eatS_some h3
  obtain ⟨rfl, rfl⟩ := eat0_some h4
  rfl
theorem rd31_ok : ∀ r h y, rd31 r h = some y → (r, h) = er31 y := rDec_ok (by
  intro ls v h0
  obtain ⟨x0, ls0, rfl, h1⟩ := eatB_some h0
  obtain ⟨rfl, rfl⟩ := eat0_some h1
  rfl
) (rNo_ok)
noncomputable def g31 (G : (List AV) → Int → Int → (List UInt8) → Option B31) : Ent := fEnt pa31 to31 (fun v => G v.1 v.2.1 v.2.2.1 v.2.2.2) en31
theorem g31_ok (G : (List AV) → Int → Int → (List UInt8) → Option B31) (hG : ∀ v y, G v.1 v.2.1 v.2.2.1 v.2.2.2 = some y → callO IP 31 (ea31 v).1 (ea31 v).2 = some (er31 y)) : Snd IP 31 (g31 G) := fEnt_ok to31_ok E1_ok hG
noncomputable def tr31 (x0 : List AV) (x1 : Int) (x2 : Int) (x3 : List UInt8) : DT B31 :=
 .bi (f46 x0 x1 x2 x3) (fun y0 =>
  .at (decide (y0 ≥ 0)))
  (.no)
noncomputable def T31 : Tab := [(34, cloneE 3 24), (35, cloneE 3 32), (46, g46 f46)]
theorem T31_ok : TabOk IP (T31) := ⟨sp34, sp35, s46, trivial⟩
noncomputable def L31 : LTab := []
theorem L31_ok : LOk IP (L31) (loops F31.body) := LOk_of (l := []) (by kernel_rfl) trivial
theorem b31 (v : A31) : bodyK (R := B31) IP (callT (T31)) (loopT (L31)) 31 F31 (ea31 v).1 (ea31 v).2 rd31 = (tr31 v.1 v.2.1 v.2.2.1 v.2.2.2).ev := by kernel_rfl
/--  -/
noncomputable def f31 (x0 : List AV) (x1 : Int) (x2 : Int) (x3 : List UInt8) : Option B31 := lock (tr31 x0 x1 x2 x3).ev
theorem f31_eq (x0 : List AV) (x1 : Int) (x2 : Int) (x3 : List UInt8) : f31 x0 x1 x2 x3 = (tr31 x0 x1 x2 x3).ev := lock_eq _
theorem c31 : ∀ v y, f31 v.1 v.2.1 v.2.2.1 v.2.2.2 = some y → callO IP 31 (ea31 v).1 (ea31 v).2 = some (er31 y) := fun v y h => fun_of T31_ok (by kernel_rfl) L31_ok rd31_ok (b31 v) ((f31_eq v.1 v.2.1 v.2.2.1 v.2.2.2).symm.trans h)
theorem s31 : Snd IP 31 (g31 f31) := g31_ok f31 c31

-- l23_0: loop 0 of function 23
abbrev TT23_0 : Type := List AV × Int × Int × Int × List AV × List AV
def h23_0_0 (v : List AV × Int × Int × Int × List AV × List AV) : St := ⟨[(1002300, .junk), (1, .ref 0 0 0), (6, .view 3 v.1), (7, .int .i64 v.2.1), (8, .int .i64 v.2.2.1)], [(0, .box [.int .i64 v.2.2.2.1, .view 3 v.2.2.2.2.1, .view 3 v.2.2.2.2.2] false)], 1, 0⟩
def h23_0 : TT23_0 → St := (fun v => h23_0_0 v)
def d23_0 : St → Option TT23_0 := sDec ⟨[(1002300, .junk), (1, .ref 0 0 0), (6, .view 3), (7, .int .i64), (8, .int .i64)], [(0, .box [.int .i64, .view 3, .view 3] false)], 1, 0⟩ (fun ls => eatL ls fun x0 ls => eatI ls fun x1 ls => eatI ls fun x2 ls => eatI ls fun x3 ls => eatL ls fun x4 ls => eatL ls fun x5 ls => eat0 ls (x0, x1, x2, x3, x4, x5)) (sNo)
theorem d23_0_ok : ∀ s v, d23_0 s = some v → s = h23_0 v := sDec_ok (by
  intro ls v h0
  obtain ⟨x0, ls0, rfl, h1⟩ := eatL_some h0
  obtain ⟨x1, ls1, rfl, h2⟩ := eatI_some h1
  obtain ⟨x2, ls2, rfl, h3⟩ := eatI_some h2
  obtain ⟨x3, ls3, rfl, h4⟩ := eatI_some h3
  obtain ⟨x4, ls4, rfl, h5⟩ := eatL_some h4
  obtain ⟨x5, ls5, rfl, h6⟩ := eatL_some h5
  obtain ⟨rfl, rfl⟩ := eat0_some h6
  rfl
) (sNo_ok)
theorem n23_0_0 (v : List AV × Int × Int × Int × List AV × List AV) : norm (hk (loopAt F23 0).1) (h23_0_0 v) = some (h23_0_0 v) := by kernel_rfl
noncomputable def x23_0_0 (x0 : List AV) (x1 : Int) (x2 : Int) (x3 : Int) (x4 : List AV) (x5 : List AV) : X × St := (X.ret, { tm := [(2, AV.int IntKind.i64 1)], hp := [], nx := 0, k := 0 })
noncomputable def x23_0_1 (x0 : List AV) (x1 : Int) (x2 : Int) (x3 : Int) (x4 : List AV) (x5 : List AV) : X × St := (X.ret, { tm := [(2, AV.int IntKind.i64 11)], hp := [], nx := 0, k := 0 })
noncomputable def x23_0_2 (x0 : List AV) (x1 : Int) (x2 : Int) (x3 : Int) (x4 : List AV) (x5 : List AV) : X × St := (X.ret, { tm := [(2, AV.int IntKind.i64 12)], hp := [], nx := 0, k := 0 })
noncomputable def x23_0_3 (x0 : List AV) (x1 : Int) (x2 : Int) (x3 : Int) (x4 : List AV) (x5 : List AV) : X × St := (X.exit 0, { tm := [(2, AV.junk)], hp := [], nx := 0, k := 0 })
noncomputable def x23_0 : Nat → TT23_0 → X × St := fun j w => match j with
  | 0 => x23_0_0 w.1 w.2.1 w.2.2.1 w.2.2.2.1 w.2.2.2.2.1 w.2.2.2.2.2
  | 1 => x23_0_1 w.1 w.2.1 w.2.2.1 w.2.2.2.1 w.2.2.2.2.1 w.2.2.2.2.2
  | 2 => x23_0_2 w.1 w.2.1 w.2.2.1 w.2.2.2.1 w.2.2.2.2.1 w.2.2.2.2.2
  | 3 => x23_0_3 w.1 w.2.1 w.2.2.1 w.2.2.2.1 w.2.2.2.2.1 w.2.2.2.2.2
  | _ => (.ret, ⟨[], [], 0, 0⟩)
theorem e23_0 : ∀ j v, outB (x23_0 j v).1 = true := fun j v => match j with
  | 0 => rfl
  | 1 => rfl
  | 2 => rfl
  | 3 => rfl
  | _ + 4 => rfl
noncomputable def st23_0_0 (x0 : List AV) (x1 : Int) (x2 : Int) (x3 : Int) (x4 : List AV) (x5 : List AV) : DT (Rd TT23_0) :=
 .br (decide (x2 < x1))
  (.br (okAt [CS.int IntKind.i64, CS.int IntKind.i64, CS.str] x0 x2)
   (.bi (br (intOf (cellAt x0 x2 1) == 0) (some true) (br (sm (f29 (intOf (cellAt x0 x2 1)))) (some !gv (f29 (intOf (cellAt x0 x2 1)))) none)) (fun y0 =>
    .bi (br y0 (some true) (br (sm (f30 (strOf (cellAt x0 x2 2)))) (some !gv (f30 (strOf (cellAt x0 x2 2)))) none)) (fun y1 =>
     .br (y1)
      (.at (.done 0))
      (.bi (f28 x4 (intOf (cellAt x0 x2 0))) (fun y2 =>
       .br (decide (y2 < 0))
        (.at (.done 1))
        (.br (leB x2 x5.length && true)
         (.bi (f31 (List.take x2.toNat x5) (intOf (cellAt x0 x2 0)) (intOf (cellAt x0 x2 1)) (strOf (cellAt x0 x2 2))) (fun y3 =>
          .br (y3) (.at (.done 2)) (.at (.next ((x0, x1, IntKind.i64.wrap (x2 + 1), x3, x4, x5)))))
          (.no))
         (.no)))
       (.no)))
     (.no))
    (.no))
   (.no))
  (.at (.done 3))
noncomputable def st23_0 : TT23_0 → DT (Rd TT23_0) := (fun v => st23_0_0 v.1 v.2.1 v.2.2.1 v.2.2.2.1 v.2.2.2.2.1 v.2.2.2.2.2)
noncomputable def T23_0 : Tab := [(34, cloneE 3 24), (35, cloneE 3 32), (29, g29 f29), (30, g30 f30), (28, g28 f28), (31, g31 f31)]
theorem T23_0_ok : TabOk IP (T23_0) := ⟨sp34, sp35, s29, s30, s28, s31, trivial⟩
noncomputable def L23_0 : LTab := []
theorem L23_0_ok : LOk IP (L23_0) (loops (loopAt F23 0).2) := LOk_of (l := []) (by kernel_rfl) trivial
theorem b23_0_0 (v : List AV × Int × Int × Int × List AV × List AV) : execK (R := Rx TT23_0) IP (callT (T23_0)) (loopT (L23_0)) (loopAt F23 0).2 (h23_0_0 v) (endK (loopAt F23 0).1 d23_0) = (cvD (fun j => x23_0 j v) (st23_0_0 v.1 v.2.1 v.2.2.1 v.2.2.2.1 v.2.2.2.2.1 v.2.2.2.2.2)).ev := by kernel_rfl
noncomputable def l23_0 (v : TT23_0) : Option (Nat × TT23_0) := lock (iterO (fun v => (st23_0 v).ev) v)
theorem l23_0_eq (v : TT23_0) : l23_0 v = iterO (fun v => (st23_0 v).ev) v := lock_eq _
noncomputable def ll23_0 : LEnt := lEnt d23_0 (l23_0) (x23_0) 4
theorem t23_0 : Go.Eng.Told IP (loopAt F23 0).1 (loopAt F23 0).2 (ll23_0) := loop_of (st := st23_0) (T23_0_ok) (L23_0_ok) d23_0_ok (fun v => n23_0_0 v) (e23_0) (fun v => b23_0_0 v) (l23_0_eq)

-- f23: 
abbrev A23 : Type := Int × List AV × List AV
abbrev B23 : Type := Int
def pa23 : PArgs := ⟨[.agg [.int .i64, .view 3, .view 3]], []⟩
def to23 (ls : List Lf) : Option A23 := eatI ls fun x0 ls => eatL ls fun x1 ls => eatL ls fun x2 ls => eat0 ls (x0, x1, x2)
def ea23 (v : A23) : List AV × Heap := ([.agg [.int .i64 v.1, .view 3 v.2.1, .view 3 v.2.2]], [])
def er23_0 (v : Int) : Res × Heap := (.ret (.int .i64 v), [])
def er23 : B23 → Res × Heap := er23_0
def en23 : Option B23 → List (Bool × Res × Heap) := (E1 er23_0)
def rd23 : Res → Heap → Option B23 := rDec ⟨false, .int .i64, []⟩ (fun ls => eatI ls fun x0 ls => eat0 ls x0) (rNo)
theorem to23_ok : ∀ ls v, to23 ls = some v → fArgs pa23 ls = ea23 v := by
  intro ls v h0
  unfold to23 at h0
  obtain ⟨x0, ls0, rfl, h1⟩ := eatI_some h0
  obtain ⟨x1, ls1, rfl, h2⟩ := eatL_some h1
  obtain ⟨x2, ls2, rfl, h3⟩ := eatL_some h2
  obtain ⟨rfl, rfl⟩ := eat0_some h3
  rfl
theorem rd23_ok : ∀ r h y, rd23 r h = some y → (r, h) = er23 y := rDec_ok (by
  intro ls v h0
  obtain ⟨x0, ls0, rfl, h1⟩ := eatI_some h0
  obtain ⟨rfl, rfl⟩ := eat0_some h1
  rfl
) (rNo_ok)
noncomputable def g23 (G : Int → (List AV) → (List AV) → Option B23) : Ent := fEnt pa23 to23 (fun v => G v.1 v.2.1 v.2.2) en23
theorem g23_ok (G : Int → (List AV) → (List AV) → Option B23) (hG : ∀ v y, G v.1 v.2.1 v.2.2 = some y → callO IP 23 (ea23 v).1 (ea23 v).2 = some (er23 y)) : Snd IP 23 (g23 G) := fEnt_ok to23_ok E1_ok hG
noncomputable def tr23 (x0 : Int) (x1 : List AV) (x2 : List AV) : DT B23 :=
 .bi (pj 0 (l23_0 (x2, (↑x2.length : Int), 0, x0, x1, x2))) (fun y0 =>
  .at (1))
  (.bi (pj 1 (l23_0 (x2, (↑x2.length : Int), 0, x0, x1, x2))) (fun y0 =>
   .at (11))
   (.bi (pj 2 (l23_0 (x2, (↑x2.length : Int), 0, x0, x1, x2))) (fun y0 =>
    .at (12))
    (.bi (pj 3 (l23_0 (x2, (↑x2.length : Int), 0, x0, x1, x2))) (fun y0 =>
     .at (0))
     (.no))))
noncomputable def T23 : Tab := [(34, cloneE 3 24), (35, cloneE 3 32)]
theorem T23_ok : TabOk IP (T23) := ⟨sp34, sp35, trivial⟩
noncomputable def L23 : LTab := [(1002300, ll23_0)]
theorem L23_ok : LOk IP (L23) (loops F23.body) := LOk_of (l := [loopAt F23 0]) (by kernel_rfl) ⟨sel_one (by kernel_rfl) t23_0, trivial⟩
theorem b23 (v : A23) : bodyK (R := B23) IP (callT (T23)) (loopT (L23)) 23 F23 (ea23 v).1 (ea23 v).2 rd23 = (tr23 v.1 v.2.1 v.2.2).ev := by kernel_rfl
/--  -/
noncomputable def f23 (x0 : Int) (x1 : List AV) (x2 : List AV) : Option B23 := lock (tr23 x0 x1 x2).ev
theorem f23_eq (x0 : Int) (x1 : List AV) (x2 : List AV) : f23 x0 x1 x2 = (tr23 x0 x1 x2).ev := lock_eq _
theorem c23 : ∀ v y, f23 v.1 v.2.1 v.2.2 = some y → callO IP 23 (ea23 v).1 (ea23 v).2 = some (er23 y) := fun v y h => fun_of T23_ok (by kernel_rfl) L23_ok rd23_ok (b23 v) ((f23_eq v.1 v.2.1 v.2.2).symm.trans h)
theorem s23 : Snd IP 23 (g23 f23) := g23_ok f23 c23

-- l9_1: loop 1 of function 9
abbrev TT9_1 : Type := Int × List AV × Int × Int × List AV × Int × Int × Int × List AV × List AV × Int × Int × Int
def h9_1_0 (v : Int × List AV × Int × Int × List AV × Int × Int × Int × List AV × List AV × Int × Int × Int) : St := ⟨[(1000901, .junk), (1, .ref 0 0 0), (6, .ref 1 0 0), (7, .int .i64 v.1), (42, .view 3 v.2.1), (43, .int .i64 v.2.2.1), (44, .int .i64 v.2.2.2.1), (49, .view 3 v.2.2.2.2.1), (50, .int .i64 v.2.2.2.2.2.1), (51, .int .i64 v.2.2.2.2.2.2.1)], [(0, .box [.int .i64 v.2.2.2.2.2.2.2.1, .view 3 v.2.2.2.2.2.2.2.2.1, .view 3 v.2.2.2.2.2.2.2.2.2.1] false), (1, .box [.int .i64 v.2.2.2.2.2.2.2.2.2.2.1, .int .i64 v.2.2.2.2.2.2.2.2.2.2.2.1, .int .i64 v.2.2.2.2.2.2.2.2.2.2.2.2] false)], 2, 0⟩
def h9_1 : TT9_1 → St := (fun v => h9_1_0 v)
def d9_1 : St → Option TT9_1 := sDec ⟨[(1000901, .junk), (1, .ref 0 0 0), (6, .ref 1 0 0), (7, .int .i64), (42, .view 3), (43, .int .i64), (44, .int .i64), (49, .view 3), (50, .int .i64), (51, .int .i64)], [(0, .box [.int .i64, .view 3, .view 3] false), (1, .box [.int .i64, .int .i64, .int .i64] false)], 2, 0⟩ (fun ls => eatI ls fun x0 ls => eatL ls fun x1 ls => eatI ls fun x2 ls => eatI ls fun x3 ls => eatL ls fun x4 ls => eatI ls fun x5 ls => eatI ls fun x6 ls => eatI ls fun x7 ls => eatL ls fun x8 ls => eatL ls fun x9 ls => eatI ls fun x10 ls => eatI ls fun x11 ls => eatI ls fun x12 ls => eat0 ls (x0, x1, x2, x3, x4, x5, x6, x7, x8, x9, x10, x11, x12)) (sNo)
theorem d9_1_ok : ∀ s v, d9_1 s = some v → s = h9_1 v := sDec_ok (by
  intro ls v h0
  obtain ⟨x0, ls0, rfl, h1⟩ := eatI_some h0
  obtain ⟨x1, ls1, rfl, h2⟩ := eatL_some h1
  obtain ⟨x2, ls2, rfl, h3⟩ := eatI_some h2
  obtain ⟨x3, ls3, rfl, h4⟩ := eatI_some h3
  obtain ⟨x4, ls4, rfl, h5⟩ := eatL_some h4
  obtain ⟨x5, ls5, rfl, h6⟩ := eatI_some h5
  obtain ⟨x6, ls6, rfl, h7⟩ := eatI_some h6
  obtain ⟨x7, ls7, rfl, h8⟩ := eatI_some h7
  obtain ⟨x8, ls8, rfl, h9⟩ := eatL_some h8
  obtain ⟨x9, ls9, rfl, h10⟩ := eatL_some h9
  obtain ⟨x10, ls10, rfl, h11⟩ := eatI_some h10
  obtain ⟨x11, ls11, rfl, h12⟩ := eatI_some h11
  obtain ⟨x12, ls12, rfl, h13⟩ := eatI_some h12
  obtain ⟨rfl, rfl⟩ := eat0_some h13
  rfl
) (sNo_ok)
theorem n9_1_0 (v : Int × List AV × Int × Int × List AV × Int × Int × Int × List AV × List AV × Int × Int × Int) : norm (hk (loopAt F9 1).1) (h9_1_0 v) = some (h9_1_0 v) := by kernel_rfl
noncomputable def x9_1_0 (x0 : Int) (x1 : List AV) (x2 : Int) (x3 : Int) (x4 : List AV) (x5 : Int) (x6 : Int) (x7 : Int) (x8 : List AV) (x9 : List AV) (x10 : Int) (x11 : Int) (x12 : Int) : X × St := (X.exit 3,
  { tm := [(1, AV.ref 0 0 0), (6, AV.ref 1 0 0), (7, AV.int IntKind.i64 x0), (42, AV.view 3 x1), (43, AV.int IntKind.i64 x2), (44, AV.int IntKind.i64 x3)],
    hp := [(0, Blk.box [AV.int IntKind.i64 x7, AV.view 3 x8, AV.view 3 x9] false), (1, Blk.box [AV.int IntKind.i64 x10, AV.int IntKind.i64 x11, AV.int IntKind.i64 x12] false)],
    nx := 2, k := 0 })
noncomputable def x9_1 : Nat → TT9_1 → X × St := fun j w => match j with
  | 0 => x9_1_0 w.1 w.2.1 w.2.2.1 w.2.2.2.1 w.2.2.2.2.1 w.2.2.2.2.2.1 w.2.2.2.2.2.2.1 w.2.2.2.2.2.2.2.1 w.2.2.2.2.2.2.2.2.1 w.2.2.2.2.2.2.2.2.2.1 w.2.2.2.2.2.2.2.2.2.2.1 w.2.2.2.2.2.2.2.2.2.2.2.1 w.2.2.2.2.2.2.2.2.2.2.2.2
  | _ => (.ret, ⟨[], [], 0, 0⟩)
theorem e9_1 : ∀ j v, outB (x9_1 j v).1 = true := fun j v => match j with
  | 0 => rfl
  | _ + 1 => rfl
noncomputable def st9_1_0 (x0 : Int) (x1 : List AV) (x2 : Int) (x3 : Int) (x4 : List AV) (x5 : Int) (x6 : Int) (x7 : Int) (x8 : List AV) (x9 : List AV) (x10 : Int) (x11 : Int) (x12 : Int) : DT (Rd TT9_1) :=
 .br (decide (x6 < x5))
  (.br (okAt [CS.int IntKind.i64, CS.int IntKind.i64, CS.str] x4 x6)
   (.br (intOf (cellAt x4 x6 0) == x10)
    (.at (.next ((IntKind.i64.wrap (x0 + if IntKind.i64.wrap (0 - intOf (cellAt x4 x6 1)) > 0 then IntKind.i64.wrap (0 - intOf (cellAt x4 x6 1)) else 0), x1, x2, x3, x4, x5, IntKind.i64.wrap (x6 + 1), x7, x8, x9, x10, x11, x12))))
    (.at (.next ((x0, x1, x2, x3, x4, x5, IntKind.i64.wrap (x6 + 1), x7, x8, x9, x10, x11, x12)))))
   (.no))
  (.at (.done 0))
noncomputable def st9_1 : TT9_1 → DT (Rd TT9_1) := (fun v => st9_1_0 v.1 v.2.1 v.2.2.1 v.2.2.2.1 v.2.2.2.2.1 v.2.2.2.2.2.1 v.2.2.2.2.2.2.1 v.2.2.2.2.2.2.2.1 v.2.2.2.2.2.2.2.2.1 v.2.2.2.2.2.2.2.2.2.1 v.2.2.2.2.2.2.2.2.2.2.1 v.2.2.2.2.2.2.2.2.2.2.2.1 v.2.2.2.2.2.2.2.2.2.2.2.2)
noncomputable def T9_1 : Tab := [(34, cloneE 3 24), (35, cloneE 3 32)]
theorem T9_1_ok : TabOk IP (T9_1) := ⟨sp34, sp35, trivial⟩
noncomputable def L9_1 : LTab := []
theorem L9_1_ok : LOk IP (L9_1) (loops (loopAt F9 1).2) := LOk_of (l := []) (by kernel_rfl) trivial
theorem b9_1_0 (v : Int × List AV × Int × Int × List AV × Int × Int × Int × List AV × List AV × Int × Int × Int) : execK (R := Rx TT9_1) IP (callT (T9_1)) (loopT (L9_1)) (loopAt F9 1).2 (h9_1_0 v) (endK (loopAt F9 1).1 d9_1) = (cvD (fun j => x9_1 j v) (st9_1_0 v.1 v.2.1 v.2.2.1 v.2.2.2.1 v.2.2.2.2.1 v.2.2.2.2.2.1 v.2.2.2.2.2.2.1 v.2.2.2.2.2.2.2.1 v.2.2.2.2.2.2.2.2.1 v.2.2.2.2.2.2.2.2.2.1 v.2.2.2.2.2.2.2.2.2.2.1 v.2.2.2.2.2.2.2.2.2.2.2.1 v.2.2.2.2.2.2.2.2.2.2.2.2)).ev := by kernel_rfl
noncomputable def l9_1 (v : TT9_1) : Option (Nat × TT9_1) := lock (iterO (fun v => (st9_1 v).ev) v)
theorem l9_1_eq (v : TT9_1) : l9_1 v = iterO (fun v => (st9_1 v).ev) v := lock_eq _
noncomputable def ll9_1 : LEnt := lEnt d9_1 (l9_1) (x9_1) 1
theorem t9_1 : Go.Eng.Told IP (loopAt F9 1).1 (loopAt F9 1).2 (ll9_1) := loop_of (st := st9_1) (T9_1_ok) (L9_1_ok) d9_1_ok (fun v => n9_1_0 v) (e9_1) (fun v => b9_1_0 v) (l9_1_eq)

end Go.Proofs.H53

/- Functions over plain data. Printed by a program of mine. -/
import Derived.Test.YtninmnbkbhfnmaaD23_1
import Derived.KernelRfl
set_option linter.unusedVariables false
set_option linter.unusedSimpArgs false
set_option linter.unnecessarySimpa false
namespace Go.Proofs.H23
open Go Go.Eng
set_option maxRecDepth 100000

-- l11_0: loop 0 of function 11
abbrev TT11_0 : Type := List AV × Int
def h11_0_0 (v : List AV × Int) : St := ⟨[(1001100, .junk), (0, .view 7 v.1), (3, .int .i64 v.2)], [], 0, 0⟩
def h11_0 : TT11_0 → St := (fun v => h11_0_0 v)
def d11_0 : St → Option TT11_0 := sDec ⟨[(1001100, .junk), (0, .view 7), (3, .int .i64)], [], 0, 0⟩ (fun ls => eatL ls fun x0 ls => eatI ls fun x1 ls => eat0 ls (x0, x1)) (sNo)
theorem d11_0_ok : ∀ s v, d11_0 s = some v → s = h11_0 v := sDec_ok (by
  intro ls v h0
  obtain ⟨x0, ls0, rfl, h1⟩ := eatL_some h0
  obtain ⟨x1, ls1, rfl, h2⟩ := eatI_some h1
  obtain ⟨rfl, rfl⟩ := eat0_some h2
  rfl
) (sNo_ok)
theorem n11_0_0 (v : List AV × Int) : norm (loopAt F11 0).1 (h11_0_0 v) = some (h11_0_0 v) := by kernel_rfl
noncomputable def x11_0_0 (x0 : List AV) (x1 : Int) : X × St := (X.ret,
  {
    tm :=
      [(2, AV.int IntKind.i64 1),
        (18,
          AV.bool
            !gv
                (f27 (intOf (cellAt x0 x1 0)) (intOf (cellAt x0 x1 1)) (intOf (cellAt x0 x1 2)) (intOf (cellAt x0 x1 3)) (intOf (cellAt x0 x1 4)) (intOf (cellAt x0 x1 5))
                  (strOf (cellAt x0 x1 6)))),
        (17,
          AV.bool
            (gv
              (f27 (intOf (cellAt x0 x1 0)) (intOf (cellAt x0 x1 1)) (intOf (cellAt x0 x1 2)) (intOf (cellAt x0 x1 3)) (intOf (cellAt x0 x1 4)) (intOf (cellAt x0 x1 5))
                (strOf (cellAt x0 x1 6))))),
        (16,
          AV.agg
            [AV.int IntKind.i64 (intOf (cellAt x0 x1 0)), AV.int IntKind.i64 (intOf (cellAt x0 x1 1)), AV.int IntKind.i64 (intOf (cellAt x0 x1 2)),
              AV.int IntKind.i64 (intOf (cellAt x0 x1 3)), AV.int IntKind.i64 (intOf (cellAt x0 x1 4)), AV.int IntKind.i64 (intOf (cellAt x0 x1 5)),
              AV.str (strOf (cellAt x0 x1 6))]),
        (15,
          AV.ptr
            [AV.int IntKind.i64 (intOf (cellAt x0 x1 0)), AV.int IntKind.i64 (intOf (cellAt x0 x1 1)), AV.int IntKind.i64 (intOf (cellAt x0 x1 2)),
              AV.int IntKind.i64 (intOf (cellAt x0 x1 3)), AV.int IntKind.i64 (intOf (cellAt x0 x1 4)), AV.int IntKind.i64 (intOf (cellAt x0 x1 5)),
              AV.str (strOf (cellAt x0 x1 6))]),
        (14, AV.int IntKind.i64 x1), (13, AV.view 7 x0), (10, AV.bool (decide (x1 < (↑x0.length : Int)))), (9, AV.int IntKind.i64 (↑x0.length : Int)), (8, AV.view 7 x0),
        (7, AV.int IntKind.i64 x1), (1001100, AV.junk), (0, AV.view 7 x0), (3, AV.int IntKind.i64 x1)],
    hp := [], nx := 176, k := 0 })
noncomputable def x11_0_1 (x0 : List AV) (x1 : Int) : X × St := (X.ret,
  {
    tm :=
      [(2, AV.int IntKind.i64 4), (25, AV.bool !gv (f28 (strOf (cellAt x0 x1 6)))), (24, AV.bool (gv (f28 (strOf (cellAt x0 x1 6))))), (23, AV.str (strOf (cellAt x0 x1 6))),
        (22, AV.ptr [AV.str (strOf (cellAt x0 x1 6))]),
        (21,
          AV.ptr
            [AV.int IntKind.i64 (intOf (cellAt x0 x1 0)), AV.int IntKind.i64 (intOf (cellAt x0 x1 1)), AV.int IntKind.i64 (intOf (cellAt x0 x1 2)),
              AV.int IntKind.i64 (intOf (cellAt x0 x1 3)), AV.int IntKind.i64 (intOf (cellAt x0 x1 4)), AV.int IntKind.i64 (intOf (cellAt x0 x1 5)),
              AV.str (strOf (cellAt x0 x1 6))]),
        (20, AV.int IntKind.i64 x1), (19, AV.view 7 x0),
        (18,
          AV.bool
            !gv
                (f27 (intOf (cellAt x0 x1 0)) (intOf (cellAt x0 x1 1)) (intOf (cellAt x0 x1 2)) (intOf (cellAt x0 x1 3)) (intOf (cellAt x0 x1 4)) (intOf (cellAt x0 x1 5))
                  (strOf (cellAt x0 x1 6)))),
        (17,
          AV.bool
            (gv
              (f27 (intOf (cellAt x0 x1 0)) (intOf (cellAt x0 x1 1)) (intOf (cellAt x0 x1 2)) (intOf (cellAt x0 x1 3)) (intOf (cellAt x0 x1 4)) (intOf (cellAt x0 x1 5))
                (strOf (cellAt x0 x1 6))))),
        (16,
          AV.agg
            [AV.int IntKind.i64 (intOf (cellAt x0 x1 0)), AV.int IntKind.i64 (intOf (cellAt x0 x1 1)), AV.int IntKind.i64 (intOf (cellAt x0 x1 2)),
              AV.int IntKind.i64 (intOf (cellAt x0 x1 3)), AV.int IntKind.i64 (intOf (cellAt x0 x1 4)), AV.int IntKind.i64 (intOf (cellAt x0 x1 5)),
              AV.str (strOf (cellAt x0 x1 6))]),
        (15,
          AV.ptr
            [AV.int IntKind.i64 (intOf (cellAt x0 x1 0)), AV.int IntKind.i64 (intOf (cellAt x0 x1 1)), AV.int IntKind.i64 (intOf (cellAt x0 x1 2)),
              AV.int IntKind.i64 (intOf (cellAt x0 x1 3)), AV.int IntKind.i64 (intOf (cellAt x0 x1 4)), AV.int IntKind.i64 (intOf (cellAt x0 x1 5)),
              AV.str (strOf (cellAt x0 x1 6))]),
        (14, AV.int IntKind.i64 x1), (13, AV.view 7 x0), (10, AV.bool (decide (x1 < (↑x0.length : Int)))), (9, AV.int IntKind.i64 (↑x0.length : Int)), (8, AV.view 7 x0),
        (7, AV.int IntKind.i64 x1), (1001100, AV.junk), (0, AV.view 7 x0), (3, AV.int IntKind.i64 x1)],
    hp := [], nx := 288, k := 0 })
noncomputable def x11_0_2 (x0 : List AV) (x1 : Int) : X × St := (X.ret,
  {
    tm :=
      [(2, AV.int IntKind.i64 10), (41, AV.bool (decide (intOf (cellAt x0 x1 0) ≤ intOf (cellAt x0 (IntKind.i64.wrap (x1 - 1)) 0)))),
        (40, AV.bool (decide (intOf (cellAt x0 x1 0) ≤ intOf (cellAt x0 (IntKind.i64.wrap (x1 - 1)) 0)))),
        (39, AV.int IntKind.i64 (intOf (cellAt x0 (IntKind.i64.wrap (x1 - 1)) 0))),
        (38,
          AV.ptr
            [AV.int IntKind.i64 (intOf (cellAt x0 (IntKind.i64.wrap (x1 - 1)) 0)), AV.int IntKind.i64 (intOf (cellAt x0 (IntKind.i64.wrap (x1 - 1)) 1)),
              AV.int IntKind.i64 (intOf (cellAt x0 (IntKind.i64.wrap (x1 - 1)) 2)), AV.int IntKind.i64 (intOf (cellAt x0 (IntKind.i64.wrap (x1 - 1)) 3)),
              AV.int IntKind.i64 (intOf (cellAt x0 (IntKind.i64.wrap (x1 - 1)) 4)), AV.int IntKind.i64 (intOf (cellAt x0 (IntKind.i64.wrap (x1 - 1)) 5)),
              AV.str (strOf (cellAt x0 (IntKind.i64.wrap (x1 - 1)) 6))]),
        (37,
          AV.ptr
            [AV.int IntKind.i64 (intOf (cellAt x0 (IntKind.i64.wrap (x1 - 1)) 0)), AV.int IntKind.i64 (intOf (cellAt x0 (IntKind.i64.wrap (x1 - 1)) 1)),
              AV.int IntKind.i64 (intOf (cellAt x0 (IntKind.i64.wrap (x1 - 1)) 2)), AV.int IntKind.i64 (intOf (cellAt x0 (IntKind.i64.wrap (x1 - 1)) 3)),
              AV.int IntKind.i64 (intOf (cellAt x0 (IntKind.i64.wrap (x1 - 1)) 4)), AV.int IntKind.i64 (intOf (cellAt x0 (IntKind.i64.wrap (x1 - 1)) 5)),
              AV.str (strOf (cellAt x0 (IntKind.i64.wrap (x1 - 1)) 6))]),
        (36, AV.int IntKind.i64 (IntKind.i64.wrap (x1 - 1))), (35, AV.int IntKind.i64 x1), (34, AV.view 7 x0), (33, AV.int IntKind.i64 (intOf (cellAt x0 x1 0))),
        (32,
          AV.ptr
            [AV.int IntKind.i64 (intOf (cellAt x0 x1 0)), AV.int IntKind.i64 (intOf (cellAt x0 x1 1)), AV.int IntKind.i64 (intOf (cellAt x0 x1 2)),
              AV.int IntKind.i64 (intOf (cellAt x0 x1 3)), AV.int IntKind.i64 (intOf (cellAt x0 x1 4)), AV.int IntKind.i64 (intOf (cellAt x0 x1 5)),
              AV.str (strOf (cellAt x0 x1 6))]),
        (31,
          AV.ptr
            [AV.int IntKind.i64 (intOf (cellAt x0 x1 0)), AV.int IntKind.i64 (intOf (cellAt x0 x1 1)), AV.int IntKind.i64 (intOf (cellAt x0 x1 2)),
              AV.int IntKind.i64 (intOf (cellAt x0 x1 3)), AV.int IntKind.i64 (intOf (cellAt x0 x1 4)), AV.int IntKind.i64 (intOf (cellAt x0 x1 5)),
              AV.str (strOf (cellAt x0 x1 6))]),
        (30, AV.int IntKind.i64 x1), (29, AV.view 7 x0), (28, AV.bool true), (27, AV.bool (decide (x1 > 0))), (26, AV.int IntKind.i64 x1),
        (25, AV.bool !gv (f28 (strOf (cellAt x0 x1 6)))), (24, AV.bool (gv (f28 (strOf (cellAt x0 x1 6))))), (23, AV.str (strOf (cellAt x0 x1 6))),
        (22, AV.ptr [AV.str (strOf (cellAt x0 x1 6))]),
        (21,
          AV.ptr
            [AV.int IntKind.i64 (intOf (cellAt x0 x1 0)), AV.int IntKind.i64 (intOf (cellAt x0 x1 1)), AV.int IntKind.i64 (intOf (cellAt x0 x1 2)),
              AV.int IntKind.i64 (intOf (cellAt x0 x1 3)), AV.int IntKind.i64 (intOf (cellAt x0 x1 4)), AV.int IntKind.i64 (intOf (cellAt x0 x1 5)),
              AV.str (strOf (cellAt x0 x1 6))]),
        (20, AV.int IntKind.i64 x1), (19, AV.view 7 x0),
        (18,
          AV.bool
            !gv
                (f27 (intOf (cellAt x0 x1 0)) (intOf (cellAt x0 x1 1)) (intOf (cellAt x0 x1 2)) (intOf (cellAt x0 x1 3)) (intOf (cellAt x0 x1 4)) (intOf (cellAt x0 x1 5))
                  (strOf (cellAt x0 x1 6)))),
        (17,
          AV.bool
            (gv
              (f27 (intOf (cellAt x0 x1 0)) (intOf (cellAt x0 x1 1)) (intOf (cellAt x0 x1 2)) (intOf (cellAt x0 x1 3)) (intOf (cellAt x0 x1 4)) (intOf (cellAt x0 x1 5))
                (strOf (cellAt x0 x1 6))))),
        (16,
          AV.agg
            [AV.int IntKind.i64 (intOf (cellAt x0 x1 0)), AV.int IntKind.i64 (intOf (cellAt x0 x1 1)), AV.int IntKind.i64 (intOf (cellAt x0 x1 2)),
              AV.int IntKind.i64 (intOf (cellAt x0 x1 3)), AV.int IntKind.i64 (intOf (cellAt x0 x1 4)), AV.int IntKind.i64 (intOf (cellAt x0 x1 5)),
              AV.str (strOf (cellAt x0 x1 6))]),
        (15,
          AV.ptr
            [AV.int IntKind.i64 (intOf (cellAt x0 x1 0)), AV.int IntKind.i64 (intOf (cellAt x0 x1 1)), AV.int IntKind.i64 (intOf (cellAt x0 x1 2)),
              AV.int IntKind.i64 (intOf (cellAt x0 x1 3)), AV.int IntKind.i64 (intOf (cellAt x0 x1 4)), AV.int IntKind.i64 (intOf (cellAt x0 x1 5)),
              AV.str (strOf (cellAt x0 x1 6))]),
        (14, AV.int IntKind.i64 x1), (13, AV.view 7 x0), (10, AV.bool (decide (x1 < (↑x0.length : Int)))), (9, AV.int IntKind.i64 (↑x0.length : Int)), (8, AV.view 7 x0),
        (7, AV.int IntKind.i64 x1), (1001100, AV.junk), (0, AV.view 7 x0), (3, AV.int IntKind.i64 x1)],
    hp := [], nx := 544, k := 0 })
noncomputable def x11_0_3 (x0 : List AV) (x1 : Int) : X × St := (X.exit 0,
  {
    tm :=
      [(10, AV.bool (decide (x1 < (↑x0.length : Int)))), (9, AV.int IntKind.i64 (↑x0.length : Int)), (8, AV.view 7 x0), (7, AV.int IntKind.i64 x1), (1001100, AV.junk),
        (0, AV.view 7 x0), (3, AV.int IntKind.i64 x1)],
    hp := [], nx := 64, k := 0 })
noncomputable def x11_0 : Nat → TT11_0 → X × St := fun j w => match j with
  | 0 => x11_0_0 w.1 w.2
  | 1 => x11_0_1 w.1 w.2
  | 2 => x11_0_2 w.1 w.2
  | 3 => x11_0_3 w.1 w.2
  | _ => (.ret, ⟨[], [], 0, 0⟩)
theorem e11_0 : ∀ j v, outB (x11_0 j v).1 = true := fun j v => match j with
  | 0 => rfl
  | 1 => rfl
  | 2 => rfl
  | 3 => rfl
  | _ + 4 => rfl
noncomputable def st11_0_0 (x0 : List AV) (x1 : Int) : DT (Rd TT11_0) :=
 .br (decide (x1 < (↑x0.length : Int)))
  (.br (okAt [CS.int IntKind.i64, CS.int IntKind.i64, CS.int IntKind.i64, CS.int IntKind.i64, CS.int IntKind.i64, CS.int IntKind.i64, CS.str] x0 x1)
   (.bi (f27 (intOf (cellAt x0 x1 0)) (intOf (cellAt x0 x1 1)) (intOf (cellAt x0 x1 2)) (intOf (cellAt x0 x1 3)) (intOf (cellAt x0 x1 4)) (intOf (cellAt x0 x1 5)) (strOf (cellAt x0 x1 6))) (fun y0 =>
    .br (!y0)
     (.at (.done 0))
     (.br (okAt [CS.int IntKind.i64, CS.int IntKind.i64, CS.int IntKind.i64, CS.int IntKind.i64, CS.int IntKind.i64, CS.int IntKind.i64, CS.str] x0 x1)
      (.bi (f28 (strOf (cellAt x0 x1 6))) (fun y1 =>
       .br (!y1)
        (.at (.done 1))
        (.br (decide (x1 > 0))
         (.br (okAt [CS.int IntKind.i64, CS.int IntKind.i64, CS.int IntKind.i64, CS.int IntKind.i64, CS.int IntKind.i64, CS.int IntKind.i64, CS.str] x0 x1)
          (.br (okAt [CS.int IntKind.i64, CS.int IntKind.i64, CS.int IntKind.i64, CS.int IntKind.i64, CS.int IntKind.i64, CS.int IntKind.i64, CS.str] x0 (IntKind.i64.wrap (x1 - 1)))
           (.br (decide (intOf (cellAt x0 x1 0) ≤ intOf (cellAt x0 (IntKind.i64.wrap (x1 - 1)) 0))) (.at (.done 2)) (.at (.next ((x0, IntKind.i64.wrap (x1 + 1))))))
           (.no))
          (.no))
         (.at (.next ((x0, IntKind.i64.wrap (x1 + 1)))))))
       (.no))
      (.no)))
    (.no))
   (.no))
  (.at (.done 3))
noncomputable def st11_0 : TT11_0 → DT (Rd TT11_0) := (fun v => st11_0_0 v.1 v.2)
noncomputable def T11_0 : Tab := [(29, cloneE 7 64), (27, g27 f27), (28, g28 f28)]
theorem T11_0_ok : TabOk IP (T11_0) := ⟨sp29, s27, s28, trivial⟩
noncomputable def L11_0 : LTab := []
theorem L11_0_ok : LOk IP (L11_0) (loops (loopAt F11 0).2) := LOk_of (l := []) (by kernel_rfl) trivial
theorem b11_0_0 (v : List AV × Int) : execK (R := Rx TT11_0) IP (callT (T11_0)) (loopT (L11_0)) (loopAt F11 0).2 (h11_0_0 v) (endK (loopAt F11 0).1 d11_0) = (cvD (fun j => x11_0 j v) (st11_0_0 v.1 v.2)).ev := by kernel_rfl
noncomputable def l11_0 (v : TT11_0) : Option (Nat × TT11_0) := lock (iterO (fun v => (st11_0 v).ev) v)
theorem l11_0_eq (v : TT11_0) : l11_0 v = iterO (fun v => (st11_0 v).ev) v := lock_eq _
noncomputable def ll11_0 : LEnt := lEnt d11_0 (l11_0) (x11_0) 4
theorem t11_0 : Go.Eng.Told IP (loopAt F11 0).1 (loopAt F11 0).2 (ll11_0) := loop_of (st := st11_0) (T11_0_ok) (L11_0_ok) d11_0_ok (fun v => n11_0_0 v) (e11_0) (fun v => b11_0_0 v) (l11_0_eq)

-- f11: R.Check
abbrev A11 : Type := List AV
abbrev B11 : Type := Int
def pa11 : PArgs := ⟨[.view 7], []⟩
def to11 (ls : List Lf) : Option A11 := eatL ls fun x0 ls => eat0 ls x0
def ea11 (v : A11) : List AV × Heap := ([.view 7 v], [])
def er11_0 (v : Int) : Res × Heap := (.ret (.int .i64 v), [])
def er11 : B11 → Res × Heap := er11_0
def en11 : Option B11 → List (Bool × Res × Heap) := (E1 er11_0)
def rd11 : Res → Heap → Option B11 := rDec ⟨false, .int .i64, []⟩ (fun ls => eatI ls fun x0 ls => eat0 ls x0) (rNo)
theorem to11_ok : ∀ ls v, to11 ls = some v → fArgs pa11 ls = ea11 v := by
  intro ls v h0
  unfold to11 at h0
  obtain ⟨x0, ls0, rfl, h1⟩ := eatL_some h0
  obtain ⟨rfl, rfl⟩ := eat0_some h1
  rfl
theorem rd11_ok : ∀ r h y, rd11 r h = some y → (r, h) = er11 y := rDec_ok (by
  intro ls v h0
  obtain ⟨x0, ls0, rfl, h1⟩ := eatI_some h0
  obtain ⟨rfl, rfl⟩ := eat0_some h1
  rfl
) (rNo_ok)
noncomputable def g11 (G : (List AV) → Option B11) : Ent := fEnt pa11 to11 (fun v => G v) en11
theorem g11_ok (G : (List AV) → Option B11) (hG : ∀ v y, G v = some y → callO IP 11 (ea11 v).1 (ea11 v).2 = some (er11 y)) : Snd IP 11 (g11 G) := fEnt_ok to11_ok E1_ok hG
noncomputable def tr11 (x0 : List AV) : DT B11 :=
 .br (decide ((↑x0.length : Int) > 64))
  (.at (5))
  (.bi (pj 0 (l11_0 (x0, 0))) (fun y0 =>
   .at (1))
   (.bi (pj 1 (l11_0 (x0, 0))) (fun y0 =>
    .at (4))
    (.bi (pj 2 (l11_0 (x0, 0))) (fun y0 =>
     .at (10))
     (.bi (pj 3 (l11_0 (x0, 0))) (fun y0 =>
      .at (0))
      (.no)))))
noncomputable def T11 : Tab := [(29, cloneE 7 64)]
theorem T11_ok : TabOk IP (T11) := ⟨sp29, trivial⟩
noncomputable def L11 : LTab := [(1001100, ll11_0)]
theorem L11_ok : LOk IP (L11) (loops F11.body) := LOk_of (l := [loopAt F11 0]) (by kernel_rfl) ⟨sel_one (by kernel_rfl) t11_0, trivial⟩
theorem b11 (v : A11) : bodyK (R := B11) IP (callT (T11)) (loopT (L11)) 11 F11 (ea11 v).1 (ea11 v).2 rd11 = (tr11 v).ev := by kernel_rfl
/-- R.Check -/
noncomputable def f11 (x0 : List AV) : Option B11 := lock (tr11 x0).ev
theorem f11_eq (x0 : List AV) : f11 x0 = (tr11 x0).ev := lock_eq _
theorem c11 : ∀ v y, f11 v = some y → callO IP 11 (ea11 v).1 (ea11 v).2 = some (er11 y) := fun v y h => fun_of T11_ok (by kernel_rfl) L11_ok rd11_ok (b11 v) ((f11_eq v).symm.trans h)
theorem s11 : Snd IP 11 (g11 f11) := g11_ok f11 c11

-- f12: 
abbrev A12 : Type := Unit
abbrev B12 : Type := Bool
def pa12 : PArgs := ⟨[], []⟩
def to12 (ls : List Lf) : Option A12 := eat0 ls ()
def ea12 (v : A12) : List AV × Heap := ([], [])
def er12_0 (v : Bool) : Res × Heap := (.ret (.bool v), [])
def er12 : B12 → Res × Heap := er12_0
def en12 : Option B12 → List (Bool × Res × Heap) := (E1 er12_0)
def rd12 : Res → Heap → Option B12 := rDec ⟨false, .bool, []⟩ (fun ls => eatB ls fun x0 ls => eat0 ls x0) (rNo)
theorem to12_ok : ∀ ls v, to12 ls = some v → fArgs pa12 ls = ea12 v := by
  intro ls v h0
  unfold to12 at h0
  obtain ⟨rfl, rfl⟩ := eat0_some h0
  rfl
theorem rd12_ok : ∀ r h y, rd12 r h = some y → (r, h) = er12 y := rDec_ok (by
  intro ls v h0
  obtain ⟨x0, ls0, rfl, h1⟩ := eatB_some h0
  obtain ⟨rfl, rfl⟩ := eat0_some h1
  rfl
) (rNo_ok)
noncomputable def g12 (G : Option B12) : Ent := fEnt pa12 to12 (fun v => G) en12
theorem g12_ok (G : Option B12) (hG : ∀ v y, G = some y → callO IP 12 (ea12 v).1 (ea12 v).2 = some (er12 y)) : Snd IP 12 (g12 G) := fEnt_ok to12_ok E1_ok hG
noncomputable def tr12 : DT B12 :=
 .at (true)
/--  -/
noncomputable def f12 : Option B12 := lock (tr12).ev
theorem f12_eq : f12 = (tr12).ev := lock_eq _
theorem c12 : ∀ v y, f12 = some y → callO IP 12 (ea12 v).1 (ea12 v).2 = some (er12 y) := by
  intro v y h
  cases (f12_eq).symm.trans h
  exact callO_iff.2 ⟨60, by kernel_rfl⟩
theorem s12 : Snd IP 12 (g12 f12) := g12_ok f12 c12

-- f3: BlockingChecks
abbrev A3 : Type := List AV
abbrev B3 : Type := Bool
def pa3 : PArgs := ⟨[.view 7], []⟩
def to3 (ls : List Lf) : Option A3 := eatL ls fun x0 ls => eat0 ls x0
def ea3 (v : A3) : List AV × Heap := ([.view 7 v], [])
def er3_0 (v : Bool) : Res × Heap := (.ret (.bool v), [])
def er3 : B3 → Res × Heap := er3_0
def en3 : Option B3 → List (Bool × Res × Heap) := (E1 er3_0)
def rd3 : Res → Heap → Option B3 := rDec ⟨false, .bool, []⟩ (fun ls => eatB ls fun x0 ls => eat0 ls x0) (rNo)
theorem to3_ok : ∀ ls v, to3 ls = some v → fArgs pa3 ls = ea3 v := by
  intro ls v h0
  unfold to3 at h0
  obtain ⟨x0, ls0, rfl, h1⟩ := eatL_some h0
  obtain ⟨rfl, rfl⟩ := eat0_some h1
  rfl
theorem rd3_ok : ∀ r h y, rd3 r h = some y → (r, h) = er3 y := rDec_ok (by
  intro ls v h0
  obtain ⟨x0, ls0, rfl, h1⟩ := eatB_some h0
  obtain ⟨rfl, rfl⟩ := eat0_some h1
  rfl
) (rNo_ok)
noncomputable def g3 (G : (List AV) → Option B3) : Ent := fEnt pa3 to3 (fun v => G v) en3
theorem g3_ok (G : (List AV) → Option B3) (hG : ∀ v y, G v = some y → callO IP 3 (ea3 v).1 (ea3 v).2 = some (er3 y)) : Snd IP 3 (g3 G) := fEnt_ok to3_ok E1_ok hG
noncomputable def tr3 (x0 : List AV) : DT B3 :=
 .bi (br (decide ((↑x0.length : Int) > 100)) (some true) (br (sm (f9 x0)) (some !gv (f9 x0)) none)) (fun y0 =>
  .bi (br y0 (some true) (br (sm (f10 x0)) (br (sm (f11 x0)) (some (gv (f10 x0) == gv (f11 x0))) none) none)) (fun y1 =>
   .bi (br y1 (br (sm f12) (some (gv f12)) none) (some false)) (fun y2 =>
    .at (y2))
    (.no))
   (.no))
  (.no)
noncomputable def T3 : Tab := [(29, cloneE 7 64), (9, g9 f9), (10, g10 f10), (11, g11 f11), (12, g12 f12)]
theorem T3_ok : TabOk IP (T3) := ⟨sp29, s9, s10, s11, s12, trivial⟩
noncomputable def L3 : LTab := []
theorem L3_ok : LOk IP (L3) (loops F3.body) := LOk_of (l := []) (by kernel_rfl) trivial
theorem b3 (v : A3) : bodyK (R := B3) IP (callT (T3)) (loopT (L3)) 3 F3 (ea3 v).1 (ea3 v).2 rd3 = (tr3 v).ev := by kernel_rfl
/-- BlockingChecks -/
noncomputable def f3 (x0 : List AV) : Option B3 := lock (tr3 x0).ev
theorem f3_eq (x0 : List AV) : f3 x0 = (tr3 x0).ev := lock_eq _
theorem c3 : ∀ v y, f3 v = some y → callO IP 3 (ea3 v).1 (ea3 v).2 = some (er3 y) := fun v y h => fun_of T3_ok (by kernel_rfl) L3_ok rd3_ok (b3 v) ((f3_eq v).symm.trans h)
theorem s3 : Snd IP 3 (g3 f3) := g3_ok f3 c3

-- f13: 
abbrev A13 : Type := List AV × Int × Int × Int × Int × Int × Int × List UInt8
abbrev B13 : Type := List AV × Int
def pa13 : PArgs := ⟨[.view 7, .agg [.int .i64, .int .i64, .int .i64, .int .i64, .int .i64, .int .i64, .str]], []⟩
def to13 (ls : List Lf) : Option A13 := eatL ls fun x0 ls => eatI ls fun x1 ls => eatI ls fun x2 ls => eatI ls fun x3 ls => eatI ls fun x4 ls => eatI ls fun x5 ls => eatI ls fun x6 ls => eatS ls fun x7 ls => eat0 ls (x0, x1, x2, x3, x4, x5, x6, x7)
def ea13 (v : A13) : List AV × Heap := ([.view 7 v.1, .agg [.int .i64 v.2.1, .int .i64 v.2.2.1, .int .i64 v.2.2.2.1, .int .i64 v.2.2.2.2.1, .int .i64 v.2.2.2.2.2.1, .int .i64 v.2.2.2.2.2.2.1, .str v.2.2.2.2.2.2.2]], [])
def er13_0 (v : List AV × Int) : Res × Heap := (.ret (.tup [.view 7 v.1, .int .i64 v.2]), [])
def er13 : B13 → Res × Heap := er13_0
def en13 : Option B13 → List (Bool × Res × Heap) := (E1 er13_0)
def rd13 : Res → Heap → Option B13 := rDec ⟨false, .tup [.view 7, .int .i64], []⟩ (fun ls => eatL ls fun x0 ls => eatI ls fun x1 ls => eat0 ls (x0, x1)) (rNo)
theorem to13_ok : ∀ ls v, to13 ls = some v → fArgs pa13 ls = ea13 v := by
  intro ls v h0
  unfold to13 at h0
  obtain ⟨x0, ls0, rfl, h1⟩ := eatL_some h0
  obtain ⟨x1, ls1, rfl, h2⟩ := eatI_some h1
  obtain ⟨x2, ls2, rfl, h3⟩ := eatI_some h2
  obtain ⟨x3, ls3, rfl, h4⟩ := eatI_some h3
  obtain ⟨x4, ls4, rfl, h5⟩ := eatI_some h4
  obtain ⟨x5, ls5, rfl, h6⟩ := eatI_some h5
  obtain ⟨x6, ls6, rfl, h7⟩ := eatI_some h6
  obtain ⟨x7, ls7, rfl, h8⟩ := eatS_some h7
  obtain ⟨rfl, rfl⟩ := eat0_some h8
  rfl
theorem rd13_ok : ∀ r h y, rd13 r h = some y → (r, h) = er13 y := rDec_ok (by
  intro ls v h0
  obtain ⟨x0, ls0, rfl, h1⟩ := eatL_some h0
  obtain ⟨x1, ls1, rfl, h2⟩ := eatI_some h1
  obtain ⟨rfl, rfl⟩ := eat0_some h2
  rfl
) (rNo_ok)
noncomputable def g13 (G : (List AV) → Int → Int → Int → Int → Int → Int → (List UInt8) → Option B13) : Ent := fEnt pa13 to13 (fun v => G v.1 v.2.1 v.2.2.1 v.2.2.2.1 v.2.2.2.2.1 v.2.2.2.2.2.1 v.2.2.2.2.2.2.1 v.2.2.2.2.2.2.2) en13
theorem g13_ok (G : (List AV) → Int → Int → Int → Int → Int → Int → (List UInt8) → Option B13) (hG : ∀ v y, G v.1 v.2.1 v.2.2.1 v.2.2.2.1 v.2.2.2.2.1 v.2.2.2.2.2.1 v.2.2.2.2.2.2.1 v.2.2.2.2.2.2.2 = some y → callO IP 13 (ea13 v).1 (ea13 v).2 = some (er13 y)) : Snd IP 13 (g13 G) := fEnt_ok to13_ok E1_ok hG
noncomputable def tr13 (x0 : List AV) (x1 : Int) (x2 : Int) (x3 : Int) (x4 : Int) (x5 : Int) (x6 : Int) (x7 : List UInt8) : DT B13 :=
 .bi (f10 x0) (fun y0 =>
  .br (y0 != 0)
   (.at (([], 1)))
   (.bi (br (sm (f10 [AV.agg [AV.int IntKind.i64 x1, AV.int IntKind.i64 x2, AV.int IntKind.i64 x3, AV.int IntKind.i64 x4, AV.int IntKind.i64 x5, AV.int IntKind.i64 x6, AV.str x7]]))
       (some
         (gv (f10 [AV.agg [AV.int IntKind.i64 x1, AV.int IntKind.i64 x2, AV.int IntKind.i64 x3, AV.int IntKind.i64 x4, AV.int IntKind.i64 x5, AV.int IntKind.i64 x6, AV.str x7]]) != 0))
       none) (fun y1 =>
    .br (y1)
     (.at (([], 1)))
     (.br (decide ((↑x0.length : Int) > 0))
      (.br (okAt [CS.int IntKind.i64, CS.int IntKind.i64, CS.int IntKind.i64, CS.int IntKind.i64, CS.int IntKind.i64, CS.int IntKind.i64, CS.str] x0 (IntKind.i64.wrap ((↑x0.length : Int) - 1)))
       (.br (decide (x1 ≤ intOf (cellAt x0 (IntKind.i64.wrap ((↑x0.length : Int) - 1)) 0)))
        (.at (([], 10)))
        (.br ((↑x0.length : Int) == 64)
         (.at (([], 5)))
         (.br (decide (x0.length = 0))
          (.at (([AV.agg [AV.int IntKind.i64 x1, AV.int IntKind.i64 x2, AV.int IntKind.i64 x3, AV.int IntKind.i64 x4, AV.int IntKind.i64 x5, AV.int IntKind.i64 x6, AV.str x7]], 0)))
          (.br (decide (x0.length ≠ 0) && decide (x0.length * 64 ≤ lim))
           (.br (room (x0.length + 1) 64)
            (.at ((x0 ++ [AV.agg [AV.int IntKind.i64 x1, AV.int IntKind.i64 x2, AV.int IntKind.i64 x3, AV.int IntKind.i64 x4, AV.int IntKind.i64 x5, AV.int IntKind.i64 x6, AV.str x7]], 0)))
            (.no))
           (.no)))))
       (.no))
      (.br ((↑x0.length : Int) == 64)
       (.at (([], 5)))
       (.br (decide (x0.length = 0))
        (.at (([AV.agg [AV.int IntKind.i64 x1, AV.int IntKind.i64 x2, AV.int IntKind.i64 x3, AV.int IntKind.i64 x4, AV.int IntKind.i64 x5, AV.int IntKind.i64 x6, AV.str x7]], 0)))
        (.br (decide (x0.length ≠ 0) && decide (x0.length * 64 ≤ lim))
         (.br (room (x0.length + 1) 64)
          (.at ((x0 ++ [AV.agg [AV.int IntKind.i64 x1, AV.int IntKind.i64 x2, AV.int IntKind.i64 x3, AV.int IntKind.i64 x4, AV.int IntKind.i64 x5, AV.int IntKind.i64 x6, AV.str x7]], 0)))
          (.no))
         (.no))))))
    (.no)))
  (.no)
noncomputable def T13 : Tab := [(29, cloneE 7 64), (10, g10 f10)]
theorem T13_ok : TabOk IP (T13) := ⟨sp29, s10, trivial⟩
noncomputable def L13 : LTab := []
theorem L13_ok : LOk IP (L13) (loops F13.body) := LOk_of (l := []) (by kernel_rfl) trivial
theorem b13 (v : A13) : bodyK (R := B13) IP (callT (T13)) (loopT (L13)) 13 F13 (ea13 v).1 (ea13 v).2 rd13 = (tr13 v.1 v.2.1 v.2.2.1 v.2.2.2.1 v.2.2.2.2.1 v.2.2.2.2.2.1 v.2.2.2.2.2.2.1 v.2.2.2.2.2.2.2).ev := by kernel_rfl
/--  -/
noncomputable def f13 (x0 : List AV) (x1 : Int) (x2 : Int) (x3 : Int) (x4 : Int) (x5 : Int) (x6 : Int) (x7 : List UInt8) : Option B13 := lock (tr13 x0 x1 x2 x3 x4 x5 x6 x7).ev
theorem f13_eq (x0 : List AV) (x1 : Int) (x2 : Int) (x3 : Int) (x4 : Int) (x5 : Int) (x6 : Int) (x7 : List UInt8) : f13 x0 x1 x2 x3 x4 x5 x6 x7 = (tr13 x0 x1 x2 x3 x4 x5 x6 x7).ev := lock_eq _
theorem c13 : ∀ v y, f13 v.1 v.2.1 v.2.2.1 v.2.2.2.1 v.2.2.2.2.1 v.2.2.2.2.2.1 v.2.2.2.2.2.2.1 v.2.2.2.2.2.2.2 = some y → callO IP 13 (ea13 v).1 (ea13 v).2 = some (er13 y) := fun v y h => fun_of T13_ok (by kernel_rfl) L13_ok rd13_ok (b13 v) ((f13_eq v.1 v.2.1 v.2.2.1 v.2.2.2.1 v.2.2.2.2.1 v.2.2.2.2.2.1 v.2.2.2.2.2.2.1 v.2.2.2.2.2.2.2).symm.trans h)
theorem s13 : Snd IP 13 (g13 f13) := g13_ok f13 c13

-- f14: 
abbrev A14 : Type := List AV × Int × Int × Int × Int × Int × Int × List UInt8
abbrev B14 : Type := List AV × Int
def pa14 : PArgs := ⟨[.view 7, .agg [.int .i64, .int .i64, .int .i64, .int .i64, .int .i64, .int .i64, .str]], []⟩
def to14 (ls : List Lf) : Option A14 := eatL ls fun x0 ls => eatI ls fun x1 ls => eatI ls fun x2 ls => eatI ls fun x3 ls => eatI ls fun x4 ls => eatI ls fun x5 ls => eatI ls fun x6 ls => eatS ls fun x7 ls => eat0 ls (x0, x1, x2, x3, x4, x5, x6, x7)
def ea14 (v : A14) : List AV × Heap := ([.view 7 v.1, .agg [.int .i64 v.2.1, .int .i64 v.2.2.1, .int .i64 v.2.2.2.1, .int .i64 v.2.2.2.2.1, .int .i64 v.2.2.2.2.2.1, .int .i64 v.2.2.2.2.2.2.1, .str v.2.2.2.2.2.2.2]], [])
def er14_0 (v : List AV × Int) : Res × Heap := (.ret (.tup [.view 7 v.1, .int .i64 v.2]), [])
def er14 : B14 → Res × Heap := er14_0
def en14 : Option B14 → List (Bool × Res × Heap) := (E1 er14_0)
def rd14 : Res → Heap → Option B14 := rDec ⟨false, .tup [.view 7, .int .i64], []⟩ (fun ls => eatL ls fun x0 ls => eatI ls fun x1 ls => eat0 ls (x0, x1)) (rNo)
theorem to14_ok : ∀ ls v, to14 ls = some v → fArgs pa14 ls = ea14 v := by
  intro ls v h0
  unfold to14 at h0
  obtain ⟨x0, ls0, rfl, h1⟩ := eatL_some h0
  obtain ⟨x1, ls1, rfl, h2⟩ := eatI_some h1
  obtain ⟨x2, ls2, rfl, h3⟩ := eatI_some h2
  obtain ⟨x3, ls3, rfl, h4⟩ := eatI_some h3
  obtain ⟨x4, ls4, rfl, h5⟩ := eatI_some h4
  obtain ⟨x5, ls5, rfl, h6⟩ := eatI_some h5
  obtain ⟨x6, ls6, rfl, h7⟩ := eatI_some h6
  obtain ⟨x7, ls7, rfl, h8⟩ := eatS_some h7
  obtain ⟨rfl, rfl⟩ := eat0_some h8
  rfl
theorem rd14_ok : ∀ r h y, rd14 r h = some y → (r, h) = er14 y := rDec_ok (by
  intro ls v h0
  obtain ⟨x0, ls0, rfl, h1⟩ := eatL_some h0
  obtain ⟨x1, ls1, rfl, h2⟩ := eatI_some h1
  obtain ⟨rfl, rfl⟩ := eat0_some h2
  rfl
) (rNo_ok)
noncomputable def g14 (G : (List AV) → Int → Int → Int → Int → Int → Int → (List UInt8) → Option B14) : Ent := fEnt pa14 to14 (fun v => G v.1 v.2.1 v.2.2.1 v.2.2.2.1 v.2.2.2.2.1 v.2.2.2.2.2.1 v.2.2.2.2.2.2.1 v.2.2.2.2.2.2.2) en14
theorem g14_ok (G : (List AV) → Int → Int → Int → Int → Int → Int → (List UInt8) → Option B14) (hG : ∀ v y, G v.1 v.2.1 v.2.2.1 v.2.2.2.1 v.2.2.2.2.1 v.2.2.2.2.2.1 v.2.2.2.2.2.2.1 v.2.2.2.2.2.2.2 = some y → callO IP 14 (ea14 v).1 (ea14 v).2 = some (er14 y)) : Snd IP 14 (g14 G) := fEnt_ok to14_ok E1_ok hG
noncomputable def tr14 (x0 : List AV) (x1 : Int) (x2 : Int) (x3 : Int) (x4 : Int) (x5 : Int) (x6 : Int) (x7 : List UInt8) : DT B14 :=
 .bi (f11 x0) (fun y0 =>
  .br (y0 != 0)
   (.at (([], 1)))
   (.bi (br (sm (f11 [AV.agg [AV.int IntKind.i64 x1, AV.int IntKind.i64 x2, AV.int IntKind.i64 x3, AV.int IntKind.i64 x4, AV.int IntKind.i64 x5, AV.int IntKind.i64 x6, AV.str x7]]))
       (some
         (gv (f11 [AV.agg [AV.int IntKind.i64 x1, AV.int IntKind.i64 x2, AV.int IntKind.i64 x3, AV.int IntKind.i64 x4, AV.int IntKind.i64 x5, AV.int IntKind.i64 x6, AV.str x7]]) != 0))
       none) (fun y1 =>
    .br (y1)
     (.at (([], 1)))
     (.br (decide ((↑x0.length : Int) > 0))
      (.br (okAt [CS.int IntKind.i64, CS.int IntKind.i64, CS.int IntKind.i64, CS.int IntKind.i64, CS.int IntKind.i64, CS.int IntKind.i64, CS.str] x0 (IntKind.i64.wrap ((↑x0.length : Int) - 1)))
       (.br (decide (x1 ≤ intOf (cellAt x0 (IntKind.i64.wrap ((↑x0.length : Int) - 1)) 0)))
        (.at (([], 10)))
        (.br (decide ((↑x0.length : Int) ≥ 64))
         (.at (([], 5)))
         (.br (decide (x0.length = 0) && decide (7 = 7))
          (.at (([AV.agg [AV.int IntKind.i64 x1, AV.int IntKind.i64 x2, AV.int IntKind.i64 x3, AV.int IntKind.i64 x4, AV.int IntKind.i64 x5, AV.int IntKind.i64 x6, AV.str x7]], 0)))
          (.br (decide (x0.length ≠ 0) && room x0.length 64)
           (.br (room (x0.length + 1) 64)
            (.at ((x0 ++ [AV.agg [AV.int IntKind.i64 x1, AV.int IntKind.i64 x2, AV.int IntKind.i64 x3, AV.int IntKind.i64 x4, AV.int IntKind.i64 x5, AV.int IntKind.i64 x6, AV.str x7]], 0)))
            (.no))
           (.no)))))
       (.no))
      (.br (decide ((↑x0.length : Int) ≥ 64))
       (.at (([], 5)))
       (.br (decide (x0.length = 0) && decide (7 = 7))
        (.at (([AV.agg [AV.int IntKind.i64 x1, AV.int IntKind.i64 x2, AV.int IntKind.i64 x3, AV.int IntKind.i64 x4, AV.int IntKind.i64 x5, AV.int IntKind.i64 x6, AV.str x7]], 0)))
        (.br (decide (x0.length ≠ 0) && room x0.length 64)
         (.br (room (x0.length + 1) 64)
          (.at ((x0 ++ [AV.agg [AV.int IntKind.i64 x1, AV.int IntKind.i64 x2, AV.int IntKind.i64 x3, AV.int IntKind.i64 x4, AV.int IntKind.i64 x5, AV.int IntKind.i64 x6, AV.str x7]], 0)))
          (.no))
         (.no))))))
    (.no)))
  (.no)
noncomputable def T14 : Tab := [(29, cloneE 7 64), (11, g11 f11)]
theorem T14_ok : TabOk IP (T14) := ⟨sp29, s11, trivial⟩
noncomputable def L14 : LTab := []
theorem L14_ok : LOk IP (L14) (loops F14.body) := LOk_of (l := []) (by kernel_rfl) trivial
theorem b14 (v : A14) : bodyK (R := B14) IP (callT (T14)) (loopT (L14)) 14 F14 (ea14 v).1 (ea14 v).2 rd14 = (tr14 v.1 v.2.1 v.2.2.1 v.2.2.2.1 v.2.2.2.2.1 v.2.2.2.2.2.1 v.2.2.2.2.2.2.1 v.2.2.2.2.2.2.2).ev := by kernel_rfl
/--  -/
noncomputable def f14 (x0 : List AV) (x1 : Int) (x2 : Int) (x3 : Int) (x4 : Int) (x5 : Int) (x6 : Int) (x7 : List UInt8) : Option B14 := lock (tr14 x0 x1 x2 x3 x4 x5 x6 x7).ev
theorem f14_eq (x0 : List AV) (x1 : Int) (x2 : Int) (x3 : Int) (x4 : Int) (x5 : Int) (x6 : Int) (x7 : List UInt8) : f14 x0 x1 x2 x3 x4 x5 x6 x7 = (tr14 x0 x1 x2 x3 x4 x5 x6 x7).ev := lock_eq _
theorem c14 : ∀ v y, f14 v.1 v.2.1 v.2.2.1 v.2.2.2.1 v.2.2.2.2.1 v.2.2.2.2.2.1 v.2.2.2.2.2.2.1 v.2.2.2.2.2.2.2 = some y → callO IP 14 (ea14 v).1 (ea14 v).2 = some (er14 y) := fun v y h => fun_of T14_ok (by kernel_rfl) L14_ok rd14_ok (b14 v) ((f14_eq v.1 v.2.1 v.2.2.1 v.2.2.2.1 v.2.2.2.2.1 v.2.2.2.2.2.1 v.2.2.2.2.2.2.1 v.2.2.2.2.2.2.2).symm.trans h)
theorem s14 : Snd IP 14 (g14 f14) := g14_ok f14 c14

-- l15_0: loop 0 of function 15
abbrev TT15_0 : Type := List AV × List AV × Int
def h15_0_0 (v : List AV × List AV × Int) : St := ⟨[(1001500, .junk), (0, .view 7 v.1), (1, .view 7 v.2.1), (5, .int .i64 v.2.2)], [], 0, 0⟩
def h15_0 : TT15_0 → St := (fun v => h15_0_0 v)
def d15_0 : St → Option TT15_0 := sDec ⟨[(1001500, .junk), (0, .view 7), (1, .view 7), (5, .int .i64)], [], 0, 0⟩ (fun ls => eatL ls fun x0 ls => eatL ls fun x1 ls => eatI ls fun x2 ls => eat0 ls (x0, x1, x2)) (sNo)
theorem d15_0_ok : ∀ s v, d15_0 s = some v → s = h15_0 v := sDec_ok (by
  intro ls v h0
  obtain ⟨x0, ls0, rfl, h1⟩ := eatL_some h0
  obtain ⟨x1, ls1, rfl, h2⟩ := eatL_some h1
  obtain ⟨x2, ls2, rfl, h3⟩ := eatI_some h2
  obtain ⟨rfl, rfl⟩ := eat0_some h3
  rfl
) (sNo_ok)
theorem n15_0_0 (v : List AV × List AV × Int) : norm (loopAt F15 0).1 (h15_0_0 v) = some (h15_0_0 v) := by kernel_rfl
noncomputable def x15_0_0 (x0 : List AV) (x1 : List AV) (x2 : Int) : X × St := (X.ret,
  {
    tm :=
      [(4, AV.bool false),
        (25,
          AV.bool
            (if true = true then
              !(intOf (cellAt x0 x2 0) == intOf (cellAt x1 x2 0) &&
                  (intOf (cellAt x0 x2 1) == intOf (cellAt x1 x2 1) &&
                    (intOf (cellAt x0 x2 2) == intOf (cellAt x1 x2 2) &&
                      (intOf (cellAt x0 x2 3) == intOf (cellAt x1 x2 3) &&
                        (intOf (cellAt x0 x2 4) == intOf (cellAt x1 x2 4) &&
                          (intOf (cellAt x0 x2 5) == intOf (cellAt x1 x2 5) && (strOf (cellAt x0 x2 6) == strOf (cellAt x1 x2 6) && true)))))))
            else
              intOf (cellAt x0 x2 0) == intOf (cellAt x1 x2 0) &&
                (intOf (cellAt x0 x2 1) == intOf (cellAt x1 x2 1) &&
                  (intOf (cellAt x0 x2 2) == intOf (cellAt x1 x2 2) &&
                    (intOf (cellAt x0 x2 3) == intOf (cellAt x1 x2 3) &&
                      (intOf (cellAt x0 x2 4) == intOf (cellAt x1 x2 4) &&
                        (intOf (cellAt x0 x2 5) == intOf (cellAt x1 x2 5) && (strOf (cellAt x0 x2 6) == strOf (cellAt x1 x2 6) && true)))))))),
        (24,
          AV.agg
            [AV.int IntKind.i64 (intOf (cellAt x1 x2 0)), AV.int IntKind.i64 (intOf (cellAt x1 x2 1)), AV.int IntKind.i64 (intOf (cellAt x1 x2 2)),
              AV.int IntKind.i64 (intOf (cellAt x1 x2 3)), AV.int IntKind.i64 (intOf (cellAt x1 x2 4)), AV.int IntKind.i64 (intOf (cellAt x1 x2 5)),
              AV.str (strOf (cellAt x1 x2 6))]),
        (23,
          AV.ptr
            [AV.int IntKind.i64 (intOf (cellAt x1 x2 0)), AV.int IntKind.i64 (intOf (cellAt x1 x2 1)), AV.int IntKind.i64 (intOf (cellAt x1 x2 2)),
              AV.int IntKind.i64 (intOf (cellAt x1 x2 3)), AV.int IntKind.i64 (intOf (cellAt x1 x2 4)), AV.int IntKind.i64 (intOf (cellAt x1 x2 5)),
              AV.str (strOf (cellAt x1 x2 6))]),
        (22, AV.int IntKind.i64 x2), (21, AV.view 7 x1),
        (20,
          AV.agg
            [AV.int IntKind.i64 (intOf (cellAt x0 x2 0)), AV.int IntKind.i64 (intOf (cellAt x0 x2 1)), AV.int IntKind.i64 (intOf (cellAt x0 x2 2)),
              AV.int IntKind.i64 (intOf (cellAt x0 x2 3)), AV.int IntKind.i64 (intOf (cellAt x0 x2 4)), AV.int IntKind.i64 (intOf (cellAt x0 x2 5)),
              AV.str (strOf (cellAt x0 x2 6))]),
        (19,
          AV.ptr
            [AV.int IntKind.i64 (intOf (cellAt x0 x2 0)), AV.int IntKind.i64 (intOf (cellAt x0 x2 1)), AV.int IntKind.i64 (intOf (cellAt x0 x2 2)),
              AV.int IntKind.i64 (intOf (cellAt x0 x2 3)), AV.int IntKind.i64 (intOf (cellAt x0 x2 4)), AV.int IntKind.i64 (intOf (cellAt x0 x2 5)),
              AV.str (strOf (cellAt x0 x2 6))]),
        (18, AV.int IntKind.i64 x2), (17, AV.view 7 x0), (14, AV.bool (decide (x2 < (↑x0.length : Int)))), (13, AV.int IntKind.i64 (↑x0.length : Int)), (12, AV.view 7 x0),
        (11, AV.int IntKind.i64 x2), (1001500, AV.junk), (0, AV.view 7 x0), (1, AV.view 7 x1), (5, AV.int IntKind.i64 x2)],
    hp := [], nx := 224, k := 0 })
noncomputable def x15_0_1 (x0 : List AV) (x1 : List AV) (x2 : Int) : X × St := (X.exit 0,
  {
    tm :=
      [(14, AV.bool (decide (x2 < (↑x0.length : Int)))), (13, AV.int IntKind.i64 (↑x0.length : Int)), (12, AV.view 7 x0), (11, AV.int IntKind.i64 x2), (1001500, AV.junk),
        (0, AV.view 7 x0), (1, AV.view 7 x1), (5, AV.int IntKind.i64 x2)],
    hp := [], nx := 64, k := 0 })
noncomputable def x15_0 : Nat → TT15_0 → X × St := fun j w => match j with
  | 0 => x15_0_0 w.1 w.2.1 w.2.2
  | 1 => x15_0_1 w.1 w.2.1 w.2.2
  | _ => (.ret, ⟨[], [], 0, 0⟩)
theorem e15_0 : ∀ j v, outB (x15_0 j v).1 = true := fun j v => match j with
  | 0 => rfl
  | 1 => rfl
  | _ + 2 => rfl
noncomputable def st15_0_0 (x0 : List AV) (x1 : List AV) (x2 : Int) : DT (Rd TT15_0) :=
 .br (decide (x2 < (↑x0.length : Int)))
  (.br (okAt [CS.int IntKind.i64, CS.int IntKind.i64, CS.int IntKind.i64, CS.int IntKind.i64, CS.int IntKind.i64, CS.int IntKind.i64, CS.str] x0 x2)
   (.br (okAt [CS.int IntKind.i64, CS.int IntKind.i64, CS.int IntKind.i64, CS.int IntKind.i64, CS.int IntKind.i64, CS.int IntKind.i64, CS.str] x1 x2)
    (.br (if true = true then
        !(intOf (cellAt x0 x2 0) == intOf (cellAt x1 x2 0) &&
            (intOf (cellAt x0 x2 1) == intOf (cellAt x1 x2 1) &&
              (intOf (cellAt x0 x2 2) == intOf (cellAt x1 x2 2) &&
                (intOf (cellAt x0 x2 3) == intOf (cellAt x1 x2 3) &&
                  (intOf (cellAt x0 x2 4) == intOf (cellAt x1 x2 4) &&
                    (intOf (cellAt x0 x2 5) == intOf (cellAt x1 x2 5) && (strOf (cellAt x0 x2 6) == strOf (cellAt x1 x2 6) && true)))))))
      else
        intOf (cellAt x0 x2 0) == intOf (cellAt x1 x2 0) &&
          (intOf (cellAt x0 x2 1) == intOf (cellAt x1 x2 1) &&
            (intOf (cellAt x0 x2 2) == intOf (cellAt x1 x2 2) &&
              (intOf (cellAt x0 x2 3) == intOf (cellAt x1 x2 3) &&
                (intOf (cellAt x0 x2 4) == intOf (cellAt x1 x2 4) && (intOf (cellAt x0 x2 5) == intOf (cellAt x1 x2 5) && (strOf (cellAt x0 x2 6) == strOf (cellAt x1 x2 6) && true)))))))
     (.at (.done 0))
     (.at (.next ((x0, x1, IntKind.i64.wrap (x2 + 1))))))
    (.no))
   (.no))
  (.at (.done 1))
noncomputable def st15_0 : TT15_0 → DT (Rd TT15_0) := (fun v => st15_0_0 v.1 v.2.1 v.2.2)
noncomputable def T15_0 : Tab := [(29, cloneE 7 64)]
theorem T15_0_ok : TabOk IP (T15_0) := ⟨sp29, trivial⟩
noncomputable def L15_0 : LTab := []
theorem L15_0_ok : LOk IP (L15_0) (loops (loopAt F15 0).2) := LOk_of (l := []) (by kernel_rfl) trivial
theorem b15_0_0 (v : List AV × List AV × Int) : execK (R := Rx TT15_0) IP (callT (T15_0)) (loopT (L15_0)) (loopAt F15 0).2 (h15_0_0 v) (endK (loopAt F15 0).1 d15_0) = (cvD (fun j => x15_0 j v) (st15_0_0 v.1 v.2.1 v.2.2)).ev := by kernel_rfl
noncomputable def l15_0 (v : TT15_0) : Option (Nat × TT15_0) := lock (iterO (fun v => (st15_0 v).ev) v)
theorem l15_0_eq (v : TT15_0) : l15_0 v = iterO (fun v => (st15_0 v).ev) v := lock_eq _
noncomputable def ll15_0 : LEnt := lEnt d15_0 (l15_0) (x15_0) 2
theorem t15_0 : Go.Eng.Told IP (loopAt F15 0).1 (loopAt F15 0).2 (ll15_0) := loop_of (st := st15_0) (T15_0_ok) (L15_0_ok) d15_0_ok (fun v => n15_0_0 v) (e15_0) (fun v => b15_0_0 v) (l15_0_eq)

-- f15: 
abbrev A15 : Type := List AV × List AV
abbrev B15 : Type := Bool
def pa15 : PArgs := ⟨[.view 7, .view 7], []⟩
def to15 (ls : List Lf) : Option A15 := eatL ls fun x0 ls => eatL ls fun x1 ls => eat0 ls (x0, x1)
def ea15 (v : A15) : List AV × Heap := ([.view 7 v.1, .view 7 v.2], [])
def er15_0 (v : Bool) : Res × Heap := (.ret (.bool v), [])
def er15 : B15 → Res × Heap := er15_0
def en15 : Option B15 → List (Bool × Res × Heap) := (E1 er15_0)
def rd15 : Res → Heap → Option B15 := rDec ⟨false, .bool, []⟩ (fun ls => eatB ls fun x0 ls => eat0 ls x0) (rNo)
theorem to15_ok : ∀ ls v, to15 ls = some v → fArgs pa15 ls = ea15 v := by
  intro ls v h0
  unfold to15 at h0
  obtain ⟨x0, ls0, rfl, h1⟩ := eatL_some h0
  obtain ⟨x1, ls1, rfl, h2⟩ := eatL_some h1
  obtain ⟨rfl, rfl⟩ := eat0_some h2
  rfl
theorem rd15_ok : ∀ r h y, rd15 r h = some y → (r, h) = er15 y := rDec_ok (by
  intro ls v h0
  obtain ⟨x0, ls0, rfl, h1⟩ := eatB_some h0
  obtain ⟨rfl, rfl⟩ := eat0_some h1
  rfl
) (rNo_ok)
noncomputable def g15 (G : (List AV) → (List AV) → Option B15) : Ent := fEnt pa15 to15 (fun v => G v.1 v.2) en15
theorem g15_ok (G : (List AV) → (List AV) → Option B15) (hG : ∀ v y, G v.1 v.2 = some y → callO IP 15 (ea15 v).1 (ea15 v).2 = some (er15 y)) : Snd IP 15 (g15 G) := fEnt_ok to15_ok E1_ok hG
noncomputable def tr15 (x0 : List AV) (x1 : List AV) : DT B15 :=
 .br ((↑x0.length : Int) != (↑x1.length : Int))
  (.at (false))
  (.bi (pj 0 (l15_0 (x0, x1, 0))) (fun y0 =>
   .at (false))
   (.bi (pj 1 (l15_0 (x0, x1, 0))) (fun y0 =>
    .at (true))
    (.no)))
noncomputable def T15 : Tab := [(29, cloneE 7 64)]
theorem T15_ok : TabOk IP (T15) := ⟨sp29, trivial⟩
noncomputable def L15 : LTab := [(1001500, ll15_0)]
theorem L15_ok : LOk IP (L15) (loops F15.body) := LOk_of (l := [loopAt F15 0]) (by kernel_rfl) ⟨sel_one (by kernel_rfl) t15_0, trivial⟩
theorem b15 (v : A15) : bodyK (R := B15) IP (callT (T15)) (loopT (L15)) 15 F15 (ea15 v).1 (ea15 v).2 rd15 = (tr15 v.1 v.2).ev := by kernel_rfl
/--  -/
noncomputable def f15 (x0 : List AV) (x1 : List AV) : Option B15 := lock (tr15 x0 x1).ev
theorem f15_eq (x0 : List AV) (x1 : List AV) : f15 x0 x1 = (tr15 x0 x1).ev := lock_eq _
theorem c15 : ∀ v y, f15 v.1 v.2 = some y → callO IP 15 (ea15 v).1 (ea15 v).2 = some (er15 y) := fun v y h => fun_of T15_ok (by kernel_rfl) L15_ok rd15_ok (b15 v) ((f15_eq v.1 v.2).symm.trans h)
theorem s15 : Snd IP 15 (g15 f15) := g15_ok f15 c15

-- f4: BlockingPlaces
abbrev A4 : Type := List AV × Int × Int × Int × Int × Int × Int × List UInt8
abbrev B4 : Type := Bool
def pa4 : PArgs := ⟨[.view 7, .agg [.int .i64, .int .i64, .int .i64, .int .i64, .int .i64, .int .i64, .str]], []⟩
def to4 (ls : List Lf) : Option A4 := eatL ls fun x0 ls => eatI ls fun x1 ls => eatI ls fun x2 ls => eatI ls fun x3 ls => eatI ls fun x4 ls => eatI ls fun x5 ls => eatI ls fun x6 ls => eatS ls fun x7 ls => eat0 ls (x0, x1, x2, x3, x4, x5, x6, x7)
def ea4 (v : A4) : List AV × Heap := ([.view 7 v.1, .agg [.int .i64 v.2.1, .int .i64 v.2.2.1, .int .i64 v.2.2.2.1, .int .i64 v.2.2.2.2.1, .int .i64 v.2.2.2.2.2.1, .int .i64 v.2.2.2.2.2.2.1, .str v.2.2.2.2.2.2.2]], [])
def er4_0 (v : Bool) : Res × Heap := (.ret (.bool v), [])
def er4 : B4 → Res × Heap := er4_0
def en4 : Option B4 → List (Bool × Res × Heap) := (E1 er4_0)
def rd4 : Res → Heap → Option B4 := rDec ⟨false, .bool, []⟩ (fun ls => eatB ls fun x0 ls => eat0 ls x0) (rNo)
theorem to4_ok : ∀ ls v, to4 ls = some v → fArgs pa4 ls = ea4 v := by
  intro ls v h0
  unfold to4 at h0
  obtain ⟨x0, ls0, rfl, h1⟩ := eatL_some h0
  obtain ⟨x1, ls1, rfl, h2⟩ := eatI_some h1
  obtain ⟨x2, ls2, rfl, h3⟩ := eatI_some h2
  obtain ⟨x3, ls3, rfl, h4⟩ := eatI_some h3
  obtain ⟨x4, ls4, rfl, h5⟩ := eatI_some h4
  obtain ⟨x5, ls5, rfl, h6⟩ := eatI_some h5
  obtain ⟨x6, ls6, rfl, h7⟩ := eatI_some h6
  obtain ⟨x7, ls7, rfl, h8⟩ := eatS_some h7
  obtain ⟨rfl, rfl⟩ := eat0_some h8
  rfl
theorem rd4_ok : ∀ r h y, rd4 r h = some y → (r, h) = er4 y := rDec_ok (by
  intro ls v h0
  obtain ⟨x0, ls0, rfl, h1⟩ := eatB_some h0
  obtain ⟨rfl, rfl⟩ := eat0_some h1
  rfl
) (rNo_ok)
noncomputable def g4 (G : (List AV) → Int → Int → Int → Int → Int → Int → (List UInt8) → Option B4) : Ent := fEnt pa4 to4 (fun v => G v.1 v.2.1 v.2.2.1 v.2.2.2.1 v.2.2.2.2.1 v.2.2.2.2.2.1 v.2.2.2.2.2.2.1 v.2.2.2.2.2.2.2) en4
theorem g4_ok (G : (List AV) → Int → Int → Int → Int → Int → Int → (List UInt8) → Option B4) (hG : ∀ v y, G v.1 v.2.1 v.2.2.1 v.2.2.2.1 v.2.2.2.2.1 v.2.2.2.2.2.1 v.2.2.2.2.2.2.1 v.2.2.2.2.2.2.2 = some y → callO IP 4 (ea4 v).1 (ea4 v).2 = some (er4 y)) : Snd IP 4 (g4 G) := fEnt_ok to4_ok E1_ok hG
noncomputable def tr4 (x0 : List AV) (x1 : Int) (x2 : Int) (x3 : Int) (x4 : Int) (x5 : Int) (x6 : Int) (x7 : List UInt8) : DT B4 :=
 .bi (br (decide ((↑x0.length : Int) > 100)) (some true) (br (sm (f9 x0)) (some !gv (f9 x0)) none)) (fun y0 =>
  .bi (br y0 (some true) (some (decide ((↑x7.length : Int) > 100)))) (fun y1 =>
   .br (y1)
    (.bi (f12) (fun y2 =>
     .at (y2))
     (.no))
    (.bi (f13 x0 x1 x2 x3 x4 x5 x6 x7) (fun y2 =>
     .bi (f14 x0 x1 x2 x3 x4 x5 x6 x7) (fun y3 =>
      .bi (f15 y2.fst y3.fst) (fun y4 =>
       .bi (br y4 (some (y2.snd == y3.snd)) (some false)) (fun y5 =>
        .bi (br y5 (br (y2.snd != 0) (some true) (br (sm (f10 y2.fst)) (some (gv (f10 y2.fst) == 0)) none)) (some false)) (fun y6 =>
         .bi (br y6 (br (sm f12) (some (gv f12)) none) (some false)) (fun y7 =>
          .at (y7))
          (.no))
         (.no))
        (.no))
       (.no))
      (.no))
     (.no)))
   (.no))
  (.no)
noncomputable def T4 : Tab := [(29, cloneE 7 64), (9, g9 f9), (12, g12 f12), (13, g13 f13), (14, g14 f14), (15, g15 f15), (10, g10 f10)]
theorem T4_ok : TabOk IP (T4) := ⟨sp29, s9, s12, s13, s14, s15, s10, trivial⟩
noncomputable def L4 : LTab := []
theorem L4_ok : LOk IP (L4) (loops F4.body) := LOk_of (l := []) (by kernel_rfl) trivial
theorem b4 (v : A4) : bodyK (R := B4) IP (callT (T4)) (loopT (L4)) 4 F4 (ea4 v).1 (ea4 v).2 rd4 = (tr4 v.1 v.2.1 v.2.2.1 v.2.2.2.1 v.2.2.2.2.1 v.2.2.2.2.2.1 v.2.2.2.2.2.2.1 v.2.2.2.2.2.2.2).ev := by kernel_rfl
/-- BlockingPlaces -/
noncomputable def f4 (x0 : List AV) (x1 : Int) (x2 : Int) (x3 : Int) (x4 : Int) (x5 : Int) (x6 : Int) (x7 : List UInt8) : Option B4 := lock (tr4 x0 x1 x2 x3 x4 x5 x6 x7).ev
theorem f4_eq (x0 : List AV) (x1 : Int) (x2 : Int) (x3 : Int) (x4 : Int) (x5 : Int) (x6 : Int) (x7 : List UInt8) : f4 x0 x1 x2 x3 x4 x5 x6 x7 = (tr4 x0 x1 x2 x3 x4 x5 x6 x7).ev := lock_eq _
theorem c4 : ∀ v y, f4 v.1 v.2.1 v.2.2.1 v.2.2.2.1 v.2.2.2.2.1 v.2.2.2.2.2.1 v.2.2.2.2.2.2.1 v.2.2.2.2.2.2.2 = some y → callO IP 4 (ea4 v).1 (ea4 v).2 = some (er4 y) := fun v y h => fun_of T4_ok (by kernel_rfl) L4_ok rd4_ok (b4 v) ((f4_eq v.1 v.2.1 v.2.2.1 v.2.2.2.1 v.2.2.2.2.1 v.2.2.2.2.2.1 v.2.2.2.2.2.2.1 v.2.2.2.2.2.2.2).symm.trans h)
theorem s4 : Snd IP 4 (g4 f4) := g4_ok f4 c4

-- f31: 
abbrev A31 : Type := Int × Int × Int × Int × Int × Int × List UInt8 × Int
abbrev B31 : Type := Bool
def pa31 : PArgs := ⟨[.agg [.int .i64, .int .i64, .int .i64, .int .i64, .int .i64, .int .i64, .str], .ptr [.int .i64]], []⟩
def to31 (ls : List Lf) : Option A31 := eatI ls fun x0 ls => eatI ls fun x1 ls => eatI ls fun x2 ls => eatI ls fun x3 ls => eatI ls fun x4 ls => eatI ls fun x5 ls => eatS ls fun x6 ls => eatI ls fun x7 ls => eat0 ls (x0, x1, x2, x3, x4, x5, x6, x7)
def ea31 (v : A31) : List AV × Heap := ([.agg [.int .i64 v.1, .int .i64 v.2.1, .int .i64 v.2.2.1, .int .i64 v.2.2.2.1, .int .i64 v.2.2.2.2.1, .int .i64 v.2.2.2.2.2.1, .str v.2.2.2.2.2.2.1], .ptr [.int .i64 v.2.2.2.2.2.2.2]], [])
def er31_0 (v : Bool) : Res × Heap := (.ret (.bool v), [])
def er31 : B31 → Res × Heap := er31_0
def en31 : Option B31 → List (Bool × Res × Heap) := (E1 er31_0)
def rd31 : Res → Heap → Option B31 := rDec ⟨false, .bool, []⟩ (fun ls => eatB ls fun x0 ls => eat0 ls x0) (rNo)
theorem to31_ok : ∀ ls v, to31 ls = some v → fArgs pa31 ls = ea31 v := by
  intro ls v h0
  unfold to31 at h0
  obtain ⟨x0, ls0, rfl, h1⟩ := eatI_some h0
  obtain ⟨x1, ls1, rfl, h2⟩ := eatI_some h1
  obtain ⟨x2, ls2, rfl, h3⟩ := eatI_some h2
  obtain ⟨x3, ls3, rfl, h4⟩ := eatI_some h3
  obtain ⟨x4, ls4, rfl, h5⟩ := eatI_some h4
  obtain ⟨x5, ls5, rfl, h6⟩ := eatI_some h5
  obtain ⟨x6, ls6, rfl, h7⟩ := eatS_some h6
  obtain ⟨x7, ls7, rfl, h8⟩ := eatI_some h7
  obtain ⟨rfl, rfl⟩ := eat0_some h8
  rfl
theorem rd31_ok : ∀ r h y, rd31 r h = some y → (r, h) = er31 y := rDec_ok (by
  intro ls v h0
  obtain ⟨x0, ls0, rfl, h1⟩ := eatB_some h0
  obtain ⟨rfl, rfl⟩ := eat0_some h1
  rfl
) (rNo_ok)
noncomputable def g31 (G : Int → Int → Int → Int → Int → Int → (List UInt8) → Int → Option B31) : Ent := fEnt pa31 to31 (fun v => G v.1 v.2.1 v.2.2.1 v.2.2.2.1 v.2.2.2.2.1 v.2.2.2.2.2.1 v.2.2.2.2.2.2.1 v.2.2.2.2.2.2.2) en31
theorem g31_ok (G : Int → Int → Int → Int → Int → Int → (List UInt8) → Int → Option B31) (hG : ∀ v y, G v.1 v.2.1 v.2.2.1 v.2.2.2.1 v.2.2.2.2.1 v.2.2.2.2.2.1 v.2.2.2.2.2.2.1 v.2.2.2.2.2.2.2 = some y → callO IP 31 (ea31 v).1 (ea31 v).2 = some (er31 y)) : Snd IP 31 (g31 G) := fEnt_ok to31_ok E1_ok hG
noncomputable def tr31 (x0 : Int) (x1 : Int) (x2 : Int) (x3 : Int) (x4 : Int) (x5 : Int) (x6 : List UInt8) (x7 : Int) : DT B31 :=
 .at (x0 == x7)
noncomputable def T31 : Tab := [(29, cloneE 7 64)]
theorem T31_ok : TabOk IP (T31) := ⟨sp29, trivial⟩
noncomputable def L31 : LTab := []
theorem L31_ok : LOk IP (L31) (loops F31.body) := LOk_of (l := []) (by kernel_rfl) trivial
theorem b31 (v : A31) : bodyK (R := B31) IP (callT (T31)) (loopT (L31)) 31 F31 (ea31 v).1 (ea31 v).2 rd31 = (tr31 v.1 v.2.1 v.2.2.1 v.2.2.2.1 v.2.2.2.2.1 v.2.2.2.2.2.1 v.2.2.2.2.2.2.1 v.2.2.2.2.2.2.2).ev := by kernel_rfl
/--  -/
noncomputable def f31 (x0 : Int) (x1 : Int) (x2 : Int) (x3 : Int) (x4 : Int) (x5 : Int) (x6 : List UInt8) (x7 : Int) : Option B31 := lock (tr31 x0 x1 x2 x3 x4 x5 x6 x7).ev
theorem f31_eq (x0 : Int) (x1 : Int) (x2 : Int) (x3 : Int) (x4 : Int) (x5 : Int) (x6 : List UInt8) (x7 : Int) : f31 x0 x1 x2 x3 x4 x5 x6 x7 = (tr31 x0 x1 x2 x3 x4 x5 x6 x7).ev := lock_eq _
theorem c31 : ∀ v y, f31 v.1 v.2.1 v.2.2.1 v.2.2.2.1 v.2.2.2.2.1 v.2.2.2.2.2.1 v.2.2.2.2.2.2.1 v.2.2.2.2.2.2.2 = some y → callO IP 31 (ea31 v).1 (ea31 v).2 = some (er31 y) := fun v y h => fun_of T31_ok (by kernel_rfl) L31_ok rd31_ok (b31 v) ((f31_eq v.1 v.2.1 v.2.2.1 v.2.2.2.1 v.2.2.2.2.1 v.2.2.2.2.2.1 v.2.2.2.2.2.2.1 v.2.2.2.2.2.2.2).symm.trans h)
theorem s31 : Snd IP 31 (g31 f31) := g31_ok f31 c31

-- l30_0: loop 0 of function 30
abbrev TT30_0 : Type := List AV × Int × Int × Int
def h30_0_0 (v : List AV × Int × Int × Int) : St := ⟨[(1003000, .junk), (0, .view 7 v.1), (1, .fn 31 [.ptr [.int .i64 v.2.1]]), (7, .int .i64 v.2.2.1), (8, .int .i64 v.2.2.2)], [], 0, 0⟩
def h30_0 : TT30_0 → St := (fun v => h30_0_0 v)
def d30_0 : St → Option TT30_0 := sDec ⟨[(1003000, .junk), (0, .view 7), (1, .fn 31 [.ptr [.int .i64]]), (7, .int .i64), (8, .int .i64)], [], 0, 0⟩ (fun ls => eatL ls fun x0 ls => eatI ls fun x1 ls => eatI ls fun x2 ls => eatI ls fun x3 ls => eat0 ls (x0, x1, x2, x3)) (sNo)
theorem d30_0_ok : ∀ s v, d30_0 s = some v → s = h30_0 v := sDec_ok (by
  intro ls v h0
  obtain ⟨x0, ls0, rfl, h1⟩ := eatL_some h0
  obtain ⟨x1, ls1, rfl, h2⟩ := eatI_some h1
  obtain ⟨x2, ls2, rfl, h3⟩ := eatI_some h2
  obtain ⟨x3, ls3, rfl, h4⟩ := eatI_some h3
  obtain ⟨rfl, rfl⟩ := eat0_some h4
  rfl
) (sNo_ok)
theorem n30_0_0 (v : List AV × Int × Int × Int) : norm (loopAt F30 0).1 (h30_0_0 v) = some (h30_0_0 v) := by kernel_rfl
noncomputable def x30_0_0 (x0 : List AV) (x1 : Int) (x2 : Int) (x3 : Int) : X × St := (X.ret,
  {
    tm :=
      [(4, AV.int IntKind.i64 x3), (17, AV.int IntKind.i64 x3),
        (16,
          AV.bool
            (gv
              (f31 (intOf (cellAt x0 x3 0)) (intOf (cellAt x0 x3 1)) (intOf (cellAt x0 x3 2)) (intOf (cellAt x0 x3 3)) (intOf (cellAt x0 x3 4)) (intOf (cellAt x0 x3 5))
                (strOf (cellAt x0 x3 6)) x1))),
        (15,
          AV.agg
            [AV.int IntKind.i64 (intOf (cellAt x0 x3 0)), AV.int IntKind.i64 (intOf (cellAt x0 x3 1)), AV.int IntKind.i64 (intOf (cellAt x0 x3 2)),
              AV.int IntKind.i64 (intOf (cellAt x0 x3 3)), AV.int IntKind.i64 (intOf (cellAt x0 x3 4)), AV.int IntKind.i64 (intOf (cellAt x0 x3 5)),
              AV.str (strOf (cellAt x0 x3 6))]),
        (14,
          AV.ptr
            [AV.int IntKind.i64 (intOf (cellAt x0 x3 0)), AV.int IntKind.i64 (intOf (cellAt x0 x3 1)), AV.int IntKind.i64 (intOf (cellAt x0 x3 2)),
              AV.int IntKind.i64 (intOf (cellAt x0 x3 3)), AV.int IntKind.i64 (intOf (cellAt x0 x3 4)), AV.int IntKind.i64 (intOf (cellAt x0 x3 5)),
              AV.str (strOf (cellAt x0 x3 6))]),
        (13, AV.int IntKind.i64 x3), (12, AV.view 7 x0), (11, AV.fn 31 [AV.ptr [AV.int IntKind.i64 x1]]), (5, AV.int IntKind.i64 x3), (10, AV.int IntKind.i64 x3),
        (9, AV.bool (decide (x3 < x2))), (1003000, AV.junk), (0, AV.view 7 x0), (1, AV.fn 31 [AV.ptr [AV.int IntKind.i64 x1]]), (7, AV.int IntKind.i64 x2),
        (8, AV.int IntKind.i64 x3)],
    hp := [], nx := 176, k := 0 })
noncomputable def x30_0_1 (x0 : List AV) (x1 : Int) (x2 : Int) (x3 : Int) : X × St := (X.exit 0,
  {
    tm :=
      [(9, AV.bool (decide (x3 < x2))), (1003000, AV.junk), (0, AV.view 7 x0), (1, AV.fn 31 [AV.ptr [AV.int IntKind.i64 x1]]), (7, AV.int IntKind.i64 x2),
        (8, AV.int IntKind.i64 x3)],
    hp := [], nx := 16, k := 0 })
noncomputable def x30_0 : Nat → TT30_0 → X × St := fun j w => match j with
  | 0 => x30_0_0 w.1 w.2.1 w.2.2.1 w.2.2.2
  | 1 => x30_0_1 w.1 w.2.1 w.2.2.1 w.2.2.2
  | _ => (.ret, ⟨[], [], 0, 0⟩)
theorem e30_0 : ∀ j v, outB (x30_0 j v).1 = true := fun j v => match j with
  | 0 => rfl
  | 1 => rfl
  | _ + 2 => rfl
noncomputable def st30_0_0 (x0 : List AV) (x1 : Int) (x2 : Int) (x3 : Int) : DT (Rd TT30_0) :=
 .br (decide (x3 < x2))
  (.br (okAt [CS.int IntKind.i64, CS.int IntKind.i64, CS.int IntKind.i64, CS.int IntKind.i64, CS.int IntKind.i64, CS.int IntKind.i64, CS.str] x0 x3)
   (.bi (f31 (intOf (cellAt x0 x3 0)) (intOf (cellAt x0 x3 1)) (intOf (cellAt x0 x3 2)) (intOf (cellAt x0 x3 3)) (intOf (cellAt x0 x3 4)) (intOf (cellAt x0 x3 5)) (strOf (cellAt x0 x3 6))
       x1) (fun y0 =>
    .br (y0) (.at (.done 0)) (.at (.next ((x0, x1, x2, IntKind.i64.wrap (x3 + 1))))))
    (.no))
   (.no))
  (.at (.done 1))
noncomputable def st30_0 : TT30_0 → DT (Rd TT30_0) := (fun v => st30_0_0 v.1 v.2.1 v.2.2.1 v.2.2.2)
noncomputable def T30_0 : Tab := [(29, cloneE 7 64), (31, g31 f31)]
theorem T30_0_ok : TabOk IP (T30_0) := ⟨sp29, s31, trivial⟩
noncomputable def L30_0 : LTab := []
theorem L30_0_ok : LOk IP (L30_0) (loops (loopAt F30 0).2) := LOk_of (l := []) (by kernel_rfl) trivial
theorem b30_0_0 (v : List AV × Int × Int × Int) : execK (R := Rx TT30_0) IP (callT (T30_0)) (loopT (L30_0)) (loopAt F30 0).2 (h30_0_0 v) (endK (loopAt F30 0).1 d30_0) = (cvD (fun j => x30_0 j v) (st30_0_0 v.1 v.2.1 v.2.2.1 v.2.2.2)).ev := by kernel_rfl
noncomputable def l30_0 (v : TT30_0) : Option (Nat × TT30_0) := lock (iterO (fun v => (st30_0 v).ev) v)
theorem l30_0_eq (v : TT30_0) : l30_0 v = iterO (fun v => (st30_0 v).ev) v := lock_eq _
noncomputable def ll30_0 : LEnt := lEnt d30_0 (l30_0) (x30_0) 2
theorem t30_0 : Go.Eng.Told IP (loopAt F30 0).1 (loopAt F30 0).2 (ll30_0) := loop_of (st := st30_0) (T30_0_ok) (L30_0_ok) d30_0_ok (fun v => n30_0_0 v) (e30_0) (fun v => b30_0_0 v) (l30_0_eq)

-- f30: 
abbrev A30 : Type := List AV × Int
abbrev B30 : Type := Int
def pa30 : PArgs := ⟨[.view 7, .fn 31 [.ptr [.int .i64]]], []⟩
def to30 (ls : List Lf) : Option A30 := eatL ls fun x0 ls => eatI ls fun x1 ls => eat0 ls (x0, x1)
def ea30 (v : A30) : List AV × Heap := ([.view 7 v.1, .fn 31 [.ptr [.int .i64 v.2]]], [])
def er30_0 (v : Int) : Res × Heap := (.ret (.int .i64 v), [])
def er30 : B30 → Res × Heap := er30_0
def en30 : Option B30 → List (Bool × Res × Heap) := (E1 er30_0)
def rd30 : Res → Heap → Option B30 := rDec ⟨false, .int .i64, []⟩ (fun ls => eatI ls fun x0 ls => eat0 ls x0) (rNo)
theorem to30_ok : ∀ ls v, to30 ls = some v → fArgs pa30 ls = ea30 v := by
  intro ls v h0
  unfold to30 at h0
  obtain ⟨x0, ls0, rfl, h1⟩ := eatL_some h0
  obtain ⟨x1, ls1, rfl, h2⟩ := eatI_some h1
  obtain ⟨rfl, rfl⟩ := eat0_some h2
  rfl
theorem rd30_ok : ∀ r h y, rd30 r h = some y → (r, h) = er30 y := rDec_ok (by
  intro ls v h0
  obtain ⟨x0, ls0, rfl, h1⟩ := eatI_some h0
  obtain ⟨rfl, rfl⟩ := eat0_some h1
  rfl
) (rNo_ok)
noncomputable def g30 (G : (List AV) → Int → Option B30) : Ent := fEnt pa30 to30 (fun v => G v.1 v.2) en30
theorem g30_ok (G : (List AV) → Int → Option B30) (hG : ∀ v y, G v.1 v.2 = some y → callO IP 30 (ea30 v).1 (ea30 v).2 = some (er30 y)) : Snd IP 30 (g30 G) := fEnt_ok to30_ok E1_ok hG
noncomputable def tr30 (x0 : List AV) (x1 : Int) : DT B30 :=
 .bi (pj 0 (l30_0 (x0, x1, (↑x0.length : Int), 0))) (fun y0 =>
  .at (y0.snd.snd.snd))
  (.bi (pj 1 (l30_0 (x0, x1, (↑x0.length : Int), 0))) (fun y0 =>
   .at (-1))
   (.no))
noncomputable def T30 : Tab := [(29, cloneE 7 64)]
theorem T30_ok : TabOk IP (T30) := ⟨sp29, trivial⟩
noncomputable def L30 : LTab := [(1003000, ll30_0)]
theorem L30_ok : LOk IP (L30) (loops F30.body) := LOk_of (l := [loopAt F30 0]) (by kernel_rfl) ⟨sel_one (by kernel_rfl) t30_0, trivial⟩
theorem b30 (v : A30) : bodyK (R := B30) IP (callT (T30)) (loopT (L30)) 30 F30 (ea30 v).1 (ea30 v).2 rd30 = (tr30 v.1 v.2).ev := by kernel_rfl
/--  -/
noncomputable def f30 (x0 : List AV) (x1 : Int) : Option B30 := lock (tr30 x0 x1).ev
theorem f30_eq (x0 : List AV) (x1 : Int) : f30 x0 x1 = (tr30 x0 x1).ev := lock_eq _
theorem c30 : ∀ v y, f30 v.1 v.2 = some y → callO IP 30 (ea30 v).1 (ea30 v).2 = some (er30 y) := fun v y h => fun_of T30_ok (by kernel_rfl) L30_ok rd30_ok (b30 v) ((f30_eq v.1 v.2).symm.trans h)
theorem s30 : Snd IP 30 (g30 f30) := g30_ok f30 c30

end Go.Proofs.H23

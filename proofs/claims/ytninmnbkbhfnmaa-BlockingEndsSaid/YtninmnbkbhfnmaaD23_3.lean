/- Functions over plain data. Printed by a program of mine. -/
import Derived.Test.YtninmnbkbhfnmaaD23_2
import Derived.KernelRfl
set_option linter.unusedVariables false
set_option linter.unusedSimpArgs false
set_option linter.unnecessarySimpa false
namespace Go.Proofs.H23
open Go Go.Eng
set_option maxRecDepth 100000

-- f33: 
abbrev A33 : Type := Int × Int × List AV
abbrev B33 : Type := (List AV) ⊕ (Nat × List AV) ⊕ (List AV)
def pa33 : PArgs := ⟨[.own 0 0, .int .i64, .int .i64], [(0, .arr 7 false)]⟩
def to33 (ls : List Lf) : Option A33 := eatI ls fun x0 ls => eatI ls fun x1 ls => eatL ls fun x2 ls => eat0 ls (x0, x1, x2)
def ea33 (v : A33) : List AV × Heap := ([.own 0 0 none, .int .i64 v.1, .int .i64 v.2.1], [(0, .arr 7 v.2.2 false)])
def er33_0 (v : List AV) : Res × Heap := (.ret (.own 0 0 none), [(0, .arr 7 v false)])
def er33_1 (v : Nat × List AV) : Res × Heap := (.ret (.own 0 0 (some v.1)), [(0, .arr 7 v.2 false)])
def er33_2 (v : List AV) : Res × Heap := (.ret (.own 1 0 none), [(1, .arr 7 v false)])
def er33 : B33 → Res × Heap := (Sum.elim er33_0 (Sum.elim er33_1 er33_2))
def en33 : Option B33 → List (Bool × Res × Heap) := (E2 er33_0 (E2 er33_1 (E1 er33_2)))
def rd33 : Res → Heap → Option B33 := rDec ⟨false, .own 0 0, [(0, .arr 7 false)]⟩ (fun ls => eatL ls fun x0 ls => eat0 ls (.inl x0)) (rDec ⟨false, .ownn 0 0, [(0, .arr 7 false)]⟩ (fun ls => eatN ls fun x0 ls => eatL ls fun x1 ls => eat0 ls (.inr (.inl (x0, x1)))) (rDec ⟨false, .own 1 0, [(1, .arr 7 false)]⟩ (fun ls => eatL ls fun x0 ls => eat0 ls (.inr (.inr x0))) (rNo)))
theorem to33_ok : ∀ ls v, to33 ls = some v → fArgs pa33 ls = ea33 v := by
  intro ls v h0
  unfold to33 at h0
  obtain ⟨x0, ls0, rfl, h1⟩ := eatI_some h0
  obtain ⟨x1, ls1, rfl, h2⟩ := eatI_some h1
  obtain ⟨x2, ls2, rfl, h3⟩ := eatL_some h2
  obtain ⟨rfl, rfl⟩ := eat0_some h3
  rfl
theorem rd33_ok : ∀ r h y, rd33 r h = some y → (r, h) = er33 y := rDec_ok (by
  intro ls v h0
  obtain ⟨x0, ls0, rfl, h1⟩ := eatL_some h0
  obtain ⟨rfl, rfl⟩ := eat0_some h1
  rfl
) (rDec_ok (by
  intro ls v h0
  obtain ⟨x0, ls0, rfl, h1⟩ := eatN_some h0
  obtain ⟨x1, ls1, rfl, h2⟩ := eatL_some h1
  obtain ⟨rfl, rfl⟩ := eat0_some h2
  rfl
) (rDec_ok (by
  intro ls v h0
  obtain ⟨x0, ls0, rfl, h1⟩ := eatL_some h0
  obtain ⟨rfl, rfl⟩ := eat0_some h1
  rfl
) (rNo_ok)))
noncomputable def g33 (G : Int → Int → (List AV) → Option B33) : Ent := fEnt pa33 to33 (fun v => G v.1 v.2.1 v.2.2) en33
theorem g33_ok (G : Int → Int → (List AV) → Option B33) (hG : ∀ v y, G v.1 v.2.1 v.2.2 = some y → callO IP 33 (ea33 v).1 (ea33 v).2 = some (er33 y)) : Snd IP 33 (g33 G) := fEnt_ok to33_ok (E2_ok (E2_ok E1_ok)) hG
noncomputable def tr33 (x0 : Int) (x1 : Int) (x2 : List AV) : DT B33 :=
 .br (decide (0 ≤ x0) && decide (x0 ≤ x1) && decide (x1 ≤ (↑x2.length : Int)) && decide ((↑x2.length : Int) ≤ (↑(x2.length - 0) : Int)))
  (.br (x0 == x1)
   (.at ((.inl (x2))))
   (.br (leB x0 x2.length && true && decide (0 + x0.toNat ≤ x2.length))
    (.br (leB x1 x2.length && true)
     (.br (decide ((dropO x2 (0 + x1.toNat)).length = 0) && decide (7 = 7))
      (.br (leB (↑x2.length : Int) x2.length && leB (↑(x0.toNat - 0) : Int) (↑x2.length : Int).toNat && decide (0 + (↑x2.length : Int).toNat ≤ x2.length))
       (.br (decide (0 + (↑(x0.toNat - 0) : Int).toNat + ((↑x2.length : Int).toNat - (↑(x0.toNat - 0) : Int).toNat) ≤ x2.length))
        (.at ((.inr (.inl (x0.toNat - 0, List.take (0 + (↑(x0.toNat - 0) : Int).toNat) x2 ++
    List.replicate ((↑x2.length : Int).toNat - (↑(x0.toNat - 0) : Int).toNat)
      (AV.agg [AV.int IntKind.i64 0, AV.int IntKind.i64 0, AV.int IntKind.i64 0, AV.int IntKind.i64 0, AV.int IntKind.i64 0, AV.int IntKind.i64 0, AV.str []]) ++
  List.drop (0 + (↑(x0.toNat - 0) : Int).toNat + ((↑x2.length : Int).toNat - (↑(x0.toNat - 0) : Int).toNat)) x2)))))
        (.no))
       (.no))
      (.br (decide ((dropO x2 (0 + x1.toNat)).length ≠ 0) && (decide (0 + (x0.toNat - 0) + (dropO x2 (0 + x1.toNat)).length ≤ x2.length) && decide (7 = 7)))
       (.br (leB (↑x2.length : Int) (List.take (0 + (x0.toNat - 0)) x2 ++ dropO x2 (0 + x1.toNat) ++ List.drop (0 + (x0.toNat - 0) + (dropO x2 (0 + x1.toNat)).length) x2).length &&
             leB (↑(x0.toNat - 0 + (dropO x2 (0 + x1.toNat)).length) : Int) (↑x2.length : Int).toNat &&
           decide
             (0 + (↑x2.length : Int).toNat ≤ (List.take (0 + (x0.toNat - 0)) x2 ++ dropO x2 (0 + x1.toNat) ++ List.drop (0 + (x0.toNat - 0) + (dropO x2 (0 + x1.toNat)).length) x2).length))
        (.br (decide
            (0 + (↑(x0.toNat - 0 + (dropO x2 (0 + x1.toNat)).length) : Int).toNat + ((↑x2.length : Int).toNat - (↑(x0.toNat - 0 + (dropO x2 (0 + x1.toNat)).length) : Int).toNat) ≤
              (List.take (0 + (x0.toNat - 0)) x2 ++ dropO x2 (0 + x1.toNat) ++ List.drop (0 + (x0.toNat - 0) + (dropO x2 (0 + x1.toNat)).length) x2).length))
         (.at ((.inr (.inl (x0.toNat - 0 + (dropO x2 (0 + x1.toNat)).length, List.take (0 + (↑(x0.toNat - 0 + (dropO x2 (0 + x1.toNat)).length) : Int).toNat)
      (List.take (0 + (x0.toNat - 0)) x2 ++ dropO x2 (0 + x1.toNat) ++ List.drop (0 + (x0.toNat - 0) + (dropO x2 (0 + x1.toNat)).length) x2) ++
    List.replicate ((↑x2.length : Int).toNat - (↑(x0.toNat - 0 + (dropO x2 (0 + x1.toNat)).length) : Int).toNat)
      (AV.agg [AV.int IntKind.i64 0, AV.int IntKind.i64 0, AV.int IntKind.i64 0, AV.int IntKind.i64 0, AV.int IntKind.i64 0, AV.int IntKind.i64 0, AV.str []]) ++
  List.drop (0 + (↑(x0.toNat - 0 + (dropO x2 (0 + x1.toNat)).length) : Int).toNat + ((↑x2.length : Int).toNat - (↑(x0.toNat - 0 + (dropO x2 (0 + x1.toNat)).length) : Int).toNat))
    (List.take (0 + (x0.toNat - 0)) x2 ++ dropO x2 (0 + x1.toNat) ++ List.drop (0 + (x0.toNat - 0) + (dropO x2 (0 + x1.toNat)).length) x2))))))
         (.no))
        (.no))
       (.br (decide ((dropO x2 (0 + x1.toNat)).length ≠ 0) &&
           (decide (x2.length < 0 + (x0.toNat - 0) + (dropO x2 (0 + x1.toNat)).length) &&
             (decide (0 + (x0.toNat - 0) ≤ x2.length) && room (x0.toNat - 0 + (dropO x2 (0 + x1.toNat)).length) 64)))
        (.br (leB (↑x2.length : Int) (List.take (x0.toNat - 0) x2 ++ dropO x2 (0 + x1.toNat)).length &&
              leB (↑(List.take (x0.toNat - 0) x2 ++ dropO x2 (0 + x1.toNat)).length : Int) (↑x2.length : Int).toNat &&
            decide (0 + (↑x2.length : Int).toNat ≤ (List.take (x0.toNat - 0) x2 ++ dropO x2 (0 + x1.toNat)).length))
         (.br (decide
             (0 + (↑(List.take (x0.toNat - 0) x2 ++ dropO x2 (0 + x1.toNat)).length : Int).toNat +
                 ((↑x2.length : Int).toNat - (↑(List.take (x0.toNat - 0) x2 ++ dropO x2 (0 + x1.toNat)).length : Int).toNat) ≤
               (List.take (x0.toNat - 0) x2 ++ dropO x2 (0 + x1.toNat)).length))
          (.at ((.inr (.inr (List.take (0 + (↑(List.take (x0.toNat - 0) x2 ++ dropO x2 (0 + x1.toNat)).length : Int).toNat) (List.take (x0.toNat - 0) x2 ++ dropO x2 (0 + x1.toNat)) ++
    List.replicate ((↑x2.length : Int).toNat - (↑(List.take (x0.toNat - 0) x2 ++ dropO x2 (0 + x1.toNat)).length : Int).toNat)
      (AV.agg [AV.int IntKind.i64 0, AV.int IntKind.i64 0, AV.int IntKind.i64 0, AV.int IntKind.i64 0, AV.int IntKind.i64 0, AV.int IntKind.i64 0, AV.str []]) ++
  List.drop
    (0 + (↑(List.take (x0.toNat - 0) x2 ++ dropO x2 (0 + x1.toNat)).length : Int).toNat +
      ((↑x2.length : Int).toNat - (↑(List.take (x0.toNat - 0) x2 ++ dropO x2 (0 + x1.toNat)).length : Int).toNat))
    (List.take (x0.toNat - 0) x2 ++ dropO x2 (0 + x1.toNat)))))))
          (.no))
         (.no))
        (.no))))
     (.no))
    (.no)))
  (.no)
noncomputable def T33 : Tab := [(29, cloneE 7 64)]
theorem T33_ok : TabOk IP (T33) := ⟨sp29, trivial⟩
noncomputable def L33 : LTab := []
theorem L33_ok : LOk IP (L33) (loops F33.body) := LOk_of (l := []) (by kernel_rfl) trivial
theorem b33 (v : A33) : bodyK (R := B33) IP (callT (T33)) (loopT (L33)) 33 F33 (ea33 v).1 (ea33 v).2 rd33 = (tr33 v.1 v.2.1 v.2.2).ev := by kernel_rfl
/--  -/
noncomputable def f33 (x0 : Int) (x1 : Int) (x2 : List AV) : Option B33 := lock (tr33 x0 x1 x2).ev
theorem f33_eq (x0 : Int) (x1 : Int) (x2 : List AV) : f33 x0 x1 x2 = (tr33 x0 x1 x2).ev := lock_eq _
theorem c33 : ∀ v y, f33 v.1 v.2.1 v.2.2 = some y → callO IP 33 (ea33 v).1 (ea33 v).2 = some (er33 y) := fun v y h => fun_of T33_ok (by kernel_rfl) L33_ok rd33_ok (b33 v) ((f33_eq v.1 v.2.1 v.2.2).symm.trans h)
theorem s33 : Snd IP 33 (g33 f33) := g33_ok f33 c33

-- f16: 
abbrev A16 : Type := List AV × Int × Int
abbrev B16 : Type := List AV × Int
def pa16 : PArgs := ⟨[.view 7, .int .i64, .int .i64], []⟩
def to16 (ls : List Lf) : Option A16 := eatL ls fun x0 ls => eatI ls fun x1 ls => eatI ls fun x2 ls => eat0 ls (x0, x1, x2)
def ea16 (v : A16) : List AV × Heap := ([.view 7 v.1, .int .i64 v.2.1, .int .i64 v.2.2], [])
def er16_0 (v : List AV × Int) : Res × Heap := (.ret (.tup [.view 7 v.1, .int .i64 v.2]), [])
def er16 : B16 → Res × Heap := er16_0
def en16 : Option B16 → List (Bool × Res × Heap) := (E1 er16_0)
def rd16 : Res → Heap → Option B16 := rDec ⟨false, .tup [.view 7, .int .i64], []⟩ (fun ls => eatL ls fun x0 ls => eatI ls fun x1 ls => eat0 ls (x0, x1)) (rNo)
theorem to16_ok : ∀ ls v, to16 ls = some v → fArgs pa16 ls = ea16 v := by
  intro ls v h0
  unfold to16 at h0
  obtain ⟨x0, ls0, rfl, h1⟩ := eatL_some h0
  obtain ⟨x1, ls1, rfl, h2⟩ := eatI_some h1
  obtain ⟨x2, ls2, rfl, h3⟩ := eatI_some h2
  obtain ⟨rfl, rfl⟩ := eat0_some h3
  rfl
theorem rd16_ok : ∀ r h y, rd16 r h = some y → (r, h) = er16 y := rDec_ok (by
  intro ls v h0
  obtain ⟨x0, ls0, rfl, h1⟩ := eatL_some h0
  obtain ⟨x1, ls1, rfl, h2⟩ := eatI_some h1
  obtain ⟨rfl, rfl⟩ := eat0_some h2
  rfl
) (rNo_ok)
noncomputable def g16 (G : (List AV) → Int → Int → Option B16) : Ent := fEnt pa16 to16 (fun v => G v.1 v.2.1 v.2.2) en16
theorem g16_ok (G : (List AV) → Int → Int → Option B16) (hG : ∀ v y, G v.1 v.2.1 v.2.2 = some y → callO IP 16 (ea16 v).1 (ea16 v).2 = some (er16 y)) : Snd IP 16 (g16 G) := fEnt_ok to16_ok E1_ok hG
noncomputable def tr16 (x0 : List AV) (x1 : Int) (x2 : Int) : DT B16 :=
 .bi (f30 x0 x1) (fun y0 =>
  .br (decide (y0 < 0))
   (.at (([], 11)))
   (.bi (f32 x2) (fun y1 =>
    .br (!y1)
     (.at (([], 1)))
     (.br (okAt [CS.int IntKind.i64, CS.int IntKind.i64, CS.int IntKind.i64, CS.int IntKind.i64, CS.int IntKind.i64, CS.int IntKind.i64, CS.str] x0 y0)
      (.br (decide (intOf (cellAt x0 y0 5) < x2))
       (.at (([], 23)))
       (.br (decide (x0.length = 0))
        (.no)
        (.br (decide (x0.length ≠ 0) && decide (x0.length * 64 ≤ lim))
         (.br (inB x0.length y0)
          (.br (okS x0 y0.toNat 5 1)
           (.br (inB (setE x0 y0.toNat 5 [AV.int IntKind.i64 (IntKind.i64.wrap (x2 - 1))]).length y0)
            (.br (okP [CS.int IntKind.i64] (setE x0 y0.toNat 5 [AV.int IntKind.i64 (IntKind.i64.wrap (x2 - 1))]) y0.toNat 4)
             (.br (inB (setE x0 y0.toNat 5 [AV.int IntKind.i64 (IntKind.i64.wrap (x2 - 1))]).length y0)
              (.br (okP [CS.int IntKind.i64] (setE x0 y0.toNat 5 [AV.int IntKind.i64 (IntKind.i64.wrap (x2 - 1))]) y0.toNat 5)
               (.br (decide
                   (intOf (cellN (setE x0 y0.toNat 5 [AV.int IntKind.i64 (IntKind.i64.wrap (x2 - 1))]) y0.toNat 4) >
                     intOf (cellN (setE x0 y0.toNat 5 [AV.int IntKind.i64 (IntKind.i64.wrap (x2 - 1))]) y0.toNat 5)))
                (.bi (pl (f33 y0 (IntKind.i64.wrap (y0 + 1)) (setE x0 y0.toNat 5 [AV.int IntKind.i64 (IntKind.i64.wrap (x2 - 1))]))) (fun y2 =>
                 .at ((y2, 0)))
                 (.bi (pl (pr (f33 y0 (IntKind.i64.wrap (y0 + 1)) (setE x0 y0.toNat 5 [AV.int IntKind.i64 (IntKind.i64.wrap (x2 - 1))])))) (fun y2 =>
                  .br (snapB [(368, Blk.arr 7 y2.snd false), (0, Blk.box [AV.int IntKind.i64 x1] false)] purse (AV.tup [AV.own 368 0 (some y2.fst), AV.int IntKind.i64 0]))
                   (.at ((List.take y2.fst y2.snd, 0)))
                   (.no))
                  (.bi (pr (pr (f33 y0 (IntKind.i64.wrap (y0 + 1)) (setE x0 y0.toNat 5 [AV.int IntKind.i64 (IntKind.i64.wrap (x2 - 1))])))) (fun y2 =>
                   .at ((y2, 0)))
                   (.no))))
                (.at ((setE x0 y0.toNat 5 [AV.int IntKind.i64 (IntKind.i64.wrap (x2 - 1))], 0))))
               (.no))
              (.no))
             (.no))
            (.no))
           (.no))
          (.no))
         (.no))))
      (.no)))
    (.no)))
  (.no)
noncomputable def T16 : Tab := [(29, cloneE 7 64), (30, g30 f30), (32, g32 f32), (33, g33 f33)]
theorem T16_ok : TabOk IP (T16) := ⟨sp29, s30, s32, s33, trivial⟩
noncomputable def L16 : LTab := []
theorem L16_ok : LOk IP (L16) (loops F16.body) := LOk_of (l := []) (by kernel_rfl) trivial
theorem b16 (v : A16) : bodyK (R := B16) IP (callT (T16)) (loopT (L16)) 16 F16 (ea16 v).1 (ea16 v).2 rd16 = (tr16 v.1 v.2.1 v.2.2).ev := by kernel_rfl
/--  -/
noncomputable def f16 (x0 : List AV) (x1 : Int) (x2 : Int) : Option B16 := lock (tr16 x0 x1 x2).ev
theorem f16_eq (x0 : List AV) (x1 : Int) (x2 : Int) : f16 x0 x1 x2 = (tr16 x0 x1 x2).ev := lock_eq _
theorem c16 : ∀ v y, f16 v.1 v.2.1 v.2.2 = some y → callO IP 16 (ea16 v).1 (ea16 v).2 = some (er16 y) := fun v y h => fun_of T16_ok (by kernel_rfl) L16_ok rd16_ok (b16 v) ((f16_eq v.1 v.2.1 v.2.2).symm.trans h)
theorem s16 : Snd IP 16 (g16 f16) := g16_ok f16 c16

-- l17_0: loop 0 of function 17
abbrev TT17_0 : Type := List AV × Int × Int × Int × Int
def h17_0_0 (v : List AV × Int × Int × Int × Int) : St := ⟨[(1001700, .junk), (0, .view 7 v.1), (1, .int .i64 v.2.1), (2, .int .i64 v.2.2.1), (8, .int .i64 v.2.2.2.1), (9, .int .i64 v.2.2.2.2)], [], 0, 0⟩
def h17_0 : TT17_0 → St := (fun v => h17_0_0 v)
def d17_0 : St → Option TT17_0 := sDec ⟨[(1001700, .junk), (0, .view 7), (1, .int .i64), (2, .int .i64), (8, .int .i64), (9, .int .i64)], [], 0, 0⟩ (fun ls => eatL ls fun x0 ls => eatI ls fun x1 ls => eatI ls fun x2 ls => eatI ls fun x3 ls => eatI ls fun x4 ls => eat0 ls (x0, x1, x2, x3, x4)) (sNo)
theorem d17_0_ok : ∀ s v, d17_0 s = some v → s = h17_0 v := sDec_ok (by
  intro ls v h0
  obtain ⟨x0, ls0, rfl, h1⟩ := eatL_some h0
  obtain ⟨x1, ls1, rfl, h2⟩ := eatI_some h1
  obtain ⟨x2, ls2, rfl, h3⟩ := eatI_some h2
  obtain ⟨x3, ls3, rfl, h4⟩ := eatI_some h3
  obtain ⟨x4, ls4, rfl, h5⟩ := eatI_some h4
  obtain ⟨rfl, rfl⟩ := eat0_some h5
  rfl
) (sNo_ok)
theorem n17_0_0 (v : List AV × Int × Int × Int × Int) : norm (loopAt F17 0).1 (h17_0_0 v) = some (h17_0_0 v) := by kernel_rfl
noncomputable def x17_0_0 (x0 : List AV) (x1 : Int) (x2 : Int) (x3 : Int) (x4 : Int) : X × St := (X.exit 0,
  {
    tm :=
      [(17, AV.bool (decide (x4 ≥ 0))), (16, AV.int IntKind.i64 x4), (1001700, AV.junk), (0, AV.view 7 x0), (1, AV.int IntKind.i64 x1), (2, AV.int IntKind.i64 x2),
        (8, AV.int IntKind.i64 x3), (9, AV.int IntKind.i64 x4)],
    hp := [], nx := 32, k := 0 })
noncomputable def x17_0 : Nat → TT17_0 → X × St := fun j w => match j with
  | 0 => x17_0_0 w.1 w.2.1 w.2.2.1 w.2.2.2.1 w.2.2.2.2
  | _ => (.ret, ⟨[], [], 0, 0⟩)
theorem e17_0 : ∀ j v, outB (x17_0 j v).1 = true := fun j v => match j with
  | 0 => rfl
  | _ + 1 => rfl
noncomputable def st17_0_0 (x0 : List AV) (x1 : Int) (x2 : Int) (x3 : Int) (x4 : Int) : DT (Rd TT17_0) :=
 .br (decide (x4 ≥ 0))
  (.br (okAt [CS.int IntKind.i64, CS.int IntKind.i64, CS.int IntKind.i64, CS.int IntKind.i64, CS.int IntKind.i64, CS.int IntKind.i64, CS.str] x0 x4)
   (.br (intOf (cellAt x0 x4 0) == x1) (.at (.next ((x0, x1, x2, x4, IntKind.i64.wrap (x4 - 1))))) (.at (.next ((x0, x1, x2, x3, IntKind.i64.wrap (x4 - 1))))))
   (.no))
  (.at (.done 0))
noncomputable def st17_0 : TT17_0 → DT (Rd TT17_0) := (fun v => st17_0_0 v.1 v.2.1 v.2.2.1 v.2.2.2.1 v.2.2.2.2)
noncomputable def T17_0 : Tab := [(29, cloneE 7 64)]
theorem T17_0_ok : TabOk IP (T17_0) := ⟨sp29, trivial⟩
noncomputable def L17_0 : LTab := []
theorem L17_0_ok : LOk IP (L17_0) (loops (loopAt F17 0).2) := LOk_of (l := []) (by kernel_rfl) trivial
theorem b17_0_0 (v : List AV × Int × Int × Int × Int) : execK (R := Rx TT17_0) IP (callT (T17_0)) (loopT (L17_0)) (loopAt F17 0).2 (h17_0_0 v) (endK (loopAt F17 0).1 d17_0) = (cvD (fun j => x17_0 j v) (st17_0_0 v.1 v.2.1 v.2.2.1 v.2.2.2.1 v.2.2.2.2)).ev := by kernel_rfl
noncomputable def l17_0 (v : TT17_0) : Option (Nat × TT17_0) := lock (iterO (fun v => (st17_0 v).ev) v)
theorem l17_0_eq (v : TT17_0) : l17_0 v = iterO (fun v => (st17_0 v).ev) v := lock_eq _
noncomputable def ll17_0 : LEnt := lEnt d17_0 (l17_0) (x17_0) 1
theorem t17_0 : Go.Eng.Told IP (loopAt F17 0).1 (loopAt F17 0).2 (ll17_0) := loop_of (st := st17_0) (T17_0_ok) (L17_0_ok) d17_0_ok (fun v => n17_0_0 v) (e17_0) (fun v => b17_0_0 v) (l17_0_eq)

-- l17_1: loop 1 of function 17
abbrev TT17_1 : Type := (List AV × Int × Int × Int) ⊕ (List AV × Int × Int × Int × List AV)
def h17_1_0 (v : List AV × Int × Int × Int) : St := ⟨[(1001701, .junk), (0, .view 7 v.1), (2, .int .i64 v.2.1), (8, .int .i64 v.2.2.1), (10, .nils ⟨7, .any⟩), (11, .int .i64 v.2.2.2)], [], 0, 0⟩
def h17_1_1 (v : List AV × Int × Int × Int × List AV) : St := ⟨[(1001701, .junk), (0, .view 7 v.1), (2, .int .i64 v.2.1), (8, .int .i64 v.2.2.1), (10, .own 0 0 none), (11, .int .i64 v.2.2.2.1)], [(0, .arr 7 v.2.2.2.2 false)], 1, 0⟩
def h17_1 : TT17_1 → St := (Sum.elim (fun v => h17_1_0 v) (fun v => h17_1_1 v))
def d17_1 : St → Option TT17_1 := sDec ⟨[(1001701, .junk), (0, .view 7), (2, .int .i64), (8, .int .i64), (10, .nils ⟨7, .any⟩), (11, .int .i64)], [], 0, 0⟩ (fun ls => eatL ls fun x0 ls => eatI ls fun x1 ls => eatI ls fun x2 ls => eatI ls fun x3 ls => eat0 ls (.inl (x0, x1, x2, x3))) (sDec ⟨[(1001701, .junk), (0, .view 7), (2, .int .i64), (8, .int .i64), (10, .own 0 0), (11, .int .i64)], [(0, .arr 7 false)], 1, 0⟩ (fun ls => eatL ls fun x0 ls => eatI ls fun x1 ls => eatI ls fun x2 ls => eatI ls fun x3 ls => eatL ls fun x4 ls => eat0 ls (.inr (x0, x1, x2, x3, x4))) (sNo))
theorem d17_1_ok : ∀ s v, d17_1 s = some v → s = h17_1 v := sDec_ok (by
  intro ls v h0
  obtain ⟨x0, ls0, rfl, h1⟩ := eatL_some h0
  obtain ⟨x1, ls1, rfl, h2⟩ := eatI_some h1
  obtain ⟨x2, ls2, rfl, h3⟩ := eatI_some h2
  obtain ⟨x3, ls3, rfl, h4⟩ := eatI_some h3
  obtain ⟨rfl, rfl⟩ := eat0_some h4
  rfl
) (sDec_ok (by
  intro ls v h0
  obtain ⟨x0, ls0, rfl, h1⟩ := eatL_some h0
  obtain ⟨x1, ls1, rfl, h2⟩ := eatI_some h1
  obtain ⟨x2, ls2, rfl, h3⟩ := eatI_some h2
  obtain ⟨x3, ls3, rfl, h4⟩ := eatI_some h3
  obtain ⟨x4, ls4, rfl, h5⟩ := eatL_some h4
  obtain ⟨rfl, rfl⟩ := eat0_some h5
  rfl
) (sNo_ok))
theorem n17_1_0 (v : List AV × Int × Int × Int) : norm (loopAt F17 1).1 (h17_1_0 v) = some (h17_1_0 v) := by kernel_rfl
theorem n17_1_1 (v : List AV × Int × Int × Int × List AV) : norm (loopAt F17 1).1 (h17_1_1 v) = some (h17_1_1 v) := by kernel_rfl
noncomputable def x17_1_0 (x0 : List AV) (x1 : Int) (x2 : Int) (x3 : Int) : X × St := (X.exit 2,
  {
    tm :=
      [(44, AV.bool (decide (x3 < (↑x0.length : Int)))), (43, AV.int IntKind.i64 (↑x0.length : Int)), (42, AV.view 7 x0), (41, AV.int IntKind.i64 x3), (1001701, AV.junk),
        (0, AV.view 7 x0), (2, AV.int IntKind.i64 x1), (8, AV.int IntKind.i64 x2), (10, AV.nils { sz := 7, kd := NKd.any }), (11, AV.int IntKind.i64 x3)],
    hp := [], nx := 64, k := 0 })
noncomputable def x17_1_1 (x0 : List AV) (x1 : Int) (x2 : Int) (x3 : Int) (x4 : List AV) : X × St := (X.exit 2,
  {
    tm :=
      [(44, AV.bool (decide (x3 < (↑x0.length : Int)))), (43, AV.int IntKind.i64 (↑x0.length : Int)), (42, AV.view 7 x0), (41, AV.int IntKind.i64 x3), (1001701, AV.junk),
        (0, AV.view 7 x0), (2, AV.int IntKind.i64 x1), (8, AV.int IntKind.i64 x2), (10, AV.own 0 0 none), (11, AV.int IntKind.i64 x3)],
    hp := [(0, Blk.arr 7 x4 false)], nx := 65, k := 0 })
noncomputable def x17_1 : Nat → TT17_1 → X × St := fun j w => match j with
  | 0 => x17_1_0 (sl w).1 (sl w).2.1 (sl w).2.2.1 (sl w).2.2.2
  | 1 => x17_1_1 (sr w).1 (sr w).2.1 (sr w).2.2.1 (sr w).2.2.2.1 (sr w).2.2.2.2
  | _ => (.ret, ⟨[], [], 0, 0⟩)
theorem e17_1 : ∀ j v, outB (x17_1 j v).1 = true := fun j v => match j with
  | 0 => rfl
  | 1 => rfl
  | _ + 2 => rfl
noncomputable def st17_1_0 (x0 : List AV) (x1 : Int) (x2 : Int) (x3 : Int) : DT (Rd TT17_1) :=
 .br (decide (x3 < (↑x0.length : Int)))
  (.br (okAt [CS.int IntKind.i64, CS.int IntKind.i64, CS.int IntKind.i64, CS.int IntKind.i64, CS.int IntKind.i64, CS.int IntKind.i64, CS.str] x0 x3)
   (.br (x3 == x2)
    (.bi (br (x3 != x2) (some true) (some (decide (intOf (cellAt x0 x3 4) ≤ IntKind.i64.wrap (x1 - 1))))) (fun y0 =>
     .br (y0)
      (.at (.next ((.inr (x0, x1, x2, IntKind.i64.wrap (x3 + 1), [AV.agg
    [AV.int IntKind.i64 (intOf (cellAt x0 x3 0)), AV.int IntKind.i64 (intOf (cellAt x0 x3 1)), AV.int IntKind.i64 (intOf (cellAt x0 x3 2)),
      AV.int IntKind.i64 (intOf (cellAt x0 x3 3)), AV.int IntKind.i64 (intOf (cellAt x0 x3 4)), AV.int IntKind.i64 (IntKind.i64.wrap (x1 - 1)), AV.str (strOf (cellAt x0 x3 6))]])))))
      (.at (.next ((.inl (x0, x1, x2, IntKind.i64.wrap (x3 + 1)))))))
     (.no))
    (.bi (br (x3 != x2) (some true) (some (decide (intOf (cellAt x0 x3 4) ≤ intOf (cellAt x0 x3 5))))) (fun y0 =>
     .br (y0)
      (.at (.next ((.inr (x0, x1, x2, IntKind.i64.wrap (x3 + 1), [AV.agg
    [AV.int IntKind.i64 (intOf (cellAt x0 x3 0)), AV.int IntKind.i64 (intOf (cellAt x0 x3 1)), AV.int IntKind.i64 (intOf (cellAt x0 x3 2)),
      AV.int IntKind.i64 (intOf (cellAt x0 x3 3)), AV.int IntKind.i64 (intOf (cellAt x0 x3 4)), AV.int IntKind.i64 (intOf (cellAt x0 x3 5)), AV.str (strOf (cellAt x0 x3 6))]])))))
      (.at (.next ((.inl (x0, x1, x2, IntKind.i64.wrap (x3 + 1)))))))
     (.no)))
   (.no))
  (.at (.done 0))
noncomputable def st17_1_1 (x0 : List AV) (x1 : Int) (x2 : Int) (x3 : Int) (x4 : List AV) : DT (Rd TT17_1) :=
 .br (decide (x3 < (↑x0.length : Int)))
  (.br (okAt [CS.int IntKind.i64, CS.int IntKind.i64, CS.int IntKind.i64, CS.int IntKind.i64, CS.int IntKind.i64, CS.int IntKind.i64, CS.str] x0 x3)
   (.br (x3 == x2)
    (.bi (br (x3 != x2) (some true) (some (decide (intOf (cellAt x0 x3 4) ≤ IntKind.i64.wrap (x1 - 1))))) (fun y0 =>
     .br (y0)
      (.br (room (x4.length + 1) 64)
       (.at (.next ((.inr (x0, x1, x2, IntKind.i64.wrap (x3 + 1), x4 ++
  [AV.agg
      [AV.int IntKind.i64 (intOf (cellAt x0 x3 0)), AV.int IntKind.i64 (intOf (cellAt x0 x3 1)), AV.int IntKind.i64 (intOf (cellAt x0 x3 2)),
        AV.int IntKind.i64 (intOf (cellAt x0 x3 3)), AV.int IntKind.i64 (intOf (cellAt x0 x3 4)), AV.int IntKind.i64 (IntKind.i64.wrap (x1 - 1)), AV.str (strOf (cellAt x0 x3 6))]])))))
       (.no))
      (.at (.next ((.inr (x0, x1, x2, IntKind.i64.wrap (x3 + 1), x4))))))
     (.no))
    (.bi (br (x3 != x2) (some true) (some (decide (intOf (cellAt x0 x3 4) ≤ intOf (cellAt x0 x3 5))))) (fun y0 =>
     .br (y0)
      (.br (room (x4.length + 1) 64)
       (.at (.next ((.inr (x0, x1, x2, IntKind.i64.wrap (x3 + 1), x4 ++
  [AV.agg
      [AV.int IntKind.i64 (intOf (cellAt x0 x3 0)), AV.int IntKind.i64 (intOf (cellAt x0 x3 1)), AV.int IntKind.i64 (intOf (cellAt x0 x3 2)),
        AV.int IntKind.i64 (intOf (cellAt x0 x3 3)), AV.int IntKind.i64 (intOf (cellAt x0 x3 4)), AV.int IntKind.i64 (intOf (cellAt x0 x3 5)), AV.str (strOf (cellAt x0 x3 6))]])))))
       (.no))
      (.at (.next ((.inr (x0, x1, x2, IntKind.i64.wrap (x3 + 1), x4))))))
     (.no)))
   (.no))
  (.at (.done 1))
noncomputable def st17_1 : TT17_1 → DT (Rd TT17_1) := (Sum.elim (fun v => st17_1_0 v.1 v.2.1 v.2.2.1 v.2.2.2) (fun v => st17_1_1 v.1 v.2.1 v.2.2.1 v.2.2.2.1 v.2.2.2.2))
noncomputable def T17_1 : Tab := [(29, cloneE 7 64)]
theorem T17_1_ok : TabOk IP (T17_1) := ⟨sp29, trivial⟩
noncomputable def L17_1 : LTab := []
theorem L17_1_ok : LOk IP (L17_1) (loops (loopAt F17 1).2) := LOk_of (l := []) (by kernel_rfl) trivial
theorem b17_1_0 (v : List AV × Int × Int × Int) : execK (R := Rx TT17_1) IP (callT (T17_1)) (loopT (L17_1)) (loopAt F17 1).2 (h17_1_0 v) (endK (loopAt F17 1).1 d17_1) = (cvD (fun j => x17_1 j (.inl v)) (st17_1_0 v.1 v.2.1 v.2.2.1 v.2.2.2)).ev := by kernel_rfl
theorem b17_1_1 (v : List AV × Int × Int × Int × List AV) : execK (R := Rx TT17_1) IP (callT (T17_1)) (loopT (L17_1)) (loopAt F17 1).2 (h17_1_1 v) (endK (loopAt F17 1).1 d17_1) = (cvD (fun j => x17_1 j (.inr v)) (st17_1_1 v.1 v.2.1 v.2.2.1 v.2.2.2.1 v.2.2.2.2)).ev := by kernel_rfl
noncomputable def l17_1 (v : TT17_1) : Option (Nat × TT17_1) := lock (iterO (fun v => (st17_1 v).ev) v)
theorem l17_1_eq (v : TT17_1) : l17_1 v = iterO (fun v => (st17_1 v).ev) v := lock_eq _
noncomputable def ll17_1 : LEnt := lEnt d17_1 (l17_1) (x17_1) 2
theorem t17_1 : Go.Eng.Told IP (loopAt F17 1).1 (loopAt F17 1).2 (ll17_1) := loop_of (st := st17_1) (T17_1_ok) (L17_1_ok) d17_1_ok (fun v => match v with | (.inl v) => n17_1_0 v | (.inr v) => n17_1_1 v) (e17_1) (fun v => match v with | (.inl v) => b17_1_0 v | (.inr v) => b17_1_1 v) (l17_1_eq)

-- f17: 
abbrev A17 : Type := List AV × Int × Int
abbrev B17 : Type := List AV × Int
def pa17 : PArgs := ⟨[.view 7, .int .i64, .int .i64], []⟩
def to17 (ls : List Lf) : Option A17 := eatL ls fun x0 ls => eatI ls fun x1 ls => eatI ls fun x2 ls => eat0 ls (x0, x1, x2)
def ea17 (v : A17) : List AV × Heap := ([.view 7 v.1, .int .i64 v.2.1, .int .i64 v.2.2], [])
def er17_0 (v : List AV × Int) : Res × Heap := (.ret (.tup [.view 7 v.1, .int .i64 v.2]), [])
def er17 : B17 → Res × Heap := er17_0
def en17 : Option B17 → List (Bool × Res × Heap) := (E1 er17_0)
def rd17 : Res → Heap → Option B17 := rDec ⟨false, .tup [.view 7, .int .i64], []⟩ (fun ls => eatL ls fun x0 ls => eatI ls fun x1 ls => eat0 ls (x0, x1)) (rNo)
theorem to17_ok : ∀ ls v, to17 ls = some v → fArgs pa17 ls = ea17 v := by
  intro ls v h0
  unfold to17 at h0
  obtain ⟨x0, ls0, rfl, h1⟩ := eatL_some h0
  obtain ⟨x1, ls1, rfl, h2⟩ := eatI_some h1
  obtain ⟨x2, ls2, rfl, h3⟩ := eatI_some h2
  obtain ⟨rfl, rfl⟩ := eat0_some h3
  rfl
theorem rd17_ok : ∀ r h y, rd17 r h = some y → (r, h) = er17 y := rDec_ok (by
  intro ls v h0
  obtain ⟨x0, ls0, rfl, h1⟩ := eatL_some h0
  obtain ⟨x1, ls1, rfl, h2⟩ := eatI_some h1
  obtain ⟨rfl, rfl⟩ := eat0_some h2
  rfl
) (rNo_ok)
noncomputable def g17 (G : (List AV) → Int → Int → Option B17) : Ent := fEnt pa17 to17 (fun v => G v.1 v.2.1 v.2.2) en17
theorem g17_ok (G : (List AV) → Int → Int → Option B17) (hG : ∀ v y, G v.1 v.2.1 v.2.2 = some y → callO IP 17 (ea17 v).1 (ea17 v).2 = some (er17 y)) : Snd IP 17 (g17 G) := fEnt_ok to17_ok E1_ok hG
noncomputable def tr17 (x0 : List AV) (x1 : Int) (x2 : Int) : DT B17 :=
 .bi (pj 0 (l17_0 (x0, x1, x2, -1, IntKind.i64.wrap ((↑x0.length : Int) - 1)))) (fun y0 =>
  .br (decide (y0.snd.snd.snd.fst < 0))
   (.at (([], 11)))
   (.bi (f24 y0.snd.snd.fst) (fun y1 =>
    .br (!y1)
     (.at (([], 1)))
     (.br (okAt [CS.int IntKind.i64, CS.int IntKind.i64, CS.int IntKind.i64, CS.int IntKind.i64, CS.int IntKind.i64, CS.int IntKind.i64, CS.str] y0.fst y0.snd.snd.snd.fst)
      (.br (decide (intOf (cellAt y0.fst y0.snd.snd.snd.fst 5) < y0.snd.snd.fst))
       (.at (([], 23)))
       (.bi (pj 0 (l17_1 (Sum.inl (y0.fst, y0.snd.snd.fst, y0.snd.snd.snd.fst, 0)))) (fun y2 =>
        .at (([], 0)))
        (.bi (pj 1 (l17_1 (Sum.inl (y0.fst, y0.snd.snd.fst, y0.snd.snd.snd.fst, 0)))) (fun y2 =>
         .at (((sr y2).snd.snd.snd.snd, 0)))
         (.no))))
      (.no)))
    (.no)))
  (.no)
noncomputable def T17 : Tab := [(29, cloneE 7 64), (24, g24 f24)]
theorem T17_ok : TabOk IP (T17) := ⟨sp29, s24, trivial⟩
noncomputable def L17 : LTab := [(1001700, ll17_0), (1001701, ll17_1)]
theorem L17_ok : LOk IP (L17) (loops F17.body) := LOk_of (l := [loopAt F17 0, loopAt F17 1]) (by kernel_rfl) ⟨sel_one (by kernel_rfl) t17_0, sel_one (by kernel_rfl) t17_1, trivial⟩
theorem b17 (v : A17) : bodyK (R := B17) IP (callT (T17)) (loopT (L17)) 17 F17 (ea17 v).1 (ea17 v).2 rd17 = (tr17 v.1 v.2.1 v.2.2).ev := by kernel_rfl
/--  -/
noncomputable def f17 (x0 : List AV) (x1 : Int) (x2 : Int) : Option B17 := lock (tr17 x0 x1 x2).ev
theorem f17_eq (x0 : List AV) (x1 : Int) (x2 : Int) : f17 x0 x1 x2 = (tr17 x0 x1 x2).ev := lock_eq _
theorem c17 : ∀ v y, f17 v.1 v.2.1 v.2.2 = some y → callO IP 17 (ea17 v).1 (ea17 v).2 = some (er17 y) := fun v y h => fun_of T17_ok (by kernel_rfl) L17_ok rd17_ok (b17 v) ((f17_eq v.1 v.2.1 v.2.2).symm.trans h)
theorem s17 : Snd IP 17 (g17 f17) := g17_ok f17 c17

-- f5: 
abbrev A5 : Type := List AV × Int × Int
abbrev B5 : Type := Bool
def pa5 : PArgs := ⟨[.view 7, .int .i64, .int .i64], []⟩
def to5 (ls : List Lf) : Option A5 := eatL ls fun x0 ls => eatI ls fun x1 ls => eatI ls fun x2 ls => eat0 ls (x0, x1, x2)
def ea5 (v : A5) : List AV × Heap := ([.view 7 v.1, .int .i64 v.2.1, .int .i64 v.2.2], [])
def er5_0 (v : Bool) : Res × Heap := (.ret (.bool v), [])
def er5 : B5 → Res × Heap := er5_0
def en5 : Option B5 → List (Bool × Res × Heap) := (E1 er5_0)
def rd5 : Res → Heap → Option B5 := rDec ⟨false, .bool, []⟩ (fun ls => eatB ls fun x0 ls => eat0 ls x0) (rNo)
theorem to5_ok : ∀ ls v, to5 ls = some v → fArgs pa5 ls = ea5 v := by
  intro ls v h0
  unfold to5 at h0
  obtain ⟨x0, ls0, rfl, h1⟩ := eatL_some h0
  obtain ⟨x1, ls1, rfl, h2⟩ := eatI_some h1
  obtain ⟨x2, ls2, rfl, h3⟩ := eatI_some h2
  obtain ⟨rfl, rfl⟩ := eat0_some h3
  rfl
theorem rd5_ok : ∀ r h y, rd5 r h = some y → (r, h) = er5 y := rDec_ok (by
  intro ls v h0
  obtain ⟨x0, ls0, rfl, h1⟩ := eatB_some h0
  obtain ⟨rfl, rfl⟩ := eat0_some h1
  rfl
) (rNo_ok)
noncomputable def g5 (G : (List AV) → Int → Int → Option B5) : Ent := fEnt pa5 to5 (fun v => G v.1 v.2.1 v.2.2) en5
theorem g5_ok (G : (List AV) → Int → Int → Option B5) (hG : ∀ v y, G v.1 v.2.1 v.2.2 = some y → callO IP 5 (ea5 v).1 (ea5 v).2 = some (er5 y)) : Snd IP 5 (g5 G) := fEnt_ok to5_ok E1_ok hG
noncomputable def tr5 (x0 : List AV) (x1 : Int) (x2 : Int) : DT B5 :=
 .br (decide ((↑x0.length : Int) > 100))
  (.bi (f12) (fun y0 =>
   .at (y0))
   (.no))
  (.bi (f16 x0 x1 x2) (fun y0 =>
   .bi (f17 x0 x1 x2) (fun y1 =>
    .bi (f15 y0.fst y1.fst) (fun y2 =>
     .bi (br y2 (some (y0.snd == y1.snd)) (some false)) (fun y3 =>
      .bi (br y3 (br (sm f12) (some (gv f12)) none) (some false)) (fun y4 =>
       .at (y4))
       (.no))
      (.no))
     (.no))
    (.no))
   (.no))
noncomputable def T5 : Tab := [(29, cloneE 7 64), (12, g12 f12), (16, g16 f16), (17, g17 f17), (15, g15 f15)]
theorem T5_ok : TabOk IP (T5) := ⟨sp29, s12, s16, s17, s15, trivial⟩
noncomputable def L5 : LTab := []
theorem L5_ok : LOk IP (L5) (loops F5.body) := LOk_of (l := []) (by kernel_rfl) trivial
theorem b5 (v : A5) : bodyK (R := B5) IP (callT (T5)) (loopT (L5)) 5 F5 (ea5 v).1 (ea5 v).2 rd5 = (tr5 v.1 v.2.1 v.2.2).ev := by kernel_rfl
/--  -/
noncomputable def f5 (x0 : List AV) (x1 : Int) (x2 : Int) : Option B5 := lock (tr5 x0 x1 x2).ev
theorem f5_eq (x0 : List AV) (x1 : Int) (x2 : Int) : f5 x0 x1 x2 = (tr5 x0 x1 x2).ev := lock_eq _
theorem c5 : ∀ v y, f5 v.1 v.2.1 v.2.2 = some y → callO IP 5 (ea5 v).1 (ea5 v).2 = some (er5 y) := fun v y h => fun_of T5_ok (by kernel_rfl) L5_ok rd5_ok (b5 v) ((f5_eq v.1 v.2.1 v.2.2).symm.trans h)
theorem s5 : Snd IP 5 (g5 f5) := g5_ok f5 c5

-- l18_0: loop 0 of function 18
abbrev TT18_0 : Type := (Int × Int × List AV × Int × Int) ⊕ (Int × Int × List AV × Int × Int × List AV)
def h18_0_0 (v : Int × Int × List AV × Int × Int) : St := ⟨[(1001800, .junk), (1, .int .i64 v.1), (2, .int .i64 v.2.1), (7, .nils 7), (10, .view 7 v.2.2.1), (11, .int .i64 v.2.2.2.1), (12, .int .i64 v.2.2.2.2)], [], 0, 0⟩
def h18_0_1 (v : Int × Int × List AV × Int × Int × List AV) : St := ⟨[(1001800, .junk), (1, .int .i64 v.1), (2, .int .i64 v.2.1), (7, .own 0 0 none), (10, .view 7 v.2.2.1), (11, .int .i64 v.2.2.2.1), (12, .int .i64 v.2.2.2.2.1)], [(0, .arr 7 v.2.2.2.2.2 false)], 1, 0⟩
def h18_0 : TT18_0 → St := (Sum.elim (fun v => h18_0_0 v) (fun v => h18_0_1 v))
def d18_0 : St → Option TT18_0 := sDec ⟨[(1001800, .junk), (1, .int .i64), (2, .int .i64), (7, .nils 7), (10, .view 7), (11, .int .i64), (12, .int .i64)], [], 0, 0⟩ (fun ls => eatI ls fun x0 ls => eatI ls fun x1 ls => eatL ls fun x2 ls => eatI ls fun x3 ls => eatI ls fun x4 ls => eat0 ls (.inl (x0, x1, x2, x3, x4))) (sDec ⟨[(1001800, .junk), (1, .int .i64), (2, .int .i64), (7, .own 0 0), (10, .view 7), (11, .int .i64), (12, .int .i64)], [(0, .arr 7 false)], 1, 0⟩ (fun ls => eatI ls fun x0 ls => eatI ls fun x1 ls => eatL ls fun x2 ls => eatI ls fun x3 ls => eatI ls fun x4 ls => eatL ls fun x5 ls => eat0 ls (.inr (x0, x1, x2, x3, x4, x5))) (sNo))
theorem d18_0_ok : ∀ s v, d18_0 s = some v → s = h18_0 v := sDec_ok (by
  intro ls v h0
  obtain ⟨x0, ls0, rfl, h1⟩ := eatI_some h0
  obtain ⟨x1, ls1, rfl, h2⟩ := eatI_some h1
  obtain ⟨x2, ls2, rfl, h3⟩ := eatL_some h2
  obtain ⟨x3, ls3, rfl, h4⟩ := eatI_some h3
  obtain ⟨x4, ls4, rfl, h5⟩ := eatI_some h4
  obtain ⟨rfl, rfl⟩ := eat0_some h5
  rfl
) (sDec_ok (by
  intro ls v h0
  obtain ⟨x0, ls0, rfl, h1⟩ := eatI_some h0
  obtain ⟨x1, ls1, rfl, h2⟩ := eatI_some h1
  obtain ⟨x2, ls2, rfl, h3⟩ := eatL_some h2
  obtain ⟨x3, ls3, rfl, h4⟩ := eatI_some h3
  obtain ⟨x4, ls4, rfl, h5⟩ := eatI_some h4
  obtain ⟨x5, ls5, rfl, h6⟩ := eatL_some h5
  obtain ⟨rfl, rfl⟩ := eat0_some h6
  rfl
) (sNo_ok))
theorem n18_0_0 (v : Int × Int × List AV × Int × Int) : norm (loopAt F18 0).1 (h18_0_0 v) = some (h18_0_0 v) := by kernel_rfl
theorem n18_0_1 (v : Int × Int × List AV × Int × Int × List AV) : norm (loopAt F18 0).1 (h18_0_1 v) = some (h18_0_1 v) := by kernel_rfl
noncomputable def x18_0_0 (x0 : Int) (x1 : Int) (x2 : List AV) (x3 : Int) (x4 : Int) : X × St := (X.exit 0,
  {
    tm :=
      [(13, AV.bool (decide (x4 < x3))), (1001800, AV.junk), (1, AV.int IntKind.i64 x0), (2, AV.int IntKind.i64 x1), (7, AV.nils { sz := 7, kd := NKd.nil }), (10, AV.view 7 x2),
        (11, AV.int IntKind.i64 x3), (12, AV.int IntKind.i64 x4)],
    hp := [], nx := 16, k := 0 })
noncomputable def x18_0_1 (x0 : Int) (x1 : Int) (x2 : List AV) (x3 : Int) (x4 : Int) (x5 : List AV) : X × St := (X.exit 0,
  {
    tm :=
      [(13, AV.bool (decide (x4 < x3))), (1001800, AV.junk), (1, AV.int IntKind.i64 x0), (2, AV.int IntKind.i64 x1), (7, AV.own 0 0 none), (10, AV.view 7 x2),
        (11, AV.int IntKind.i64 x3), (12, AV.int IntKind.i64 x4)],
    hp := [(0, Blk.arr 7 x5 false)], nx := 17, k := 0 })
noncomputable def x18_0 : Nat → TT18_0 → X × St := fun j w => match j with
  | 0 => x18_0_0 (sl w).1 (sl w).2.1 (sl w).2.2.1 (sl w).2.2.2.1 (sl w).2.2.2.2
  | 1 => x18_0_1 (sr w).1 (sr w).2.1 (sr w).2.2.1 (sr w).2.2.2.1 (sr w).2.2.2.2.1 (sr w).2.2.2.2.2
  | _ => (.ret, ⟨[], [], 0, 0⟩)
theorem e18_0 : ∀ j v, outB (x18_0 j v).1 = true := fun j v => match j with
  | 0 => rfl
  | 1 => rfl
  | _ + 2 => rfl
noncomputable def st18_0_0 (x0 : Int) (x1 : Int) (x2 : List AV) (x3 : Int) (x4 : Int) : DT (Rd TT18_0) :=
 .br (decide (x4 < x3))
  (.br (okAt [CS.int IntKind.i64, CS.int IntKind.i64, CS.int IntKind.i64, CS.int IntKind.i64, CS.int IntKind.i64, CS.int IntKind.i64, CS.str] x2 x4)
   (.bi (br (intOf (cellAt x2 x4 1) == x0) (some (decide (intOf (cellAt x2 x4 4) ≤ x1))) (some false)) (fun y0 =>
    .bi (br y0 (some (decide (x1 ≤ intOf (cellAt x2 x4 5)))) (some false)) (fun y1 =>
     .br (y1)
      (.at (.next ((.inr (x0, x1, x2, x3, IntKind.i64.wrap (x4 + 1), [AV.agg
    [AV.int IntKind.i64 (intOf (cellAt x2 x4 0)), AV.int IntKind.i64 (intOf (cellAt x2 x4 1)), AV.int IntKind.i64 (intOf (cellAt x2 x4 2)),
      AV.int IntKind.i64 (intOf (cellAt x2 x4 3)), AV.int IntKind.i64 (intOf (cellAt x2 x4 4)), AV.int IntKind.i64 (intOf (cellAt x2 x4 5)), AV.str (strOf (cellAt x2 x4 6))]])))))
      (.at (.next ((.inl (x0, x1, x2, x3, IntKind.i64.wrap (x4 + 1)))))))
     (.no))
    (.no))
   (.no))
  (.at (.done 0))
noncomputable def st18_0_1 (x0 : Int) (x1 : Int) (x2 : List AV) (x3 : Int) (x4 : Int) (x5 : List AV) : DT (Rd TT18_0) :=
 .br (decide (x4 < x3))
  (.br (okAt [CS.int IntKind.i64, CS.int IntKind.i64, CS.int IntKind.i64, CS.int IntKind.i64, CS.int IntKind.i64, CS.int IntKind.i64, CS.str] x2 x4)
   (.bi (br (intOf (cellAt x2 x4 1) == x0) (some (decide (intOf (cellAt x2 x4 4) ≤ x1))) (some false)) (fun y0 =>
    .bi (br y0 (some (decide (x1 ≤ intOf (cellAt x2 x4 5)))) (some false)) (fun y1 =>
     .br (y1)
      (.br (room (x5.length + 1) 64)
       (.at (.next ((.inr (x0, x1, x2, x3, IntKind.i64.wrap (x4 + 1), x5 ++
  [AV.agg
      [AV.int IntKind.i64 (intOf (cellAt x2 x4 0)), AV.int IntKind.i64 (intOf (cellAt x2 x4 1)), AV.int IntKind.i64 (intOf (cellAt x2 x4 2)),
        AV.int IntKind.i64 (intOf (cellAt x2 x4 3)), AV.int IntKind.i64 (intOf (cellAt x2 x4 4)), AV.int IntKind.i64 (intOf (cellAt x2 x4 5)), AV.str (strOf (cellAt x2 x4 6))]])))))
       (.no))
      (.at (.next ((.inr (x0, x1, x2, x3, IntKind.i64.wrap (x4 + 1), x5))))))
     (.no))
    (.no))
   (.no))
  (.at (.done 1))
noncomputable def st18_0 : TT18_0 → DT (Rd TT18_0) := (Sum.elim (fun v => st18_0_0 v.1 v.2.1 v.2.2.1 v.2.2.2.1 v.2.2.2.2) (fun v => st18_0_1 v.1 v.2.1 v.2.2.1 v.2.2.2.1 v.2.2.2.2.1 v.2.2.2.2.2))
noncomputable def T18_0 : Tab := [(29, cloneE 7 64)]
theorem T18_0_ok : TabOk IP (T18_0) := ⟨sp29, trivial⟩
noncomputable def L18_0 : LTab := []
theorem L18_0_ok : LOk IP (L18_0) (loops (loopAt F18 0).2) := LOk_of (l := []) (by kernel_rfl) trivial
theorem b18_0_0 (v : Int × Int × List AV × Int × Int) : execK (R := Rx TT18_0) IP (callT (T18_0)) (loopT (L18_0)) (loopAt F18 0).2 (h18_0_0 v) (endK (loopAt F18 0).1 d18_0) = (cvD (fun j => x18_0 j (.inl v)) (st18_0_0 v.1 v.2.1 v.2.2.1 v.2.2.2.1 v.2.2.2.2)).ev := by kernel_rfl
theorem b18_0_1 (v : Int × Int × List AV × Int × Int × List AV) : execK (R := Rx TT18_0) IP (callT (T18_0)) (loopT (L18_0)) (loopAt F18 0).2 (h18_0_1 v) (endK (loopAt F18 0).1 d18_0) = (cvD (fun j => x18_0 j (.inr v)) (st18_0_1 v.1 v.2.1 v.2.2.1 v.2.2.2.1 v.2.2.2.2.1 v.2.2.2.2.2)).ev := by kernel_rfl
noncomputable def l18_0 (v : TT18_0) : Option (Nat × TT18_0) := lock (iterO (fun v => (st18_0 v).ev) v)
theorem l18_0_eq (v : TT18_0) : l18_0 v = iterO (fun v => (st18_0 v).ev) v := lock_eq _
noncomputable def ll18_0 : LEnt := lEnt d18_0 (l18_0) (x18_0) 2
theorem t18_0 : Go.Eng.Told IP (loopAt F18 0).1 (loopAt F18 0).2 (ll18_0) := loop_of (st := st18_0) (T18_0_ok) (L18_0_ok) d18_0_ok (fun v => match v with | (.inl v) => n18_0_0 v | (.inr v) => n18_0_1 v) (e18_0) (fun v => match v with | (.inl v) => b18_0_0 v | (.inr v) => b18_0_1 v) (l18_0_eq)

-- f18: 
abbrev A18 : Type := List AV × Int × Int
abbrev B18 : Type := List AV
def pa18 : PArgs := ⟨[.view 7, .int .i64, .int .i64], []⟩
def to18 (ls : List Lf) : Option A18 := eatL ls fun x0 ls => eatI ls fun x1 ls => eatI ls fun x2 ls => eat0 ls (x0, x1, x2)
def ea18 (v : A18) : List AV × Heap := ([.view 7 v.1, .int .i64 v.2.1, .int .i64 v.2.2], [])
def er18_0 (v : List AV) : Res × Heap := (.ret (.view 7 v), [])
def er18 : B18 → Res × Heap := er18_0
def en18 : Option B18 → List (Bool × Res × Heap) := (E1 er18_0)
def rd18 : Res → Heap → Option B18 := rDec ⟨false, .view 7, []⟩ (fun ls => eatL ls fun x0 ls => eat0 ls x0) (rNo)
theorem to18_ok : ∀ ls v, to18 ls = some v → fArgs pa18 ls = ea18 v := by
  intro ls v h0
  unfold to18 at h0
  obtain ⟨x0, ls0, rfl, h1⟩ := eatL_some h0
  obtain ⟨x1, ls1, rfl, h2⟩ := eatI_some h1
  obtain ⟨x2, ls2, rfl, h3⟩ := eatI_some h2
  obtain ⟨rfl, rfl⟩ := eat0_some h3
  rfl
theorem rd18_ok : ∀ r h y, rd18 r h = some y → (r, h) = er18 y := rDec_ok (by
  intro ls v h0
  obtain ⟨x0, ls0, rfl, h1⟩ := eatL_some h0
  obtain ⟨rfl, rfl⟩ := eat0_some h1
  rfl
) (rNo_ok)
noncomputable def g18 (G : (List AV) → Int → Int → Option B18) : Ent := fEnt pa18 to18 (fun v => G v.1 v.2.1 v.2.2) en18
theorem g18_ok (G : (List AV) → Int → Int → Option B18) (hG : ∀ v y, G v.1 v.2.1 v.2.2 = some y → callO IP 18 (ea18 v).1 (ea18 v).2 = some (er18 y)) : Snd IP 18 (g18 G) := fEnt_ok to18_ok E1_ok hG
noncomputable def tr18 (x0 : List AV) (x1 : Int) (x2 : Int) : DT B18 :=
 .bi (pj 0 (l18_0 (Sum.inl (x1, x2, x0, (↑x0.length : Int), 0)))) (fun y0 =>
  .at ([]))
  (.bi (pj 1 (l18_0 (Sum.inl (x1, x2, x0, (↑x0.length : Int), 0)))) (fun y0 =>
   .at ((sr y0).snd.snd.snd.snd.snd))
   (.no))
noncomputable def T18 : Tab := [(29, cloneE 7 64)]
theorem T18_ok : TabOk IP (T18) := ⟨sp29, trivial⟩
noncomputable def L18 : LTab := [(1001800, ll18_0)]
theorem L18_ok : LOk IP (L18) (loops F18.body) := LOk_of (l := [loopAt F18 0]) (by kernel_rfl) ⟨sel_one (by kernel_rfl) t18_0, trivial⟩
theorem b18 (v : A18) : bodyK (R := B18) IP (callT (T18)) (loopT (L18)) 18 F18 (ea18 v).1 (ea18 v).2 rd18 = (tr18 v.1 v.2.1 v.2.2).ev := by kernel_rfl
/--  -/
noncomputable def f18 (x0 : List AV) (x1 : Int) (x2 : Int) : Option B18 := lock (tr18 x0 x1 x2).ev
theorem f18_eq (x0 : List AV) (x1 : Int) (x2 : Int) : f18 x0 x1 x2 = (tr18 x0 x1 x2).ev := lock_eq _
theorem c18 : ∀ v y, f18 v.1 v.2.1 v.2.2 = some y → callO IP 18 (ea18 v).1 (ea18 v).2 = some (er18 y) := fun v y h => fun_of T18_ok (by kernel_rfl) L18_ok rd18_ok (b18 v) ((f18_eq v.1 v.2.1 v.2.2).symm.trans h)
theorem s18 : Snd IP 18 (g18 f18) := g18_ok f18 c18

-- l19_0: loop 0 of function 19
abbrev TT19_0 : Type := (List AV × Int × Int × Int) ⊕ (List AV × Int × Int × Int × List AV)
def h19_0_0 (v : List AV × Int × Int × Int) : St := ⟨[(1001900, .junk), (0, .view 7 v.1), (1, .int .i64 v.2.1), (2, .int .i64 v.2.2.1), (7, .nils ⟨7, .any⟩), (8, .int .i64 v.2.2.2)], [], 0, 0⟩
def h19_0_1 (v : List AV × Int × Int × Int × List AV) : St := ⟨[(1001900, .junk), (0, .view 7 v.1), (1, .int .i64 v.2.1), (2, .int .i64 v.2.2.1), (7, .own 0 0 none), (8, .int .i64 v.2.2.2.1)], [(0, .arr 7 v.2.2.2.2 false)], 1, 0⟩
def h19_0 : TT19_0 → St := (Sum.elim (fun v => h19_0_0 v) (fun v => h19_0_1 v))
def d19_0 : St → Option TT19_0 := sDec ⟨[(1001900, .junk), (0, .view 7), (1, .int .i64), (2, .int .i64), (7, .nils ⟨7, .any⟩), (8, .int .i64)], [], 0, 0⟩ (fun ls => eatL ls fun x0 ls => eatI ls fun x1 ls => eatI ls fun x2 ls => eatI ls fun x3 ls => eat0 ls (.inl (x0, x1, x2, x3))) (sDec ⟨[(1001900, .junk), (0, .view 7), (1, .int .i64), (2, .int .i64), (7, .own 0 0), (8, .int .i64)], [(0, .arr 7 false)], 1, 0⟩ (fun ls => eatL ls fun x0 ls => eatI ls fun x1 ls => eatI ls fun x2 ls => eatI ls fun x3 ls => eatL ls fun x4 ls => eat0 ls (.inr (x0, x1, x2, x3, x4))) (sNo))
theorem d19_0_ok : ∀ s v, d19_0 s = some v → s = h19_0 v := sDec_ok (by
  intro ls v h0
  obtain ⟨x0, ls0, rfl, h1⟩ := eatL_some h0
  obtain ⟨x1, ls1, rfl, h2⟩ := eatI_some h1
  obtain ⟨x2, ls2, rfl, h3⟩ := eatI_some h2
  obtain ⟨x3, ls3, rfl, h4⟩ := eatI_some h3
  obtain ⟨rfl, rfl⟩ := eat0_some h4
  rfl
) (sDec_ok (by
  intro ls v h0
  obtain ⟨x0, ls0, rfl, h1⟩ := eatL_some h0
  obtain ⟨x1, ls1, rfl, h2⟩ := eatI_some h1
  obtain ⟨x2, ls2, rfl, h3⟩ := eatI_some h2
  obtain ⟨x3, ls3, rfl, h4⟩ := eatI_some h3
  obtain ⟨x4, ls4, rfl, h5⟩ := eatL_some h4
  obtain ⟨rfl, rfl⟩ := eat0_some h5
  rfl
) (sNo_ok))
theorem n19_0_0 (v : List AV × Int × Int × Int) : norm (loopAt F19 0).1 (h19_0_0 v) = some (h19_0_0 v) := by kernel_rfl
theorem n19_0_1 (v : List AV × Int × Int × Int × List AV) : norm (loopAt F19 0).1 (h19_0_1 v) = some (h19_0_1 v) := by kernel_rfl
noncomputable def x19_0_0 (x0 : List AV) (x1 : Int) (x2 : Int) (x3 : Int) : X × St := (X.exit 0,
  {
    tm :=
      [(13, AV.bool (decide (x3 < (↑x0.length : Int)))), (12, AV.int IntKind.i64 (↑x0.length : Int)), (11, AV.view 7 x0), (10, AV.int IntKind.i64 x3), (1001900, AV.junk),
        (0, AV.view 7 x0), (1, AV.int IntKind.i64 x1), (2, AV.int IntKind.i64 x2), (7, AV.nils { sz := 7, kd := NKd.any }), (8, AV.int IntKind.i64 x3)],
    hp := [], nx := 64, k := 0 })
noncomputable def x19_0_1 (x0 : List AV) (x1 : Int) (x2 : Int) (x3 : Int) (x4 : List AV) : X × St := (X.exit 0,
  {
    tm :=
      [(13, AV.bool (decide (x3 < (↑x0.length : Int)))), (12, AV.int IntKind.i64 (↑x0.length : Int)), (11, AV.view 7 x0), (10, AV.int IntKind.i64 x3), (1001900, AV.junk),
        (0, AV.view 7 x0), (1, AV.int IntKind.i64 x1), (2, AV.int IntKind.i64 x2), (7, AV.own 0 0 none), (8, AV.int IntKind.i64 x3)],
    hp := [(0, Blk.arr 7 x4 false)], nx := 65, k := 0 })
noncomputable def x19_0 : Nat → TT19_0 → X × St := fun j w => match j with
  | 0 => x19_0_0 (sl w).1 (sl w).2.1 (sl w).2.2.1 (sl w).2.2.2
  | 1 => x19_0_1 (sr w).1 (sr w).2.1 (sr w).2.2.1 (sr w).2.2.2.1 (sr w).2.2.2.2
  | _ => (.ret, ⟨[], [], 0, 0⟩)
theorem e19_0 : ∀ j v, outB (x19_0 j v).1 = true := fun j v => match j with
  | 0 => rfl
  | 1 => rfl
  | _ + 2 => rfl
noncomputable def st19_0_0 (x0 : List AV) (x1 : Int) (x2 : Int) (x3 : Int) : DT (Rd TT19_0) :=
 .br (decide (x3 < (↑x0.length : Int)))
  (.br (okAt [CS.int IntKind.i64, CS.int IntKind.i64, CS.int IntKind.i64, CS.int IntKind.i64, CS.int IntKind.i64, CS.int IntKind.i64, CS.str] x0 x3)
   (.bi (br (intOf (cellAt x0 x3 1) == x1)
       (br (okAt [CS.int IntKind.i64, CS.int IntKind.i64, CS.int IntKind.i64, CS.int IntKind.i64, CS.int IntKind.i64, CS.int IntKind.i64, CS.str] x0 x3)
         (some (decide (intOf (cellAt x0 x3 4) ≤ x2))) none)
       (some false)) (fun y0 =>
    .bi (br y0
        (br (okAt [CS.int IntKind.i64, CS.int IntKind.i64, CS.int IntKind.i64, CS.int IntKind.i64, CS.int IntKind.i64, CS.int IntKind.i64, CS.str] x0 x3)
          (some (decide (x2 ≤ intOf (cellAt x0 x3 5)))) none)
        (some false)) (fun y1 =>
     .br (y1)
      (.br (okAt [CS.int IntKind.i64, CS.int IntKind.i64, CS.int IntKind.i64, CS.int IntKind.i64, CS.int IntKind.i64, CS.int IntKind.i64, CS.str] x0 x3)
       (.at (.next ((.inr (x0, x1, x2, IntKind.i64.wrap (x3 + 1), [AV.agg
    [AV.int IntKind.i64 (intOf (cellAt x0 x3 0)), AV.int IntKind.i64 (intOf (cellAt x0 x3 1)), AV.int IntKind.i64 (intOf (cellAt x0 x3 2)),
      AV.int IntKind.i64 (intOf (cellAt x0 x3 3)), AV.int IntKind.i64 (intOf (cellAt x0 x3 4)), AV.int IntKind.i64 (intOf (cellAt x0 x3 5)), AV.str (strOf (cellAt x0 x3 6))]])))))
       (.no))
      (.at (.next ((.inl (x0, x1, x2, IntKind.i64.wrap (x3 + 1)))))))
     (.no))
    (.no))
   (.no))
  (.at (.done 0))
noncomputable def st19_0_1 (x0 : List AV) (x1 : Int) (x2 : Int) (x3 : Int) (x4 : List AV) : DT (Rd TT19_0) :=
 .br (decide (x3 < (↑x0.length : Int)))
  (.br (okAt [CS.int IntKind.i64, CS.int IntKind.i64, CS.int IntKind.i64, CS.int IntKind.i64, CS.int IntKind.i64, CS.int IntKind.i64, CS.str] x0 x3)
   (.bi (br (intOf (cellAt x0 x3 1) == x1)
       (br (okAt [CS.int IntKind.i64, CS.int IntKind.i64, CS.int IntKind.i64, CS.int IntKind.i64, CS.int IntKind.i64, CS.int IntKind.i64, CS.str] x0 x3)
         (some (decide (intOf (cellAt x0 x3 4) ≤ x2))) none)
       (some false)) (fun y0 =>
    .bi (br y0
        (br (okAt [CS.int IntKind.i64, CS.int IntKind.i64, CS.int IntKind.i64, CS.int IntKind.i64, CS.int IntKind.i64, CS.int IntKind.i64, CS.str] x0 x3)
          (some (decide (x2 ≤ intOf (cellAt x0 x3 5)))) none)
        (some false)) (fun y1 =>
     .br (y1)
      (.br (okAt [CS.int IntKind.i64, CS.int IntKind.i64, CS.int IntKind.i64, CS.int IntKind.i64, CS.int IntKind.i64, CS.int IntKind.i64, CS.str] x0 x3)
       (.br (room (x4.length + 1) 64)
        (.at (.next ((.inr (x0, x1, x2, IntKind.i64.wrap (x3 + 1), x4 ++
  [AV.agg
      [AV.int IntKind.i64 (intOf (cellAt x0 x3 0)), AV.int IntKind.i64 (intOf (cellAt x0 x3 1)), AV.int IntKind.i64 (intOf (cellAt x0 x3 2)),
        AV.int IntKind.i64 (intOf (cellAt x0 x3 3)), AV.int IntKind.i64 (intOf (cellAt x0 x3 4)), AV.int IntKind.i64 (intOf (cellAt x0 x3 5)), AV.str (strOf (cellAt x0 x3 6))]])))))
        (.no))
       (.no))
      (.at (.next ((.inr (x0, x1, x2, IntKind.i64.wrap (x3 + 1), x4))))))
     (.no))
    (.no))
   (.no))
  (.at (.done 1))
noncomputable def st19_0 : TT19_0 → DT (Rd TT19_0) := (Sum.elim (fun v => st19_0_0 v.1 v.2.1 v.2.2.1 v.2.2.2) (fun v => st19_0_1 v.1 v.2.1 v.2.2.1 v.2.2.2.1 v.2.2.2.2))
noncomputable def T19_0 : Tab := [(29, cloneE 7 64)]
theorem T19_0_ok : TabOk IP (T19_0) := ⟨sp29, trivial⟩
noncomputable def L19_0 : LTab := []
theorem L19_0_ok : LOk IP (L19_0) (loops (loopAt F19 0).2) := LOk_of (l := []) (by kernel_rfl) trivial
theorem b19_0_0 (v : List AV × Int × Int × Int) : execK (R := Rx TT19_0) IP (callT (T19_0)) (loopT (L19_0)) (loopAt F19 0).2 (h19_0_0 v) (endK (loopAt F19 0).1 d19_0) = (cvD (fun j => x19_0 j (.inl v)) (st19_0_0 v.1 v.2.1 v.2.2.1 v.2.2.2)).ev := by kernel_rfl
theorem b19_0_1 (v : List AV × Int × Int × Int × List AV) : execK (R := Rx TT19_0) IP (callT (T19_0)) (loopT (L19_0)) (loopAt F19 0).2 (h19_0_1 v) (endK (loopAt F19 0).1 d19_0) = (cvD (fun j => x19_0 j (.inr v)) (st19_0_1 v.1 v.2.1 v.2.2.1 v.2.2.2.1 v.2.2.2.2)).ev := by kernel_rfl
noncomputable def l19_0 (v : TT19_0) : Option (Nat × TT19_0) := lock (iterO (fun v => (st19_0 v).ev) v)
theorem l19_0_eq (v : TT19_0) : l19_0 v = iterO (fun v => (st19_0 v).ev) v := lock_eq _
noncomputable def ll19_0 : LEnt := lEnt d19_0 (l19_0) (x19_0) 2
theorem t19_0 : Go.Eng.Told IP (loopAt F19 0).1 (loopAt F19 0).2 (ll19_0) := loop_of (st := st19_0) (T19_0_ok) (L19_0_ok) d19_0_ok (fun v => match v with | (.inl v) => n19_0_0 v | (.inr v) => n19_0_1 v) (e19_0) (fun v => match v with | (.inl v) => b19_0_0 v | (.inr v) => b19_0_1 v) (l19_0_eq)

-- f19: 
abbrev A19 : Type := List AV × Int × Int
abbrev B19 : Type := List AV
def pa19 : PArgs := ⟨[.view 7, .int .i64, .int .i64], []⟩
def to19 (ls : List Lf) : Option A19 := eatL ls fun x0 ls => eatI ls fun x1 ls => eatI ls fun x2 ls => eat0 ls (x0, x1, x2)
def ea19 (v : A19) : List AV × Heap := ([.view 7 v.1, .int .i64 v.2.1, .int .i64 v.2.2], [])
def er19_0 (v : List AV) : Res × Heap := (.ret (.view 7 v), [])
def er19 : B19 → Res × Heap := er19_0
def en19 : Option B19 → List (Bool × Res × Heap) := (E1 er19_0)
def rd19 : Res → Heap → Option B19 := rDec ⟨false, .view 7, []⟩ (fun ls => eatL ls fun x0 ls => eat0 ls x0) (rNo)
theorem to19_ok : ∀ ls v, to19 ls = some v → fArgs pa19 ls = ea19 v := by
  intro ls v h0
  unfold to19 at h0
  obtain ⟨x0, ls0, rfl, h1⟩ := eatL_some h0
  obtain ⟨x1, ls1, rfl, h2⟩ := eatI_some h1
  obtain ⟨x2, ls2, rfl, h3⟩ := eatI_some h2
  obtain ⟨rfl, rfl⟩ := eat0_some h3
  rfl
theorem rd19_ok : ∀ r h y, rd19 r h = some y → (r, h) = er19 y := rDec_ok (by
  intro ls v h0
  obtain ⟨x0, ls0, rfl, h1⟩ := eatL_some h0
  obtain ⟨rfl, rfl⟩ := eat0_some h1
  rfl
) (rNo_ok)
noncomputable def g19 (G : (List AV) → Int → Int → Option B19) : Ent := fEnt pa19 to19 (fun v => G v.1 v.2.1 v.2.2) en19
theorem g19_ok (G : (List AV) → Int → Int → Option B19) (hG : ∀ v y, G v.1 v.2.1 v.2.2 = some y → callO IP 19 (ea19 v).1 (ea19 v).2 = some (er19 y)) : Snd IP 19 (g19 G) := fEnt_ok to19_ok E1_ok hG
noncomputable def tr19 (x0 : List AV) (x1 : Int) (x2 : Int) : DT B19 :=
 .bi (pj 0 (l19_0 (Sum.inl (x0, x1, x2, 0)))) (fun y0 =>
  .at ([]))
  (.bi (pj 1 (l19_0 (Sum.inl (x0, x1, x2, 0)))) (fun y0 =>
   .at ((sr y0).snd.snd.snd.snd))
   (.no))
noncomputable def T19 : Tab := [(29, cloneE 7 64)]
theorem T19_ok : TabOk IP (T19) := ⟨sp29, trivial⟩
noncomputable def L19 : LTab := [(1001900, ll19_0)]
theorem L19_ok : LOk IP (L19) (loops F19.body) := LOk_of (l := [loopAt F19 0]) (by kernel_rfl) ⟨sel_one (by kernel_rfl) t19_0, trivial⟩
theorem b19 (v : A19) : bodyK (R := B19) IP (callT (T19)) (loopT (L19)) 19 F19 (ea19 v).1 (ea19 v).2 rd19 = (tr19 v.1 v.2.1 v.2.2).ev := by kernel_rfl
/--  -/
noncomputable def f19 (x0 : List AV) (x1 : Int) (x2 : Int) : Option B19 := lock (tr19 x0 x1 x2).ev
theorem f19_eq (x0 : List AV) (x1 : Int) (x2 : Int) : f19 x0 x1 x2 = (tr19 x0 x1 x2).ev := lock_eq _
theorem c19 : ∀ v y, f19 v.1 v.2.1 v.2.2 = some y → callO IP 19 (ea19 v).1 (ea19 v).2 = some (er19 y) := fun v y h => fun_of T19_ok (by kernel_rfl) L19_ok rd19_ok (b19 v) ((f19_eq v.1 v.2.1 v.2.2).symm.trans h)
theorem s19 : Snd IP 19 (g19 f19) := g19_ok f19 c19

-- f37: 
abbrev A37 : Type := Int × Int × Int × Int × Int × Int × List UInt8
abbrev B37 : Type := (Unit) ⊕ (Unit) ⊕ (Unit) ⊕ (Int) ⊕ (Unit)
def pa37 : PArgs := ⟨[.agg [.int .i64, .int .i64, .int .i64, .int .i64, .int .i64, .int .i64, .str]], []⟩
def to37 (ls : List Lf) : Option A37 := eatI ls fun x0 ls => eatI ls fun x1 ls => eatI ls fun x2 ls => eatI ls fun x3 ls => eatI ls fun x4 ls => eatI ls fun x5 ls => eatS ls fun x6 ls => eat0 ls (x0, x1, x2, x3, x4, x5, x6)
def ea37 (v : A37) : List AV × Heap := ([.agg [.int .i64 v.1, .int .i64 v.2.1, .int .i64 v.2.2.1, .int .i64 v.2.2.2.1, .int .i64 v.2.2.2.2.1, .int .i64 v.2.2.2.2.2.1, .str v.2.2.2.2.2.2]], [])
def er37_0 (v : Unit) : Res × Heap := (.ret (.iface 55 (.agg [])), [])
def er37_1 (v : Unit) : Res × Heap := (.ret (.iface 56 (.agg [])), [])
def er37_2 (v : Unit) : Res × Heap := (.ret (.iface 57 (.agg [])), [])
def er37_3 (v : Int) : Res × Heap := (.ret (.iface 51 (.agg [.int .i64 v])), [])
def er37_4 (v : Unit) : Res × Heap := (.ret (.iface 58 (.agg [])), [])
def er37 : B37 → Res × Heap := (Sum.elim er37_0 (Sum.elim er37_1 (Sum.elim er37_2 (Sum.elim er37_3 er37_4))))
def en37 : Option B37 → List (Bool × Res × Heap) := (E2 er37_0 (E2 er37_1 (E2 er37_2 (E2 er37_3 (E1 er37_4)))))
def rd37 : Res → Heap → Option B37 := rDec ⟨false, .iface 55 (.agg []), []⟩ (fun ls => eat0 ls (.inl ())) (rDec ⟨false, .iface 56 (.agg []), []⟩ (fun ls => eat0 ls (.inr (.inl ()))) (rDec ⟨false, .iface 57 (.agg []), []⟩ (fun ls => eat0 ls (.inr (.inr (.inl ())))) (rDec ⟨false, .iface 51 (.agg [.int .i64]), []⟩ (fun ls => eatI ls fun x0 ls => eat0 ls (.inr (.inr (.inr (.inl x0))))) (rDec ⟨false, .iface 58 (.agg []), []⟩ (fun ls => eat0 ls (.inr (.inr (.inr (.inr ()))))) (rNo)))))
theorem to37_ok : ∀ ls v, to37 ls = some v → fArgs pa37 ls = ea37 v := by
  intro ls v h0
  unfold to37 at h0
  obtain ⟨x0, ls0, rfl, h1⟩ := eatI_some h0
  obtain ⟨x1, ls1, rfl, h2⟩ := eatI_some h1
  obtain ⟨x2, ls2, rfl, h3⟩ := eatI_some h2
  obtain ⟨x3, ls3, rfl, h4⟩ := eatI_some h3
  obtain ⟨x4, ls4, rfl, h5⟩ := eatI_some h4
  obtain ⟨x5, ls5, rfl, h6⟩ := eatI_some h5
  obtain ⟨x6, ls6, rfl, h7⟩ := eatS_some h6
  obtain ⟨rfl, rfl⟩ := eat0_some h7
  rfl
theorem rd37_ok : ∀ r h y, rd37 r h = some y → (r, h) = er37 y := rDec_ok (by
  intro ls v h0
  obtain ⟨rfl, rfl⟩ := eat0_some h0
  rfl
) (rDec_ok (by
  intro ls v h0
  obtain ⟨rfl, rfl⟩ := eat0_some h0
  rfl
) (rDec_ok (by
  intro ls v h0
  obtain ⟨rfl, rfl⟩ := eat0_some h0
  rfl
) (rDec_ok (by
  intro ls v h0
  obtain ⟨x0, ls0, rfl, h1⟩ := eatI_some h0
  obtain ⟨rfl, rfl⟩ := eat0_some h1
  rfl
) (rDec_ok (by
  intro ls v h0
  obtain ⟨rfl, rfl⟩ := eat0_some h0
  rfl
) (rNo_ok)))))
noncomputable def g37 (G : Int → Int → Int → Int → Int → Int → (List UInt8) → Option B37) : Ent := fEnt pa37 to37 (fun v => G v.1 v.2.1 v.2.2.1 v.2.2.2.1 v.2.2.2.2.1 v.2.2.2.2.2.1 v.2.2.2.2.2.2) en37
theorem g37_ok (G : Int → Int → Int → Int → Int → Int → (List UInt8) → Option B37) (hG : ∀ v y, G v.1 v.2.1 v.2.2.1 v.2.2.2.1 v.2.2.2.2.1 v.2.2.2.2.2.1 v.2.2.2.2.2.2 = some y → callO IP 37 (ea37 v).1 (ea37 v).2 = some (er37 y)) : Snd IP 37 (g37 G) := fEnt_ok to37_ok (E2_ok (E2_ok (E2_ok (E2_ok E1_ok)))) hG
noncomputable def tr37 (x0 : Int) (x1 : Int) (x2 : Int) (x3 : Int) (x4 : Int) (x5 : Int) (x6 : List UInt8) : DT B37 :=
 .br (x2 == 1)
  (.at ((.inl ())))
  (.br (x2 == 2)
   (.at ((.inr (.inl ()))))
   (.br (x2 == 3)
    (.at ((.inr (.inr (.inl ())))))
    (.br (x2 == 4) (.at ((.inr (.inr (.inr (.inl (x3))))))) (.at ((.inr (.inr (.inr (.inr ())))))))))
noncomputable def T37 : Tab := [(29, cloneE 7 64)]
theorem T37_ok : TabOk IP (T37) := ⟨sp29, trivial⟩
noncomputable def L37 : LTab := []
theorem L37_ok : LOk IP (L37) (loops F37.body) := LOk_of (l := []) (by kernel_rfl) trivial
theorem b37 (v : A37) : bodyK (R := B37) IP (callT (T37)) (loopT (L37)) 37 F37 (ea37 v).1 (ea37 v).2 rd37 = (tr37 v.1 v.2.1 v.2.2.1 v.2.2.2.1 v.2.2.2.2.1 v.2.2.2.2.2.1 v.2.2.2.2.2.2).ev := by kernel_rfl
/--  -/
noncomputable def f37 (x0 : Int) (x1 : Int) (x2 : Int) (x3 : Int) (x4 : Int) (x5 : Int) (x6 : List UInt8) : Option B37 := lock (tr37 x0 x1 x2 x3 x4 x5 x6).ev
theorem f37_eq (x0 : Int) (x1 : Int) (x2 : Int) (x3 : Int) (x4 : Int) (x5 : Int) (x6 : List UInt8) : f37 x0 x1 x2 x3 x4 x5 x6 = (tr37 x0 x1 x2 x3 x4 x5 x6).ev := lock_eq _
theorem c37 : ∀ v y, f37 v.1 v.2.1 v.2.2.1 v.2.2.2.1 v.2.2.2.2.1 v.2.2.2.2.2.1 v.2.2.2.2.2.2 = some y → callO IP 37 (ea37 v).1 (ea37 v).2 = some (er37 y) := fun v y h => fun_of T37_ok (by kernel_rfl) L37_ok rd37_ok (b37 v) ((f37_eq v.1 v.2.1 v.2.2.1 v.2.2.2.1 v.2.2.2.2.1 v.2.2.2.2.2.1 v.2.2.2.2.2.2).symm.trans h)
theorem s37 : Snd IP 37 (g37 f37) := g37_ok f37 c37

-- f36: 
abbrev A36 : Type := Int × Int × Int × Int × Int × Int × List UInt8 × Int
abbrev B36 : Type := Bool
def pa36 : PArgs := ⟨[.agg [.int .i64, .int .i64, .int .i64, .int .i64, .int .i64, .int .i64, .str], .int .i64], []⟩
def to36 (ls : List Lf) : Option A36 := eatI ls fun x0 ls => eatI ls fun x1 ls => eatI ls fun x2 ls => eatI ls fun x3 ls => eatI ls fun x4 ls => eatI ls fun x5 ls => eatS ls fun x6 ls => eatI ls fun x7 ls => eat0 ls (x0, x1, x2, x3, x4, x5, x6, x7)
def ea36 (v : A36) : List AV × Heap := ([.agg [.int .i64 v.1, .int .i64 v.2.1, .int .i64 v.2.2.1, .int .i64 v.2.2.2.1, .int .i64 v.2.2.2.2.1, .int .i64 v.2.2.2.2.2.1, .str v.2.2.2.2.2.2.1], .int .i64 v.2.2.2.2.2.2.2], [])
def er36_0 (v : Bool) : Res × Heap := (.ret (.bool v), [])
def er36 : B36 → Res × Heap := er36_0
def en36 : Option B36 → List (Bool × Res × Heap) := (E1 er36_0)
def rd36 : Res → Heap → Option B36 := rDec ⟨false, .bool, []⟩ (fun ls => eatB ls fun x0 ls => eat0 ls x0) (rNo)
theorem to36_ok : ∀ ls v, to36 ls = some v → fArgs pa36 ls = ea36 v := by
  intro ls v h0
  unfold to36 at h0
  obtain ⟨x0, ls0, rfl, h1⟩ := eatI_some h0
  obtain ⟨x1, ls1, rfl, h2⟩ := eatI_some h1
  obtain ⟨x2, ls2, rfl, h3⟩ := eatI_some h2
  obtain ⟨x3, ls3, rfl, h4⟩ := eatI_some h3
  obtain ⟨x4, ls4, rfl, h5⟩ := eatI_some h4
  obtain ⟨x5, ls5, rfl, h6⟩ := eatI_some h5
  obtain ⟨x6, ls6, rfl, h7⟩ := eatS_some h6
  obtain ⟨x7, ls7, rfl, h8⟩ := eatI_some h7
  obtain ⟨rfl, rfl⟩ := eat0_some h8
  rfl
theorem rd36_ok : ∀ r h y, rd36 r h = some y → (r, h) = er36 y := rDec_ok (by
  intro ls v h0
  obtain ⟨x0, ls0, rfl, h1⟩ := eatB_some h0
  obtain ⟨rfl, rfl⟩ := eat0_some h1
  rfl
) (rNo_ok)
noncomputable def g36 (G : Int → Int → Int → Int → Int → Int → (List UInt8) → Int → Option B36) : Ent := fEnt pa36 to36 (fun v => G v.1 v.2.1 v.2.2.1 v.2.2.2.1 v.2.2.2.2.1 v.2.2.2.2.2.1 v.2.2.2.2.2.2.1 v.2.2.2.2.2.2.2) en36
theorem g36_ok (G : Int → Int → Int → Int → Int → Int → (List UInt8) → Int → Option B36) (hG : ∀ v y, G v.1 v.2.1 v.2.2.1 v.2.2.2.1 v.2.2.2.2.1 v.2.2.2.2.2.1 v.2.2.2.2.2.2.1 v.2.2.2.2.2.2.2 = some y → callO IP 36 (ea36 v).1 (ea36 v).2 = some (er36 y)) : Snd IP 36 (g36 G) := fEnt_ok to36_ok E1_ok hG
noncomputable def tr36 (x0 : Int) (x1 : Int) (x2 : Int) (x3 : Int) (x4 : Int) (x5 : Int) (x6 : List UInt8) (x7 : Int) : DT B36 :=
 .bi (pl (f37 x0 x1 x2 x3 x4 x5 x6)) (fun y0 =>
  .at (true))
  (.bi (pl (pr (f37 x0 x1 x2 x3 x4 x5 x6))) (fun y0 =>
   .at (decide (x7 > 0)))
   (.bi (pl (pr (pr (f37 x0 x1 x2 x3 x4 x5 x6)))) (fun y0 =>
    .at (decide (x7 < 0)))
    (.bi (pl (pr (pr (pr (f37 x0 x1 x2 x3 x4 x5 x6))))) (fun y0 =>
     .at (false))
     (.bi (pr (pr (pr (pr (f37 x0 x1 x2 x3 x4 x5 x6))))) (fun y0 =>
      .at (false))
      (.no)))))
noncomputable def T36 : Tab := [(29, cloneE 7 64), (37, g37 f37)]
theorem T36_ok : TabOk IP (T36) := ⟨sp29, s37, trivial⟩
noncomputable def L36 : LTab := []
theorem L36_ok : LOk IP (L36) (loops F36.body) := LOk_of (l := []) (by kernel_rfl) trivial
theorem b36 (v : A36) : bodyK (R := B36) IP (callT (T36)) (loopT (L36)) 36 F36 (ea36 v).1 (ea36 v).2 rd36 = (tr36 v.1 v.2.1 v.2.2.1 v.2.2.2.1 v.2.2.2.2.1 v.2.2.2.2.2.1 v.2.2.2.2.2.2.1 v.2.2.2.2.2.2.2).ev := by kernel_rfl
/--  -/
noncomputable def f36 (x0 : Int) (x1 : Int) (x2 : Int) (x3 : Int) (x4 : Int) (x5 : Int) (x6 : List UInt8) (x7 : Int) : Option B36 := lock (tr36 x0 x1 x2 x3 x4 x5 x6 x7).ev
theorem f36_eq (x0 : Int) (x1 : Int) (x2 : Int) (x3 : Int) (x4 : Int) (x5 : Int) (x6 : List UInt8) (x7 : Int) : f36 x0 x1 x2 x3 x4 x5 x6 x7 = (tr36 x0 x1 x2 x3 x4 x5 x6 x7).ev := lock_eq _
theorem c36 : ∀ v y, f36 v.1 v.2.1 v.2.2.1 v.2.2.2.1 v.2.2.2.2.1 v.2.2.2.2.2.1 v.2.2.2.2.2.2.1 v.2.2.2.2.2.2.2 = some y → callO IP 36 (ea36 v).1 (ea36 v).2 = some (er36 y) := fun v y h => fun_of T36_ok (by kernel_rfl) L36_ok rd36_ok (b36 v) ((f36_eq v.1 v.2.1 v.2.2.1 v.2.2.2.1 v.2.2.2.2.1 v.2.2.2.2.2.1 v.2.2.2.2.2.2.1 v.2.2.2.2.2.2.2).symm.trans h)
theorem s36 : Snd IP 36 (g36 f36) := g36_ok f36 c36

end Go.Proofs.H23

/- Functions over plain data. Printed by a program of mine. -/
import Derived.Test.YtpoebijgpbaccaaD53_7
import Derived.KernelRfl
set_option linter.unusedVariables false
set_option linter.unusedSimpArgs false
set_option linter.unnecessarySimpa false
namespace Go.Proofs.H53
open Go Go.Eng
set_option maxRecDepth 100000

-- l5_0: loop 0 of function 5
abbrev TT5_0 : Type := List AV × Int
def h5_0_0 (v : List AV × Int) : St := ⟨[(1000500, .junk), (7, .view 10 v.1), (11, .int .i64 v.2)], [], 0, 0⟩
def h5_0 : TT5_0 → St := (fun v => h5_0_0 v)
def d5_0 : St → Option TT5_0 := sDec ⟨[(1000500, .junk), (7, .view 10), (11, .int .i64)], [], 0, 0⟩ (fun ls => eatL ls fun x0 ls => eatI ls fun x1 ls => eat0 ls (x0, x1)) (sNo)
theorem d5_0_ok : ∀ s v, d5_0 s = some v → s = h5_0 v := sDec_ok (by
  intro ls v h0
  obtain ⟨x0, ls0, rfl, h1⟩ := eatL_some h0
  obtain ⟨x1, ls1, rfl, h2⟩ := eatI_some h1
  obtain ⟨rfl, rfl⟩ := eat0_some h2
  rfl
) (sNo_ok)
theorem n5_0_0 (v : List AV × Int) : norm (hk (loopAt F5 0).1) (h5_0_0 v) = some (h5_0_0 v) := by kernel_rfl
noncomputable def x5_0_0 (x0 : List AV) (x1 : Int) : X × St := (X.ret, { tm := [(6, AV.bool false)], hp := [], nx := 0, k := 0 })
noncomputable def x5_0_1 (x0 : List AV) (x1 : Int) : X × St := (X.exit 0, { tm := [(6, AV.junk)], hp := [], nx := 0, k := 0 })
noncomputable def x5_0 : Nat → TT5_0 → X × St := fun j w => match j with
  | 0 => x5_0_0 w.1 w.2
  | 1 => x5_0_1 w.1 w.2
  | _ => (.ret, ⟨[], [], 0, 0⟩)
theorem e5_0 : ∀ j v, outB (x5_0 j v).1 = true := fun j v => match j with
  | 0 => rfl
  | 1 => rfl
  | _ + 2 => rfl
noncomputable def st5_0_0 (x0 : List AV) (x1 : Int) : DT (Rd TT5_0) :=
 .br (decide (x1 < (↑x0.length : Int)))
  (.br (okAt [CS.int IntKind.i64, CS.int IntKind.i64, CS.int IntKind.i64, CS.int IntKind.i64, CS.int IntKind.i64, CS.int IntKind.i64, CS.str, CS.str, CS.slice 3, CS.int IntKind.u64] x0 x1)
   (.br (okAt [CS.int IntKind.i64, CS.int IntKind.i64, CS.str] (viewOf (cellAt x0 x1 8)) 0)
    (.br (okAt [CS.int IntKind.i64, CS.int IntKind.i64, CS.int IntKind.i64, CS.int IntKind.i64, CS.int IntKind.i64, CS.int IntKind.i64, CS.str, CS.str, CS.slice 3, CS.int IntKind.u64] x0 x1)
     (.br (okAt [CS.int IntKind.i64, CS.int IntKind.i64, CS.str] (viewOf (cellAt x0 x1 8)) 1)
      (.br (IntKind.i64.wrap (intOf (cellAt (viewOf (cellAt x0 x1 8)) 0 1) + intOf (cellAt (viewOf (cellAt x0 x1 8)) 1 1)) != 0)
       (.at (.done 0))
       (.at (.next ((x0, IntKind.i64.wrap (x1 + 1))))))
      (.no))
     (.no))
    (.no))
   (.no))
  (.at (.done 1))
noncomputable def st5_0 : TT5_0 → DT (Rd TT5_0) := (fun v => st5_0_0 v.1 v.2)
noncomputable def T5_0 : Tab := [(34, cloneE 3 24), (35, cloneE 3 32)]
theorem T5_0_ok : TabOk IP (T5_0) := ⟨sp34, sp35, trivial⟩
noncomputable def L5_0 : LTab := []
theorem L5_0_ok : LOk IP (L5_0) (loops (loopAt F5 0).2) := LOk_of (l := []) (by kernel_rfl) trivial
theorem b5_0_0 (v : List AV × Int) : execK (R := Rx TT5_0) IP (callT (T5_0)) (loopT (L5_0)) (loopAt F5 0).2 (h5_0_0 v) (endK (loopAt F5 0).1 d5_0) = (cvD (fun j => x5_0 j v) (st5_0_0 v.1 v.2)).ev := by kernel_rfl
noncomputable def l5_0 (v : TT5_0) : Option (Nat × TT5_0) := lock (iterO (fun v => (st5_0 v).ev) v)
theorem l5_0_eq (v : TT5_0) : l5_0 v = iterO (fun v => (st5_0 v).ev) v := lock_eq _
noncomputable def ll5_0 : LEnt := lEnt d5_0 (l5_0) (x5_0) 2
theorem t5_0 : Go.Eng.Told IP (loopAt F5 0).1 (loopAt F5 0).2 (ll5_0) := loop_of (st := st5_0) (T5_0_ok) (L5_0_ok) d5_0_ok (fun v => n5_0_0 v) (e5_0) (fun v => b5_0_0 v) (l5_0_eq)

-- f5: StandinEntries
abbrev A5 : Type := List AV × List AV × List AV × Int × Int × Int × Int × Int × Int × Int × Int × Int × Int × Int × Int × Int × Int × List AV × List AV × List AV × List AV × List AV × Int × List AV × List AV × Int
abbrev B5 : Type := Bool
def pa5 : PArgs := ⟨[.agg [.view 2, .view 3, .view 4, .int .i64, .int .i64, .int .i64, .int .i64, .int .i64, .int .i64, .int .i64, .int .i64, .int .i64, .int .i64, .int .i64, .int .i64, .int .i64, .int .i64, .view 19, .view 7, .view 10, .view 6, .view 7], .agg [.int .i64, .view 3, .view 3], .int .i64], []⟩
def to5 (ls : List Lf) : Option A5 := eatL ls fun x0 ls => eatL ls fun x1 ls => eatL ls fun x2 ls => eatI ls fun x3 ls => eatI ls fun x4 ls => eatI ls fun x5 ls => eatI ls fun x6 ls => eatI ls fun x7 ls => eatI ls fun x8 ls => eatI ls fun x9 ls => eatI ls fun x10 ls => eatI ls fun x11 ls => eatI ls fun x12 ls => eatI ls fun x13 ls => eatI ls fun x14 ls => eatI ls fun x15 ls => eatI ls fun x16 ls => eatL ls fun x17 ls => eatL ls fun x18 ls => eatL ls fun x19 ls => eatL ls fun x20 ls => eatL ls fun x21 ls => eatI ls fun x22 ls => eatL ls fun x23 ls => eatL ls fun x24 ls => eatI ls fun x25 ls => eat0 ls (x0, x1, x2, x3, x4, x5, x6, x7, x8, x9, x10, x11, x12, x13, x14, x15, x16, x17, x18, x19, x20, x21, x22, x23, x24, x25)
def ea5 (v : A5) : List AV × Heap := ([.agg [.view 2 v.1, .view 3 v.2.1, .view 4 v.2.2.1, .int .i64 v.2.2.2.1, .int .i64 v.2.2.2.2.1, .int .i64 v.2.2.2.2.2.1, .int .i64 v.2.2.2.2.2.2.1, .int .i64 v.2.2.2.2.2.2.2.1, .int .i64 v.2.2.2.2.2.2.2.2.1, .int .i64 v.2.2.2.2.2.2.2.2.2.1, .int .i64 v.2.2.2.2.2.2.2.2.2.2.1, .int .i64 v.2.2.2.2.2.2.2.2.2.2.2.1, .int .i64 v.2.2.2.2.2.2.2.2.2.2.2.2.1, .int .i64 v.2.2.2.2.2.2.2.2.2.2.2.2.2.1, .int .i64 v.2.2.2.2.2.2.2.2.2.2.2.2.2.2.1, .int .i64 v.2.2.2.2.2.2.2.2.2.2.2.2.2.2.2.1, .int .i64 v.2.2.2.2.2.2.2.2.2.2.2.2.2.2.2.2.1, .view 19 v.2.2.2.2.2.2.2.2.2.2.2.2.2.2.2.2.2.1, .view 7 v.2.2.2.2.2.2.2.2.2.2.2.2.2.2.2.2.2.2.1, .view 10 v.2.2.2.2.2.2.2.2.2.2.2.2.2.2.2.2.2.2.2.1, .view 6 v.2.2.2.2.2.2.2.2.2.2.2.2.2.2.2.2.2.2.2.2.1, .view 7 v.2.2.2.2.2.2.2.2.2.2.2.2.2.2.2.2.2.2.2.2.2.1], .agg [.int .i64 v.2.2.2.2.2.2.2.2.2.2.2.2.2.2.2.2.2.2.2.2.2.2.1, .view 3 v.2.2.2.2.2.2.2.2.2.2.2.2.2.2.2.2.2.2.2.2.2.2.2.1, .view 3 v.2.2.2.2.2.2.2.2.2.2.2.2.2.2.2.2.2.2.2.2.2.2.2.2.1], .int .i64 v.2.2.2.2.2.2.2.2.2.2.2.2.2.2.2.2.2.2.2.2.2.2.2.2.2], [])
def er5_0 (v : Bool) : Res × Heap := (.ret (.bool v), [])
def er5 : B5 → Res × Heap := er5_0
def en5 : Option B5 → List (Bool × Res × Heap) := (E1 er5_0)
def rd5 : Res → Heap → Option B5 := rDec ⟨false, .bool, []⟩ (fun ls => eatB ls fun x0 ls => eat0 ls x0) (rNo)
theorem to5_ok : ∀ ls v, to5 ls = some v → fArgs pa5 ls = ea5 v := by
  intro ls v h0
  unfold to5 at h0
  obtain ⟨x0, ls0, rfl, h1⟩ := eatL_some h0
  obtain ⟨x1, ls1, rfl, h2⟩ := eatL_some h1
  obtain ⟨x2, ls2, rfl, h3⟩ := eatL_some h2
  obtain ⟨x3, ls3, rfl, h4⟩ := eatI_some h3
  obtain ⟨x4, ls4, rfl, h5⟩ := eatI_some h4
  obtain ⟨x5, ls5, rfl, h6⟩ := eatI_some h5
  obtain ⟨x6, ls6, rfl, h7⟩ := eatI_some h6
  obtain ⟨x7, ls7, rfl, h8⟩ := eatI_some h7
  obtain ⟨x8, ls8, rfl, h9⟩ := eatI_some h8
  obtain ⟨x9, ls9, rfl, h10⟩ := eatI_some h9
  obtain ⟨x10, ls10, rfl, h11⟩ := eatI_some h10
  obtain ⟨x11, ls11, rfl, h12⟩ := eatI_some h11
  obtain ⟨x12, ls12, rfl, h13⟩ := eatI_some h12
  obtain ⟨x13, ls13, rfl, h14⟩ := eatI_some h13
  obtain ⟨x14, ls14, rfl, h15⟩ := eatI_some h14
  obtain ⟨x15, ls15, rfl, h16⟩ := eatI_some h15
  obtain ⟨x16, ls16, rfl, h17⟩ := eatI_some h16
  obtain ⟨x17, ls17, rfl, h18⟩ := eatL_some h17
  obtain ⟨x18, ls18, rfl, h19⟩ := eatL_some h18
  obtain ⟨x19, ls19, rfl, h20⟩ := eatL_some h19
  obtain ⟨x20, ls20, rfl, h21⟩ := eatL_some h20
  obtain ⟨x21, ls21, rfl, h22⟩ := eatL_some h21
  obtain ⟨x22, ls22, rfl, h23⟩ := eatI_some h22
  obtain ⟨x23, ls23, rfl, h24⟩ := eatL_some h23
  obtain ⟨x24, ls24, rfl, h25⟩ := eatL_some h24
  obtain ⟨x25, ls25, rfl, h26⟩ := eatI_some h25
  obtain ⟨rfl, rfl⟩ := eat0_some h26
  rfl
theorem rd5_ok : ∀ r h y, rd5 r h = some y → (r, h) = er5 y := rDec_ok (by
  intro ls v h0
  obtain ⟨x0, ls0, rfl, h1⟩ := eatB_some h0
  obtain ⟨rfl, rfl⟩ := eat0_some h1
  rfl
) (rNo_ok)
noncomputable def g5 (G : (List AV) → (List AV) → (List AV) → Int → Int → Int → Int → Int → Int → Int → Int → Int → Int → Int → Int → Int → Int → (List AV) → (List AV) → (List AV) → (List AV) → (List AV) → Int → (List AV) → (List AV) → Int → Option B5) : Ent := fEnt pa5 to5 (fun v => G v.1 v.2.1 v.2.2.1 v.2.2.2.1 v.2.2.2.2.1 v.2.2.2.2.2.1 v.2.2.2.2.2.2.1 v.2.2.2.2.2.2.2.1 v.2.2.2.2.2.2.2.2.1 v.2.2.2.2.2.2.2.2.2.1 v.2.2.2.2.2.2.2.2.2.2.1 v.2.2.2.2.2.2.2.2.2.2.2.1 v.2.2.2.2.2.2.2.2.2.2.2.2.1 v.2.2.2.2.2.2.2.2.2.2.2.2.2.1 v.2.2.2.2.2.2.2.2.2.2.2.2.2.2.1 v.2.2.2.2.2.2.2.2.2.2.2.2.2.2.2.1 v.2.2.2.2.2.2.2.2.2.2.2.2.2.2.2.2.1 v.2.2.2.2.2.2.2.2.2.2.2.2.2.2.2.2.2.1 v.2.2.2.2.2.2.2.2.2.2.2.2.2.2.2.2.2.2.1 v.2.2.2.2.2.2.2.2.2.2.2.2.2.2.2.2.2.2.2.1 v.2.2.2.2.2.2.2.2.2.2.2.2.2.2.2.2.2.2.2.2.1 v.2.2.2.2.2.2.2.2.2.2.2.2.2.2.2.2.2.2.2.2.2.1 v.2.2.2.2.2.2.2.2.2.2.2.2.2.2.2.2.2.2.2.2.2.2.1 v.2.2.2.2.2.2.2.2.2.2.2.2.2.2.2.2.2.2.2.2.2.2.2.1 v.2.2.2.2.2.2.2.2.2.2.2.2.2.2.2.2.2.2.2.2.2.2.2.2.1 v.2.2.2.2.2.2.2.2.2.2.2.2.2.2.2.2.2.2.2.2.2.2.2.2.2) en5
theorem g5_ok (G : (List AV) → (List AV) → (List AV) → Int → Int → Int → Int → Int → Int → Int → Int → Int → Int → Int → Int → Int → Int → (List AV) → (List AV) → (List AV) → (List AV) → (List AV) → Int → (List AV) → (List AV) → Int → Option B5) (hG : ∀ v y, G v.1 v.2.1 v.2.2.1 v.2.2.2.1 v.2.2.2.2.1 v.2.2.2.2.2.1 v.2.2.2.2.2.2.1 v.2.2.2.2.2.2.2.1 v.2.2.2.2.2.2.2.2.1 v.2.2.2.2.2.2.2.2.2.1 v.2.2.2.2.2.2.2.2.2.2.1 v.2.2.2.2.2.2.2.2.2.2.2.1 v.2.2.2.2.2.2.2.2.2.2.2.2.1 v.2.2.2.2.2.2.2.2.2.2.2.2.2.1 v.2.2.2.2.2.2.2.2.2.2.2.2.2.2.1 v.2.2.2.2.2.2.2.2.2.2.2.2.2.2.2.1 v.2.2.2.2.2.2.2.2.2.2.2.2.2.2.2.2.1 v.2.2.2.2.2.2.2.2.2.2.2.2.2.2.2.2.2.1 v.2.2.2.2.2.2.2.2.2.2.2.2.2.2.2.2.2.2.1 v.2.2.2.2.2.2.2.2.2.2.2.2.2.2.2.2.2.2.2.1 v.2.2.2.2.2.2.2.2.2.2.2.2.2.2.2.2.2.2.2.2.1 v.2.2.2.2.2.2.2.2.2.2.2.2.2.2.2.2.2.2.2.2.2.1 v.2.2.2.2.2.2.2.2.2.2.2.2.2.2.2.2.2.2.2.2.2.2.1 v.2.2.2.2.2.2.2.2.2.2.2.2.2.2.2.2.2.2.2.2.2.2.2.1 v.2.2.2.2.2.2.2.2.2.2.2.2.2.2.2.2.2.2.2.2.2.2.2.2.1 v.2.2.2.2.2.2.2.2.2.2.2.2.2.2.2.2.2.2.2.2.2.2.2.2.2 = some y → callO IP 5 (ea5 v).1 (ea5 v).2 = some (er5 y)) : Snd IP 5 (g5 G) := fEnt_ok to5_ok E1_ok hG
noncomputable def tr5 (x0 : List AV) (x1 : List AV) (x2 : List AV) (x3 : Int) (x4 : Int) (x5 : Int) (x6 : Int) (x7 : Int) (x8 : Int) (x9 : Int) (x10 : Int) (x11 : Int) (x12 : Int) (x13 : Int) (x14 : Int) (x15 : Int) (x16 : Int) (x17 : List AV) (x18 : List AV) (x19 : List AV) (x20 : List AV) (x21 : List AV) (x22 : Int) (x23 : List AV) (x24 : List AV) (x25 : Int) : DT B5 :=
 .bi (br (decide ((↑x18.length : Int) > 12)) (some true) (some (decide ((↑x17.length : Int) > 30)))) (fun y0 =>
  .bi (br y0 (some true) (br (sm (f7 x22 x23 x24)) (some !gv (f7 x22 x23 x24)) none)) (fun y1 =>
   .br (y1)
    (.bi (f8) (fun y2 =>
     .at (y2))
     (.no))
    (.bi (f16 x0 x1 x2 x3 x4 x5 x6 x7 x8 x9 x10 x11 x12 x13 x14 x15 x16 x17 x18 x19 x20 x21 x22 x23 x24 x25) (fun y2 =>
     .bi (f17 x0 x1 x2 x3 x4 x5 x6 x7 x8 x9 x10 x11 x12 x13 x14 x15 x16 x17 x18 x19 x20 x21 x22 x23 x24 x25) (fun y3 =>
      .bi (f18 y2.fst y3.fst) (fun y4 =>
       .bi (br (!y4) (some true) (some (y2.snd != y3.snd))) (fun y5 =>
        .br (y5)
         (.at (false))
         (.bi (pj 0 (l5_0 (y2.fst, 0))) (fun y6 =>
          .at (false))
          (.bi (pj 1 (l5_0 (y2.fst, 0))) (fun y6 =>
           .bi (f8) (fun y7 =>
            .at (y7))
            (.no))
           (.no))))
        (.no))
       (.no))
      (.no))
     (.no)))
   (.no))
  (.no)
noncomputable def T5 : Tab := [(34, cloneE 3 24), (35, cloneE 3 32), (7, g7 f7), (8, g8 f8), (16, g16 f16), (17, g17 f17), (18, g18 f18)]
theorem T5_ok : TabOk IP (T5) := ⟨sp34, sp35, s7, s8, s16, s17, s18, trivial⟩
noncomputable def L5 : LTab := [(1000500, ll5_0)]
theorem L5_ok : LOk IP (L5) (loops F5.body) := LOk_of (l := [loopAt F5 0]) (by kernel_rfl) ⟨sel_one (by kernel_rfl) t5_0, trivial⟩
theorem b5 (v : A5) : bodyK (R := B5) IP (callT (T5)) (loopT (L5)) 5 F5 (ea5 v).1 (ea5 v).2 rd5 = (tr5 v.1 v.2.1 v.2.2.1 v.2.2.2.1 v.2.2.2.2.1 v.2.2.2.2.2.1 v.2.2.2.2.2.2.1 v.2.2.2.2.2.2.2.1 v.2.2.2.2.2.2.2.2.1 v.2.2.2.2.2.2.2.2.2.1 v.2.2.2.2.2.2.2.2.2.2.1 v.2.2.2.2.2.2.2.2.2.2.2.1 v.2.2.2.2.2.2.2.2.2.2.2.2.1 v.2.2.2.2.2.2.2.2.2.2.2.2.2.1 v.2.2.2.2.2.2.2.2.2.2.2.2.2.2.1 v.2.2.2.2.2.2.2.2.2.2.2.2.2.2.2.1 v.2.2.2.2.2.2.2.2.2.2.2.2.2.2.2.2.1 v.2.2.2.2.2.2.2.2.2.2.2.2.2.2.2.2.2.1 v.2.2.2.2.2.2.2.2.2.2.2.2.2.2.2.2.2.2.1 v.2.2.2.2.2.2.2.2.2.2.2.2.2.2.2.2.2.2.2.1 v.2.2.2.2.2.2.2.2.2.2.2.2.2.2.2.2.2.2.2.2.1 v.2.2.2.2.2.2.2.2.2.2.2.2.2.2.2.2.2.2.2.2.2.1 v.2.2.2.2.2.2.2.2.2.2.2.2.2.2.2.2.2.2.2.2.2.2.1 v.2.2.2.2.2.2.2.2.2.2.2.2.2.2.2.2.2.2.2.2.2.2.2.1 v.2.2.2.2.2.2.2.2.2.2.2.2.2.2.2.2.2.2.2.2.2.2.2.2.1 v.2.2.2.2.2.2.2.2.2.2.2.2.2.2.2.2.2.2.2.2.2.2.2.2.2).ev := by kernel_rfl
/-- StandinEntries -/
noncomputable def f5 (x0 : List AV) (x1 : List AV) (x2 : List AV) (x3 : Int) (x4 : Int) (x5 : Int) (x6 : Int) (x7 : Int) (x8 : Int) (x9 : Int) (x10 : Int) (x11 : Int) (x12 : Int) (x13 : Int) (x14 : Int) (x15 : Int) (x16 : Int) (x17 : List AV) (x18 : List AV) (x19 : List AV) (x20 : List AV) (x21 : List AV) (x22 : Int) (x23 : List AV) (x24 : List AV) (x25 : Int) : Option B5 := lock (tr5 x0 x1 x2 x3 x4 x5 x6 x7 x8 x9 x10 x11 x12 x13 x14 x15 x16 x17 x18 x19 x20 x21 x22 x23 x24 x25).ev
theorem f5_eq (x0 : List AV) (x1 : List AV) (x2 : List AV) (x3 : Int) (x4 : Int) (x5 : Int) (x6 : Int) (x7 : Int) (x8 : Int) (x9 : Int) (x10 : Int) (x11 : Int) (x12 : Int) (x13 : Int) (x14 : Int) (x15 : Int) (x16 : Int) (x17 : List AV) (x18 : List AV) (x19 : List AV) (x20 : List AV) (x21 : List AV) (x22 : Int) (x23 : List AV) (x24 : List AV) (x25 : Int) : f5 x0 x1 x2 x3 x4 x5 x6 x7 x8 x9 x10 x11 x12 x13 x14 x15 x16 x17 x18 x19 x20 x21 x22 x23 x24 x25 = (tr5 x0 x1 x2 x3 x4 x5 x6 x7 x8 x9 x10 x11 x12 x13 x14 x15 x16 x17 x18 x19 x20 x21 x22 x23 x24 x25).ev := lock_eq _
theorem c5 : ∀ v y, f5 v.1 v.2.1 v.2.2.1 v.2.2.2.1 v.2.2.2.2.1 v.2.2.2.2.2.1 v.2.2.2.2.2.2.1 v.2.2.2.2.2.2.2.1 v.2.2.2.2.2.2.2.2.1 v.2.2.2.2.2.2.2.2.2.1 v.2.2.2.2.2.2.2.2.2.2.1 v.2.2.2.2.2.2.2.2.2.2.2.1 v.2.2.2.2.2.2.2.2.2.2.2.2.1 v.2.2.2.2.2.2.2.2.2.2.2.2.2.1 v.2.2.2.2.2.2.2.2.2.2.2.2.2.2.1 v.2.2.2.2.2.2.2.2.2.2.2.2.2.2.2.1 v.2.2.2.2.2.2.2.2.2.2.2.2.2.2.2.2.1 v.2.2.2.2.2.2.2.2.2.2.2.2.2.2.2.2.2.1 v.2.2.2.2.2.2.2.2.2.2.2.2.2.2.2.2.2.2.1 v.2.2.2.2.2.2.2.2.2.2.2.2.2.2.2.2.2.2.2.1 v.2.2.2.2.2.2.2.2.2.2.2.2.2.2.2.2.2.2.2.2.1 v.2.2.2.2.2.2.2.2.2.2.2.2.2.2.2.2.2.2.2.2.2.1 v.2.2.2.2.2.2.2.2.2.2.2.2.2.2.2.2.2.2.2.2.2.2.1 v.2.2.2.2.2.2.2.2.2.2.2.2.2.2.2.2.2.2.2.2.2.2.2.1 v.2.2.2.2.2.2.2.2.2.2.2.2.2.2.2.2.2.2.2.2.2.2.2.2.1 v.2.2.2.2.2.2.2.2.2.2.2.2.2.2.2.2.2.2.2.2.2.2.2.2.2 = some y → callO IP 5 (ea5 v).1 (ea5 v).2 = some (er5 y) := fun v y h => fun_of T5_ok (by kernel_rfl) L5_ok rd5_ok (b5 v) ((f5_eq v.1 v.2.1 v.2.2.1 v.2.2.2.1 v.2.2.2.2.1 v.2.2.2.2.2.1 v.2.2.2.2.2.2.1 v.2.2.2.2.2.2.2.1 v.2.2.2.2.2.2.2.2.1 v.2.2.2.2.2.2.2.2.2.1 v.2.2.2.2.2.2.2.2.2.2.1 v.2.2.2.2.2.2.2.2.2.2.2.1 v.2.2.2.2.2.2.2.2.2.2.2.2.1 v.2.2.2.2.2.2.2.2.2.2.2.2.2.1 v.2.2.2.2.2.2.2.2.2.2.2.2.2.2.1 v.2.2.2.2.2.2.2.2.2.2.2.2.2.2.2.1 v.2.2.2.2.2.2.2.2.2.2.2.2.2.2.2.2.1 v.2.2.2.2.2.2.2.2.2.2.2.2.2.2.2.2.2.1 v.2.2.2.2.2.2.2.2.2.2.2.2.2.2.2.2.2.2.1 v.2.2.2.2.2.2.2.2.2.2.2.2.2.2.2.2.2.2.2.1 v.2.2.2.2.2.2.2.2.2.2.2.2.2.2.2.2.2.2.2.2.1 v.2.2.2.2.2.2.2.2.2.2.2.2.2.2.2.2.2.2.2.2.2.1 v.2.2.2.2.2.2.2.2.2.2.2.2.2.2.2.2.2.2.2.2.2.2.1 v.2.2.2.2.2.2.2.2.2.2.2.2.2.2.2.2.2.2.2.2.2.2.2.1 v.2.2.2.2.2.2.2.2.2.2.2.2.2.2.2.2.2.2.2.2.2.2.2.2.1 v.2.2.2.2.2.2.2.2.2.2.2.2.2.2.2.2.2.2.2.2.2.2.2.2.2).symm.trans h)
theorem s5 : Snd IP 5 (g5 f5) := g5_ok f5 c5

-- l6_0: loop 0 of function 6
abbrev TT6_0 : Type := List AV × Int × Int × List AV × List AV × Int × List AV × List AV
def h6_0_0 (v : List AV × Int × Int × List AV × List AV × Int × List AV × List AV) : St := ⟨[(1000600, .junk), (1, .view 3 v.1), (2, .ref 0 0 0), (5, .ref 1 0 0), (6, .int .i64 v.2.1)], [(0, .box [.int .i64 v.2.2.1, .view 3 v.2.2.2.1, .view 3 v.2.2.2.2.1] false), (1, .box [.int .i64 v.2.2.2.2.2.1, .view 3 v.2.2.2.2.2.2.1, .view 3 v.2.2.2.2.2.2.2] false)], 2, 0⟩
def h6_0 : TT6_0 → St := (fun v => h6_0_0 v)
def d6_0 : St → Option TT6_0 := sDec ⟨[(1000600, .junk), (1, .view 3), (2, .ref 0 0 0), (5, .ref 1 0 0), (6, .int .i64)], [(0, .box [.int .i64, .view 3, .view 3] false), (1, .box [.int .i64, .view 3, .view 3] false)], 2, 0⟩ (fun ls => eatL ls fun x0 ls => eatI ls fun x1 ls => eatI ls fun x2 ls => eatL ls fun x3 ls => eatL ls fun x4 ls => eatI ls fun x5 ls => eatL ls fun x6 ls => eatL ls fun x7 ls => eat0 ls (x0, x1, x2, x3, x4, x5, x6, x7)) (sNo)
theorem d6_0_ok : ∀ s v, d6_0 s = some v → s = h6_0 v := sDec_ok (by
  intro ls v h0
  obtain ⟨x0, ls0, rfl, h1⟩ := eatL_some h0
  obtain ⟨x1, ls1, rfl, h2⟩ := eatI_some h1
  obtain ⟨x2, ls2, rfl, h3⟩ := eatI_some h2
  obtain ⟨x3, ls3, rfl, h4⟩ := eatL_some h3
  obtain ⟨x4, ls4, rfl, h5⟩ := eatL_some h4
  obtain ⟨x5, ls5, rfl, h6⟩ := eatI_some h5
  obtain ⟨x6, ls6, rfl, h7⟩ := eatL_some h6
  obtain ⟨x7, ls7, rfl, h8⟩ := eatL_some h7
  obtain ⟨rfl, rfl⟩ := eat0_some h8
  rfl
) (sNo_ok)
theorem n6_0_0 (v : List AV × Int × Int × List AV × List AV × Int × List AV × List AV) : norm (hk (loopAt F6 0).1) (h6_0_0 v) = some (h6_0_0 v) := by kernel_rfl
noncomputable def x6_0_0 (x0 : List AV) (x1 : Int) (x2 : Int) (x3 : List AV) (x4 : List AV) (x5 : Int) (x6 : List AV) (x7 : List AV) : X × St := (X.ret,
  { tm := [(2, AV.ref 0 0 0), (4, AV.bool (gv f8)), (5, AV.ref 1 0 0)],
    hp := [(0, Blk.box [AV.int IntKind.i64 x2, AV.view 3 x3, AV.view 3 x4] false), (1, Blk.box [AV.int IntKind.i64 x5, AV.view 3 x6, AV.view 3 x7] false)], nx := 2, k := 0 })
noncomputable def x6_0_1 (x0 : List AV) (x1 : Int) (x2 : Int) (x3 : List AV) (x4 : List AV) (x5 : Int) (x6 : List AV) (x7 : List AV) : X × St := (X.ret,
  { tm := [(2, AV.ref 0 0 0), (4, AV.bool false), (5, AV.ref 1 0 0)],
    hp := [(0, Blk.box [AV.int IntKind.i64 x2, AV.view 3 x3, AV.view 3 x4] false), (1, Blk.box [AV.int IntKind.i64 x5, AV.view 3 x6, AV.view 3 x7] false)], nx := 2, k := 0 })
noncomputable def x6_0_2 (x0 : List AV) (x1 : Int) (x2 : Int) (x3 : List AV) (x4 : List AV) (x5 : Int) (x6 : List AV) (x7 : List AV) : X × St := (X.exit 0,
  { tm := [(2, AV.ref 0 0 0), (4, AV.junk), (5, AV.ref 1 0 0)],
    hp := [(0, Blk.box [AV.int IntKind.i64 x2, AV.view 3 x3, AV.view 3 x4] false), (1, Blk.box [AV.int IntKind.i64 x5, AV.view 3 x6, AV.view 3 x7] false)], nx := 2, k := 0 })
noncomputable def x6_0 : Nat → TT6_0 → X × St := fun j w => match j with
  | 0 => x6_0_0 w.1 w.2.1 w.2.2.1 w.2.2.2.1 w.2.2.2.2.1 w.2.2.2.2.2.1 w.2.2.2.2.2.2.1 w.2.2.2.2.2.2.2
  | 1 => x6_0_1 w.1 w.2.1 w.2.2.1 w.2.2.2.1 w.2.2.2.2.1 w.2.2.2.2.2.1 w.2.2.2.2.2.2.1 w.2.2.2.2.2.2.2
  | 2 => x6_0_2 w.1 w.2.1 w.2.2.1 w.2.2.2.1 w.2.2.2.2.1 w.2.2.2.2.2.1 w.2.2.2.2.2.2.1 w.2.2.2.2.2.2.2
  | _ => (.ret, ⟨[], [], 0, 0⟩)
theorem e6_0 : ∀ j v, outB (x6_0 j v).1 = true := fun j v => match j with
  | 0 => rfl
  | 1 => rfl
  | 2 => rfl
  | _ + 3 => rfl
noncomputable def st6_0_0 (x0 : List AV) (x1 : Int) (x2 : Int) (x3 : List AV) (x4 : List AV) (x5 : Int) (x6 : List AV) (x7 : List AV) : DT (Rd TT6_0) :=
 .br (decide (x1 < (↑x0.length : Int)))
  (.br (okAt [CS.int IntKind.i64, CS.int IntKind.i64, CS.str] x0 x1)
   (.br (decide ((↑(strOf (cellAt x0 x1 2)).length : Int) > 100))
    (.bi (f8) (fun y0 =>
     .at (.done 0))
     (.no))
    (.br (okAt [CS.int IntKind.i64, CS.int IntKind.i64, CS.str] x0 x1)
     (.br (okAt [CS.int IntKind.i64, CS.int IntKind.i64, CS.str] x0 x1)
      (.br (okAt [CS.int IntKind.i64, CS.int IntKind.i64, CS.str] x0 x1)
       (.bi (f13 x2 x3 x4 (intOf (cellAt x0 x1 0)) (intOf (cellAt x0 x1 1)) (strOf (cellAt x0 x1 2))) (fun y0 =>
        .br (y0.snd.snd.snd != 0)
         (.bi (f15 y0.fst y0.snd.fst y0.snd.snd.fst 0 [] []) (fun y1 =>
          .br (!y1) (.at (.done 1)) (.at (.next ((x0, IntKind.i64.wrap (x1 + 1), x2, x3, x4, x5, x6, x7)))))
          (.no))
         (.br ((↑y0.snd.snd.fst.length : Int) != IntKind.i64.wrap ((↑x4.length : Int) + 1))
          (.at (.done 1))
          (.br (okAt [CS.int IntKind.i64, CS.int IntKind.i64, CS.str] y0.snd.snd.fst (↑x4.length : Int))
           (.br (okAt [CS.int IntKind.i64, CS.int IntKind.i64, CS.str] x0 x1)
            (.br (if true = true then
                !(intOf (cellAt y0.snd.snd.fst (↑x4.length : Int) 0) == intOf (cellAt x0 x1 0) &&
                    (intOf (cellAt y0.snd.snd.fst (↑x4.length : Int) 1) == intOf (cellAt x0 x1 1) && (strOf (cellAt y0.snd.snd.fst (↑x4.length : Int) 2) == strOf (cellAt x0 x1 2) && true)))
              else
                intOf (cellAt y0.snd.snd.fst (↑x4.length : Int) 0) == intOf (cellAt x0 x1 0) &&
                  (intOf (cellAt y0.snd.snd.fst (↑x4.length : Int) 1) == intOf (cellAt x0 x1 1) && (strOf (cellAt y0.snd.snd.fst (↑x4.length : Int) 2) == strOf (cellAt x0 x1 2) && true)))
             (.at (.done 1))
             (.br (y0.fst != x2)
              (.at (.done 1))
              (.br ((↑y0.snd.fst.length : Int) != (↑x3.length : Int)) (.at (.done 1)) (.at (.next ((x0, IntKind.i64.wrap (x1 + 1), y0.fst, y0.snd.fst, y0.snd.snd.fst, x5, x6, x7)))))))
            (.no))
           (.no))))
        (.no))
       (.no))
      (.no))
     (.no)))
   (.no))
  (.at (.done 2))
noncomputable def st6_0 : TT6_0 → DT (Rd TT6_0) := (fun v => st6_0_0 v.1 v.2.1 v.2.2.1 v.2.2.2.1 v.2.2.2.2.1 v.2.2.2.2.2.1 v.2.2.2.2.2.2.1 v.2.2.2.2.2.2.2)
noncomputable def T6_0 : Tab := [(34, cloneE 3 24), (35, cloneE 3 32), (8, g8 f8), (13, g13 f13), (15, g15 f15)]
theorem T6_0_ok : TabOk IP (T6_0) := ⟨sp34, sp35, s8, s13, s15, trivial⟩
noncomputable def L6_0 : LTab := []
theorem L6_0_ok : LOk IP (L6_0) (loops (loopAt F6 0).2) := LOk_of (l := []) (by kernel_rfl) trivial
theorem b6_0_0 (v : List AV × Int × Int × List AV × List AV × Int × List AV × List AV) : execK (R := Rx TT6_0) IP (callT (T6_0)) (loopT (L6_0)) (loopAt F6 0).2 (h6_0_0 v) (endK (loopAt F6 0).1 d6_0) = (cvD (fun j => x6_0 j v) (st6_0_0 v.1 v.2.1 v.2.2.1 v.2.2.2.1 v.2.2.2.2.1 v.2.2.2.2.2.1 v.2.2.2.2.2.2.1 v.2.2.2.2.2.2.2)).ev := by kernel_rfl
noncomputable def l6_0 (v : TT6_0) : Option (Nat × TT6_0) := lock (iterO (fun v => (st6_0 v).ev) v)
theorem l6_0_eq (v : TT6_0) : l6_0 v = iterO (fun v => (st6_0 v).ev) v := lock_eq _
noncomputable def ll6_0 : LEnt := lEnt d6_0 (l6_0) (x6_0) 3
theorem t6_0 : Go.Eng.Told IP (loopAt F6 0).1 (loopAt F6 0).2 (ll6_0) := loop_of (st := st6_0) (T6_0_ok) (L6_0_ok) d6_0_ok (fun v => n6_0_0 v) (e6_0) (fun v => b6_0_0 v) (l6_0_eq)

-- l6_2: loop 2 of function 6
abbrev TT6_2 : Type := Int × Int × Int × Int × List AV × List AV × Int × List AV × List AV × Int × Int × Int
def h6_2_0 (v : Int × Int × Int × Int × List AV × List AV × Int × List AV × List AV × Int × Int × Int) : St := ⟨[(1000602, .junk), (2, .ref 0 0 0), (5, .ref 1 0 0), (10, .int .i64 v.1), (11, .ref 2 0 0), (12, .int .i64 v.2.1), (13, .int .i64 v.2.2.1)], [(0, .box [.int .i64 v.2.2.2.1, .view 3 v.2.2.2.2.1, .view 3 v.2.2.2.2.2.1] false), (1, .box [.int .i64 v.2.2.2.2.2.2.1, .view 3 v.2.2.2.2.2.2.2.1, .view 3 v.2.2.2.2.2.2.2.2.1] false), (2, .box [.int .i64 v.2.2.2.2.2.2.2.2.2.1, .int .i64 v.2.2.2.2.2.2.2.2.2.2.1, .int .i64 v.2.2.2.2.2.2.2.2.2.2.2] false)], 3, 0⟩
def h6_2 : TT6_2 → St := (fun v => h6_2_0 v)
def d6_2 : St → Option TT6_2 := sDec ⟨[(1000602, .junk), (2, .ref 0 0 0), (5, .ref 1 0 0), (10, .int .i64), (11, .ref 2 0 0), (12, .int .i64), (13, .int .i64)], [(0, .box [.int .i64, .view 3, .view 3] false), (1, .box [.int .i64, .view 3, .view 3] false), (2, .box [.int .i64, .int .i64, .int .i64] false)], 3, 0⟩ (fun ls => eatI ls fun x0 ls => eatI ls fun x1 ls => eatI ls fun x2 ls => eatI ls fun x3 ls => eatL ls fun x4 ls => eatL ls fun x5 ls => eatI ls fun x6 ls => eatL ls fun x7 ls => eatL ls fun x8 ls => eatI ls fun x9 ls => eatI ls fun x10 ls => eatI ls fun x11 ls => eat0 ls (x0, x1, x2, x3, x4, x5, x6, x7, x8, x9, x10, x11)) (sNo)
theorem d6_2_ok : ∀ s v, d6_2 s = some v → s = h6_2 v := sDec_ok (by
  intro ls v h0
  obtain ⟨x0, ls0, rfl, h1⟩ := eatI_some h0
  obtain ⟨x1, ls1, rfl, h2⟩ := eatI_some h1
  obtain ⟨x2, ls2, rfl, h3⟩ := eatI_some h2
  obtain ⟨x3, ls3, rfl, h4⟩ := eatI_some h3
  obtain ⟨x4, ls4, rfl, h5⟩ := eatL_some h4
  obtain ⟨x5, ls5, rfl, h6⟩ := eatL_some h5
  obtain ⟨x6, ls6, rfl, h7⟩ := eatI_some h6
  obtain ⟨x7, ls7, rfl, h8⟩ := eatL_some h7
  obtain ⟨x8, ls8, rfl, h9⟩ := eatL_some h8
  obtain ⟨x9, ls9, rfl, h10⟩ := eatI_some h9
  obtain ⟨x10, ls10, rfl, h11⟩ := eatI_some h10
  obtain ⟨x11, ls11, rfl, h12⟩ := eatI_some h11
  obtain ⟨rfl, rfl⟩ := eat0_some h12
  rfl
) (sNo_ok)
theorem n6_2_0 (v : Int × Int × Int × Int × List AV × List AV × Int × List AV × List AV × Int × Int × Int) : norm (hk (loopAt F6 2).1) (h6_2_0 v) = some (h6_2_0 v) := by kernel_rfl
noncomputable def x6_2_0 (x0 : Int) (x1 : Int) (x2 : Int) (x3 : Int) (x4 : List AV) (x5 : List AV) (x6 : Int) (x7 : List AV) (x8 : List AV) (x9 : Int) (x10 : Int) (x11 : Int) : X × St := (X.exit 4,
  { tm := [(2, AV.ref 0 0 0), (5, AV.ref 1 0 0), (10, AV.int IntKind.i64 x0), (11, AV.ref 2 0 0), (12, AV.int IntKind.i64 x1)],
    hp :=
      [(0, Blk.box [AV.int IntKind.i64 x3, AV.view 3 x4, AV.view 3 x5] false), (1, Blk.box [AV.int IntKind.i64 x6, AV.view 3 x7, AV.view 3 x8] false),
        (2, Blk.box [AV.int IntKind.i64 x9, AV.int IntKind.i64 x10, AV.int IntKind.i64 x11] false)],
    nx := 3, k := 0 })
noncomputable def x6_2 : Nat → TT6_2 → X × St := fun j w => match j with
  | 0 => x6_2_0 w.1 w.2.1 w.2.2.1 w.2.2.2.1 w.2.2.2.2.1 w.2.2.2.2.2.1 w.2.2.2.2.2.2.1 w.2.2.2.2.2.2.2.1 w.2.2.2.2.2.2.2.2.1 w.2.2.2.2.2.2.2.2.2.1 w.2.2.2.2.2.2.2.2.2.2.1 w.2.2.2.2.2.2.2.2.2.2.2
  | _ => (.ret, ⟨[], [], 0, 0⟩)
theorem e6_2 : ∀ j v, outB (x6_2 j v).1 = true := fun j v => match j with
  | 0 => rfl
  | _ + 1 => rfl
noncomputable def st6_2_0 (x0 : Int) (x1 : Int) (x2 : Int) (x3 : Int) (x4 : List AV) (x5 : List AV) (x6 : Int) (x7 : List AV) (x8 : List AV) (x9 : Int) (x10 : Int) (x11 : Int) : DT (Rd TT6_2) :=
 .br (decide (x2 < (↑x5.length : Int)))
  (.br (okAt [CS.int IntKind.i64, CS.int IntKind.i64, CS.str] x5 x2)
   (.br (intOf (cellAt x5 x2 0) == x9)
    (.br (okAt [CS.int IntKind.i64, CS.int IntKind.i64, CS.str] x5 x2)
     (.br (decide (intOf (cellAt x5 x2 1) < 0))
      (.br (okAt [CS.int IntKind.i64, CS.int IntKind.i64, CS.str] x5 x2)
       (.at (.next ((x0, IntKind.i64.wrap (x1 - intOf (cellAt x5 x2 1)), IntKind.i64.wrap (x2 + 1), x3, x4, x5, x6, x7, x8, x9, x10, x11))))
       (.no))
      (.at (.next ((x0, x1, IntKind.i64.wrap (x2 + 1), x3, x4, x5, x6, x7, x8, x9, x10, x11)))))
     (.no))
    (.at (.next ((x0, x1, IntKind.i64.wrap (x2 + 1), x3, x4, x5, x6, x7, x8, x9, x10, x11)))))
   (.no))
  (.at (.done 0))
noncomputable def st6_2 : TT6_2 → DT (Rd TT6_2) := (fun v => st6_2_0 v.1 v.2.1 v.2.2.1 v.2.2.2.1 v.2.2.2.2.1 v.2.2.2.2.2.1 v.2.2.2.2.2.2.1 v.2.2.2.2.2.2.2.1 v.2.2.2.2.2.2.2.2.1 v.2.2.2.2.2.2.2.2.2.1 v.2.2.2.2.2.2.2.2.2.2.1 v.2.2.2.2.2.2.2.2.2.2.2)
noncomputable def T6_2 : Tab := [(34, cloneE 3 24), (35, cloneE 3 32)]
theorem T6_2_ok : TabOk IP (T6_2) := ⟨sp34, sp35, trivial⟩
noncomputable def L6_2 : LTab := []
theorem L6_2_ok : LOk IP (L6_2) (loops (loopAt F6 2).2) := LOk_of (l := []) (by kernel_rfl) trivial
theorem b6_2_0 (v : Int × Int × Int × Int × List AV × List AV × Int × List AV × List AV × Int × Int × Int) : execK (R := Rx TT6_2) IP (callT (T6_2)) (loopT (L6_2)) (loopAt F6 2).2 (h6_2_0 v) (endK (loopAt F6 2).1 d6_2) = (cvD (fun j => x6_2 j v) (st6_2_0 v.1 v.2.1 v.2.2.1 v.2.2.2.1 v.2.2.2.2.1 v.2.2.2.2.2.1 v.2.2.2.2.2.2.1 v.2.2.2.2.2.2.2.1 v.2.2.2.2.2.2.2.2.1 v.2.2.2.2.2.2.2.2.2.1 v.2.2.2.2.2.2.2.2.2.2.1 v.2.2.2.2.2.2.2.2.2.2.2)).ev := by kernel_rfl
noncomputable def l6_2 (v : TT6_2) : Option (Nat × TT6_2) := lock (iterO (fun v => (st6_2 v).ev) v)
theorem l6_2_eq (v : TT6_2) : l6_2 v = iterO (fun v => (st6_2 v).ev) v := lock_eq _
noncomputable def ll6_2 : LEnt := lEnt d6_2 (l6_2) (x6_2) 1
theorem t6_2 : Go.Eng.Told IP (loopAt F6 2).1 (loopAt F6 2).2 (ll6_2) := loop_of (st := st6_2) (T6_2_ok) (L6_2_ok) d6_2_ok (fun v => n6_2_0 v) (e6_2) (fun v => b6_2_0 v) (l6_2_eq)

-- l6_1: loop 1 of function 6
abbrev TT6_1 : Type := Int × Int × List AV × List AV × Int × List AV × List AV
def h6_1_0 (v : Int × Int × List AV × List AV × Int × List AV × List AV) : St := ⟨[(1000601, .junk), (2, .ref 0 0 0), (5, .ref 1 0 0), (10, .int .i64 v.1)], [(0, .box [.int .i64 v.2.1, .view 3 v.2.2.1, .view 3 v.2.2.2.1] false), (1, .box [.int .i64 v.2.2.2.2.1, .view 3 v.2.2.2.2.2.1, .view 3 v.2.2.2.2.2.2] false)], 2, 0⟩
def h6_1 : TT6_1 → St := (fun v => h6_1_0 v)
def d6_1 : St → Option TT6_1 := sDec ⟨[(1000601, .junk), (2, .ref 0 0 0), (5, .ref 1 0 0), (10, .int .i64)], [(0, .box [.int .i64, .view 3, .view 3] false), (1, .box [.int .i64, .view 3, .view 3] false)], 2, 0⟩ (fun ls => eatI ls fun x0 ls => eatI ls fun x1 ls => eatL ls fun x2 ls => eatL ls fun x3 ls => eatI ls fun x4 ls => eatL ls fun x5 ls => eatL ls fun x6 ls => eat0 ls (x0, x1, x2, x3, x4, x5, x6)) (sNo)
theorem d6_1_ok : ∀ s v, d6_1 s = some v → s = h6_1 v := sDec_ok (by
  intro ls v h0
  obtain ⟨x0, ls0, rfl, h1⟩ := eatI_some h0
  obtain ⟨x1, ls1, rfl, h2⟩ := eatI_some h1
  obtain ⟨x2, ls2, rfl, h3⟩ := eatL_some h2
  obtain ⟨x3, ls3, rfl, h4⟩ := eatL_some h3
  obtain ⟨x4, ls4, rfl, h5⟩ := eatI_some h4
  obtain ⟨x5, ls5, rfl, h6⟩ := eatL_some h5
  obtain ⟨x6, ls6, rfl, h7⟩ := eatL_some h6
  obtain ⟨rfl, rfl⟩ := eat0_some h7
  rfl
) (sNo_ok)
theorem n6_1_0 (v : Int × Int × List AV × List AV × Int × List AV × List AV) : norm (hk (loopAt F6 1).1) (h6_1_0 v) = some (h6_1_0 v) := by kernel_rfl
noncomputable def x6_1_0 (x0 : Int) (x1 : Int) (x2 : List AV) (x3 : List AV) (x4 : Int) (x5 : List AV) (x6 : List AV) : X × St := (X.ret,
  { tm := [(2, AV.ref 0 0 0), (4, AV.bool false)],
    hp :=
      [(0,
          Blk.box
            [AV.int IntKind.i64 (gv (pj 0 (l6_2 (x0, 0, 0, x1, x2, x3, x4, x5, x6, intOf (cellAt x2 x0 0), intOf (cellAt x2 x0 1), intOf (cellAt x2 x0 2))))).snd.snd.snd.fst,
              AV.view 3 (gv (pj 0 (l6_2 (x0, 0, 0, x1, x2, x3, x4, x5, x6, intOf (cellAt x2 x0 0), intOf (cellAt x2 x0 1), intOf (cellAt x2 x0 2))))).snd.snd.snd.snd.fst,
              AV.view 3 (gv (pj 0 (l6_2 (x0, 0, 0, x1, x2, x3, x4, x5, x6, intOf (cellAt x2 x0 0), intOf (cellAt x2 x0 1), intOf (cellAt x2 x0 2))))).snd.snd.snd.snd.snd.fst]
            false)],
    nx := 1, k := 0 })
noncomputable def x6_1_1 (x0 : Int) (x1 : Int) (x2 : List AV) (x3 : List AV) (x4 : Int) (x5 : List AV) (x6 : List AV) : X × St := (X.exit 2, { tm := [(2, AV.ref 0 0 0), (4, AV.junk)], hp := [(0, Blk.box [AV.int IntKind.i64 x1, AV.view 3 x2, AV.view 3 x3] false)], nx := 1, k := 0 })
noncomputable def x6_1 : Nat → TT6_1 → X × St := fun j w => match j with
  | 0 => x6_1_0 w.1 w.2.1 w.2.2.1 w.2.2.2.1 w.2.2.2.2.1 w.2.2.2.2.2.1 w.2.2.2.2.2.2
  | 1 => x6_1_1 w.1 w.2.1 w.2.2.1 w.2.2.2.1 w.2.2.2.2.1 w.2.2.2.2.2.1 w.2.2.2.2.2.2
  | _ => (.ret, ⟨[], [], 0, 0⟩)
theorem e6_1 : ∀ j v, outB (x6_1 j v).1 = true := fun j v => match j with
  | 0 => rfl
  | 1 => rfl
  | _ + 2 => rfl
noncomputable def st6_1_0 (x0 : Int) (x1 : Int) (x2 : List AV) (x3 : List AV) (x4 : Int) (x5 : List AV) (x6 : List AV) : DT (Rd TT6_1) :=
 .br (decide (x0 < (↑x5.length : Int)))
  (.br (okAt [CS.int IntKind.i64, CS.int IntKind.i64, CS.int IntKind.i64] x2 x0)
   (.bi (pj 0 (l6_2 (x0, 0, 0, x1, x2, x3, x4, x5, x6, intOf (cellAt x2 x0 0), intOf (cellAt x2 x0 1), intOf (cellAt x2 x0 2)))) (fun y0 =>
    .br (okAt [CS.int IntKind.i64, CS.int IntKind.i64, CS.int IntKind.i64] y0.snd.snd.snd.snd.snd.snd.snd.fst y0.fst)
     (.br (y0.snd.snd.snd.snd.snd.snd.snd.snd.snd.fst != intOf (cellAt y0.snd.snd.snd.snd.snd.snd.snd.fst y0.fst 0))
      (.at (.done 0))
      (.br (okAt [CS.int IntKind.i64, CS.int IntKind.i64, CS.int IntKind.i64] y0.snd.snd.snd.snd.snd.snd.snd.fst y0.fst)
       (.br (y0.snd.snd.snd.snd.snd.snd.snd.snd.snd.snd.fst != intOf (cellAt y0.snd.snd.snd.snd.snd.snd.snd.fst y0.fst 1))
        (.at (.done 0))
        (.br (y0.snd.snd.snd.snd.snd.snd.snd.snd.snd.snd.snd != y0.snd.fst)
         (.at (.done 0))
         (.br (decide (y0.snd.fst > y0.snd.snd.snd.snd.snd.snd.snd.snd.snd.snd.fst))
          (.at (.done 0))
          (.br (decide (y0.snd.fst > y0.snd.snd.snd.fst))
           (.at (.done 0))
           (.bi (f11 y0.snd.snd.snd.fst y0.snd.snd.snd.snd.fst y0.snd.snd.snd.snd.snd.fst y0.snd.snd.snd.snd.snd.snd.snd.snd.snd.fst) (fun y1 =>
            .br (y1 != y0.snd.fst)
             (.at (.done 0))
             (.at (.next ((IntKind.i64.wrap (y0.fst + 1), y0.snd.snd.snd.fst, y0.snd.snd.snd.snd.fst, y0.snd.snd.snd.snd.snd.fst, y0.snd.snd.snd.snd.snd.snd.fst, y0.snd.snd.snd.snd.snd.snd.snd.fst, y0.snd.snd.snd.snd.snd.snd.snd.snd.fst)))))
            (.no))))))
       (.no)))
     (.no))
    (.no))
   (.no))
  (.at (.done 1))
noncomputable def st6_1 : TT6_1 → DT (Rd TT6_1) := (fun v => st6_1_0 v.1 v.2.1 v.2.2.1 v.2.2.2.1 v.2.2.2.2.1 v.2.2.2.2.2.1 v.2.2.2.2.2.2)
noncomputable def T6_1 : Tab := [(34, cloneE 3 24), (35, cloneE 3 32), (11, g11 f11)]
theorem T6_1_ok : TabOk IP (T6_1) := ⟨sp34, sp35, s11, trivial⟩
noncomputable def L6_1 : LTab := [(1000602, ll6_2)]
theorem L6_1_ok : LOk IP (L6_1) (loops (loopAt F6 1).2) := LOk_of (l := [loopAt F6 2]) (by kernel_rfl) ⟨sel_one (by kernel_rfl) t6_2, trivial⟩
theorem b6_1_0 (v : Int × Int × List AV × List AV × Int × List AV × List AV) : execK (R := Rx TT6_1) IP (callT (T6_1)) (loopT (L6_1)) (loopAt F6 1).2 (h6_1_0 v) (endK (loopAt F6 1).1 d6_1) = (cvD (fun j => x6_1 j v) (st6_1_0 v.1 v.2.1 v.2.2.1 v.2.2.2.1 v.2.2.2.2.1 v.2.2.2.2.2.1 v.2.2.2.2.2.2)).ev := by kernel_rfl
noncomputable def l6_1 (v : TT6_1) : Option (Nat × TT6_1) := lock (iterO (fun v => (st6_1 v).ev) v)
theorem l6_1_eq (v : TT6_1) : l6_1 v = iterO (fun v => (st6_1 v).ev) v := lock_eq _
noncomputable def ll6_1 : LEnt := lEnt d6_1 (l6_1) (x6_1) 2
theorem t6_1 : Go.Eng.Told IP (loopAt F6 1).1 (loopAt F6 1).2 (ll6_1) := loop_of (st := st6_1) (T6_1_ok) (L6_1_ok) d6_1_ok (fun v => n6_1_0 v) (e6_1) (fun v => b6_1_0 v) (l6_1_eq)

-- f6: StandinLimits
abbrev A6 : Type := Int × List AV × List AV × List AV
abbrev B6 : Type := Bool
def pa6 : PArgs := ⟨[.agg [.int .i64, .view 3, .view 3], .view 3], []⟩
def to6 (ls : List Lf) : Option A6 := eatI ls fun x0 ls => eatL ls fun x1 ls => eatL ls fun x2 ls => eatL ls fun x3 ls => eat0 ls (x0, x1, x2, x3)
def ea6 (v : A6) : List AV × Heap := ([.agg [.int .i64 v.1, .view 3 v.2.1, .view 3 v.2.2.1], .view 3 v.2.2.2], [])
def er6_0 (v : Bool) : Res × Heap := (.ret (.bool v), [])
def er6 : B6 → Res × Heap := er6_0
def en6 : Option B6 → List (Bool × Res × Heap) := (E1 er6_0)
def rd6 : Res → Heap → Option B6 := rDec ⟨false, .bool, []⟩ (fun ls => eatB ls fun x0 ls => eat0 ls x0) (rNo)
theorem to6_ok : ∀ ls v, to6 ls = some v → fArgs pa6 ls = ea6 v := by
  intro ls v h0
  unfold to6 at h0
  obtain ⟨x0, ls0, rfl, h1⟩ := eatI_some h0
  obtain ⟨x1, ls1, rfl, h2⟩ := eatL_some h1
  obtain ⟨x2, ls2, rfl, h3⟩ := eatL_some h2
  obtain ⟨x3, ls3, rfl, h4⟩ := eatL_some h3
  obtain ⟨rfl, rfl⟩ := eat0_some h4
  rfl
theorem rd6_ok : ∀ r h y, rd6 r h = some y → (r, h) = er6 y := rDec_ok (by
  intro ls v h0
  obtain ⟨x0, ls0, rfl, h1⟩ := eatB_some h0
  obtain ⟨rfl, rfl⟩ := eat0_some h1
  rfl
) (rNo_ok)
noncomputable def g6 (G : Int → (List AV) → (List AV) → (List AV) → Option B6) : Ent := fEnt pa6 to6 (fun v => G v.1 v.2.1 v.2.2.1 v.2.2.2) en6
theorem g6_ok (G : Int → (List AV) → (List AV) → (List AV) → Option B6) (hG : ∀ v y, G v.1 v.2.1 v.2.2.1 v.2.2.2 = some y → callO IP 6 (ea6 v).1 (ea6 v).2 = some (er6 y)) : Snd IP 6 (g6 G) := fEnt_ok to6_ok E1_ok hG
noncomputable def tr6 (x0 : Int) (x1 : List AV) (x2 : List AV) (x3 : List AV) : DT B6 :=
 .bi (f7 x0 x1 x2) (fun y0 =>
  .bi (br (!y0) (some true) (some (decide ((↑x3.length : Int) > 40)))) (fun y1 =>
   .bi (br y1 (some true) (br (sm (f9 x0 x1 x2)) (some (gv (f9 x0 x1 x2) != 0)) none)) (fun y2 =>
    .bi (br y2 (some true) (br (sm (f10 x0 x1 x2)) (some (gv (f10 x0 x1 x2) != 0)) none)) (fun y3 =>
     .br (y3)
      (.bi (f8) (fun y4 =>
       .at (y4))
       (.no))
      (.bi (pj 0 (l6_0 (x3, 0, x0, x1, x2, x0, x1, x2))) (fun y4 =>
       .at (gv f8))
       (.bi (pj 1 (l6_0 (x3, 0, x0, x1, x2, x0, x1, x2))) (fun y4 =>
        .at (false))
        (.bi (pj 2 (l6_0 (x3, 0, x0, x1, x2, x0, x1, x2))) (fun y4 =>
         .bi (pj 0 (l6_1 (0, y4.snd.snd.fst, y4.snd.snd.snd.fst, y4.snd.snd.snd.snd.fst, y4.snd.snd.snd.snd.snd.fst, y4.snd.snd.snd.snd.snd.snd.fst, y4.snd.snd.snd.snd.snd.snd.snd))) (fun y5 =>
          .at (false))
          (.bi (pj 1 (l6_1 (0, y4.snd.snd.fst, y4.snd.snd.snd.fst, y4.snd.snd.snd.snd.fst, y4.snd.snd.snd.snd.snd.fst, y4.snd.snd.snd.snd.snd.snd.fst, y4.snd.snd.snd.snd.snd.snd.snd))) (fun y5 =>
           .bi (f9 y5.snd.fst y5.snd.snd.fst y5.snd.snd.snd.fst) (fun y6 =>
            .bi (br (y6 == 0) (br (sm f8) (some (gv f8)) none) (some false)) (fun y7 =>
             .at (y7))
             (.no))
            (.no))
           (.no)))
         (.no)))))
     (.no))
    (.no))
   (.no))
  (.no)
noncomputable def T6 : Tab := [(34, cloneE 3 24), (35, cloneE 3 32), (7, g7 f7), (9, g9 f9), (10, g10 f10), (8, g8 f8)]
theorem T6_ok : TabOk IP (T6) := ⟨sp34, sp35, s7, s9, s10, s8, trivial⟩
noncomputable def L6 : LTab := [(1000600, ll6_0), (1000601, ll6_1)]
theorem L6_ok : LOk IP (L6) (loops F6.body) := LOk_of (l := [loopAt F6 0, loopAt F6 1, loopAt F6 2]) (by kernel_rfl) ⟨sel_one (by kernel_rfl) t6_0, sel_one (by kernel_rfl) t6_1, sel_no (by kernel_rfl), trivial⟩
theorem b6 (v : A6) : bodyK (R := B6) IP (callT (T6)) (loopT (L6)) 6 F6 (ea6 v).1 (ea6 v).2 rd6 = (tr6 v.1 v.2.1 v.2.2.1 v.2.2.2).ev := by kernel_rfl
/-- StandinLimits -/
noncomputable def f6 (x0 : Int) (x1 : List AV) (x2 : List AV) (x3 : List AV) : Option B6 := lock (tr6 x0 x1 x2 x3).ev
theorem f6_eq (x0 : Int) (x1 : List AV) (x2 : List AV) (x3 : List AV) : f6 x0 x1 x2 x3 = (tr6 x0 x1 x2 x3).ev := lock_eq _
theorem c6 : ∀ v y, f6 v.1 v.2.1 v.2.2.1 v.2.2.2 = some y → callO IP 6 (ea6 v).1 (ea6 v).2 = some (er6 y) := fun v y h => fun_of T6_ok (by kernel_rfl) L6_ok rd6_ok (b6 v) ((f6_eq v.1 v.2.1 v.2.2.1 v.2.2.2).symm.trans h)
theorem s6 : Snd IP 6 (g6 f6) := g6_ok f6 c6

end Go.Proofs.H53

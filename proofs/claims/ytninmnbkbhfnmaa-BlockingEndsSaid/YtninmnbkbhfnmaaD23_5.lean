/- Functions over plain data. Printed by a program of mine. -/
import Derived.Test.YtninmnbkbhfnmaaD23_4
import Derived.KernelRfl
set_option linter.unusedVariables false
set_option linter.unusedSimpArgs false
set_option linter.unnecessarySimpa false
namespace Go.Proofs.H23
open Go Go.Eng
set_option maxRecDepth 100000

-- f8: 
abbrev A8 : Type := List AV × Int × Int × Int × Int
abbrev B8 : Type := Bool
def pa8 : PArgs := ⟨[.view 7, .int .i64, .agg [.int .i64, .int .i64, .int .i64]], []⟩
def to8 (ls : List Lf) : Option A8 := eatL ls fun x0 ls => eatI ls fun x1 ls => eatI ls fun x2 ls => eatI ls fun x3 ls => eatI ls fun x4 ls => eat0 ls (x0, x1, x2, x3, x4)
def ea8 (v : A8) : List AV × Heap := ([.view 7 v.1, .int .i64 v.2.1, .agg [.int .i64 v.2.2.1, .int .i64 v.2.2.2.1, .int .i64 v.2.2.2.2]], [])
def er8_0 (v : Bool) : Res × Heap := (.ret (.bool v), [])
def er8 : B8 → Res × Heap := er8_0
def en8 : Option B8 → List (Bool × Res × Heap) := (E1 er8_0)
def rd8 : Res → Heap → Option B8 := rDec ⟨false, .bool, []⟩ (fun ls => eatB ls fun x0 ls => eat0 ls x0) (rNo)
theorem to8_ok : ∀ ls v, to8 ls = some v → fArgs pa8 ls = ea8 v := by
  intro ls v h0
  unfold to8 at h0
  obtain ⟨x0, ls0, rfl, h1⟩ := eatL_some h0
  obtain ⟨x1, ls1, rfl, h2⟩ := eatI_some h1
  obtain ⟨x2, ls2, rfl, h3⟩ := eatI_some h2
  obtain ⟨x3, ls3, rfl, h4⟩ := eatI_some h3
  obtain ⟨x4, ls4, rfl, h5⟩ := eatI_some h4
  obtain ⟨rfl, rfl⟩ := eat0_some h5
  rfl
theorem rd8_ok : ∀ r h y, rd8 r h = some y → (r, h) = er8 y := rDec_ok (by
  intro ls v h0
  obtain ⟨x0, ls0, rfl, h1⟩ := eatB_some h0
  obtain ⟨rfl, rfl⟩ := eat0_some h1
  rfl
) (rNo_ok)
noncomputable def g8 (G : (List AV) → Int → Int → Int → Int → Option B8) : Ent := fEnt pa8 to8 (fun v => G v.1 v.2.1 v.2.2.1 v.2.2.2.1 v.2.2.2.2) en8
theorem g8_ok (G : (List AV) → Int → Int → Int → Int → Option B8) (hG : ∀ v y, G v.1 v.2.1 v.2.2.1 v.2.2.2.1 v.2.2.2.2 = some y → callO IP 8 (ea8 v).1 (ea8 v).2 = some (er8 y)) : Snd IP 8 (g8 G) := fEnt_ok to8_ok E1_ok hG
noncomputable def tr8 (x0 : List AV) (x1 : Int) (x2 : Int) (x3 : Int) (x4 : Int) : DT B8 :=
 .bi (br (decide ((↑x0.length : Int) > 100)) (some true) (br (sm (f9 x0)) (some !gv (f9 x0)) none)) (fun y0 =>
  .bi (br y0 (some true) (br (sm (f11 x0)) (some (gv (f11 x0) != 0)) none)) (fun y1 =>
   .bi (br y1 (some true) (br (sm (f24 x3)) (some !gv (f24 x3)) none)) (fun y2 =>
    .br (y2)
     (.bi (f12) (fun y3 =>
      .at (y3))
      (.no))
     (.bi (f16 x0 x1 x3) (fun y3 =>
      .br (y3.snd != 0)
       (.bi (br ((↑y3.fst.length : Int) == 0) (br (y3.snd == 11) (some true) (some (y3.snd == 23))) (some false)) (fun y4 =>
        .bi (br y4 (br (sm f12) (some (gv f12)) none) (some false)) (fun y5 =>
         .at (y5))
         (.no))
        (.no))
       (.bi (pj 0 (l8_0 (x0, x1, y3.fst, 0, x2, x3, x4))) (fun y4 =>
        .at (false))
        (.bi (pj 1 (l8_0 (x0, x1, y3.fst, 0, x2, x3, x4))) (fun y4 =>
         .bi (f10 y4.snd.snd.fst) (fun y5 =>
          .br (y5 == 0)
           (.bi (f20 y4.snd.snd.fst y4.snd.snd.snd.snd.fst (IntKind.i64.wrap (y4.snd.snd.snd.snd.snd.fst - 1)) y4.snd.snd.snd.snd.snd.snd) (fun y6 =>
            .bi (f20 y4.fst y4.snd.snd.snd.snd.fst (IntKind.i64.wrap (y4.snd.snd.snd.snd.snd.fst - 1)) y4.snd.snd.snd.snd.snd.snd) (fun y7 =>
             .br (if false = true then !y6 == y7 else y6 == y7)
              (.bi (f22 y4.snd.snd.fst y4.snd.snd.snd.snd.fst (IntKind.i64.wrap (y4.snd.snd.snd.snd.snd.fst - 1))) (fun y8 =>
               .bi (f22 y4.fst y4.snd.snd.snd.snd.fst (IntKind.i64.wrap (y4.snd.snd.snd.snd.snd.fst - 1))) (fun y9 =>
                .br (y8 == y9)
                 (.bi (f12) (fun y10 =>
                  .at (y10))
                  (.no))
                 (.at (false)))
                (.no))
               (.no))
              (.at (false)))
             (.no))
            (.no))
           (.at (false)))
          (.no))
         (.no))))
      (.no)))
    (.no))
   (.no))
  (.no)
noncomputable def T8 : Tab := [(29, cloneE 7 64), (9, g9 f9), (11, g11 f11), (24, g24 f24), (12, g12 f12), (16, g16 f16), (10, g10 f10), (20, g20 f20), (22, g22 f22)]
theorem T8_ok : TabOk IP (T8) := ⟨sp29, s9, s11, s24, s12, s16, s10, s20, s22, trivial⟩
noncomputable def L8 : LTab := [(1000800, ll8_0)]
theorem L8_ok : LOk IP (L8) (loops F8.body) := LOk_of (l := [loopAt F8 0]) (by kernel_rfl) ⟨sel_one (by kernel_rfl) t8_0, trivial⟩
theorem b8 (v : A8) : bodyK (R := B8) IP (callT (T8)) (loopT (L8)) 8 F8 (ea8 v).1 (ea8 v).2 rd8 = (tr8 v.1 v.2.1 v.2.2.1 v.2.2.2.1 v.2.2.2.2).ev := by kernel_rfl
/--  -/
noncomputable def f8 (x0 : List AV) (x1 : Int) (x2 : Int) (x3 : Int) (x4 : Int) : Option B8 := lock (tr8 x0 x1 x2 x3 x4).ev
theorem f8_eq (x0 : List AV) (x1 : Int) (x2 : Int) (x3 : Int) (x4 : Int) : f8 x0 x1 x2 x3 x4 = (tr8 x0 x1 x2 x3 x4).ev := lock_eq _
theorem c8 : ∀ v y, f8 v.1 v.2.1 v.2.2.1 v.2.2.2.1 v.2.2.2.2 = some y → callO IP 8 (ea8 v).1 (ea8 v).2 = some (er8 y) := fun v y h => fun_of T8_ok (by kernel_rfl) L8_ok rd8_ok (b8 v) ((f8_eq v.1 v.2.1 v.2.2.1 v.2.2.2.1 v.2.2.2.2).symm.trans h)
theorem s8 : Snd IP 8 (g8 f8) := g8_ok f8 c8

end Go.Proofs.H23

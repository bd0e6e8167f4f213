/- Functions over plain data. Printed by a program of mine. -/
import Derived.Test.YthljpgljbpdmjaaGreatDoorD15e_4
import Derived.KernelRfl
set_option linter.unusedVariables false
set_option linter.unusedSimpArgs false
set_option linter.unnecessarySimpa false
namespace Go.Proofs.H15e
open Go Go.Eng
set_option maxRecDepth 100000
abbrev B_u114q : Type := Int × Bool
def p_u114q : PArgs := ⟨[.int .i64, .int .i64, .int .i64], []⟩
def r_u114q : List PRes := [⟨false, .tup [.int .i64, .bool], []⟩]
noncomputable def tr_u114q (x0 x1 x2 : Int) : DT B_u114q :=
 .br (x0 == 10)
  (.br (x0 == 10)
   (.at ((5, x1 == x2)))
   (.br (x0 == 12)
    (.br (x0 == 12)
     (.bi (br (x1 == x2) (some (x1 != 5)) (some false)) (fun y0 =>
      .at ((5, y0)))
      (.no))
     (.br (x0 == 14)
      (.br (x0 == 14)
       (.bi (br (x1 == x2) (some (x1 == 5)) (some false)) (fun y0 =>
        .at ((5, y0)))
        (.no))
       (.br (x0 == 17)
        (.br (x0 == 17)
         (.bi (br (x1 == x2) (some (x1 != 5)) (some false)) (fun y0 =>
          .at ((x1, y0)))
          (.no))
         (.bi (f_u30q) (fun y0 =>
          .br (mhas (true, [EK.i, EK.i, EK.i]) y0 (AV.agg [AV.int IntKind.i64 x0, AV.int IntKind.i64 x1, AV.int IntKind.i64 x2]))
           (.br (okE false [CS.int IntKind.i64] [mval (true, [EK.i, EK.i, EK.i]) y0 (AV.agg [AV.int IntKind.i64 x0, AV.int IntKind.i64 x1, AV.int IntKind.i64 x2])] 0)
            (.at ((intOf (cellAt [mval (true, [EK.i, EK.i, EK.i]) y0 (AV.agg [AV.int IntKind.i64 x0, AV.int IntKind.i64 x1, AV.int IntKind.i64 x2])] 0 0), intOf (cellAt [mval (true, [EK.i, EK.i, EK.i]) y0 (AV.agg [AV.int IntKind.i64 x0, AV.int IntKind.i64 x1, AV.int IntKind.i64 x2])] 0 0) != 0)))
            (.no))
           (.br (mnot (true, [EK.i, EK.i, EK.i]) y0 (AV.agg [AV.int IntKind.i64 x0, AV.int IntKind.i64 x1, AV.int IntKind.i64 x2])) (.at ((0, false))) (.no)))
          (.no)))
        (.br (x0 == 18)
         (.bi (br (x1 == x2) (some (x1 != 5)) (some false)) (fun y0 =>
          .at ((x1, y0)))
          (.no))
         (.bi (f_u30q) (fun y0 =>
          .br (mhas (true, [EK.i, EK.i, EK.i]) y0 (AV.agg [AV.int IntKind.i64 x0, AV.int IntKind.i64 x1, AV.int IntKind.i64 x2]))
           (.br (okE false [CS.int IntKind.i64] [mval (true, [EK.i, EK.i, EK.i]) y0 (AV.agg [AV.int IntKind.i64 x0, AV.int IntKind.i64 x1, AV.int IntKind.i64 x2])] 0)
            (.at ((intOf (cellAt [mval (true, [EK.i, EK.i, EK.i]) y0 (AV.agg [AV.int IntKind.i64 x0, AV.int IntKind.i64 x1, AV.int IntKind.i64 x2])] 0 0), intOf (cellAt [mval (true, [EK.i, EK.i, EK.i]) y0 (AV.agg [AV.int IntKind.i64 x0, AV.int IntKind.i64 x1, AV.int IntKind.i64 x2])] 0 0) != 0)))
            (.no))
           (.br (mnot (true, [EK.i, EK.i, EK.i]) y0 (AV.agg [AV.int IntKind.i64 x0, AV.int IntKind.i64 x1, AV.int IntKind.i64 x2])) (.at ((0, false))) (.no)))
          (.no)))))
      (.br (x0 == 15)
       (.bi (br (x1 == x2) (some (x1 == 5)) (some false)) (fun y0 =>
        .at ((5, y0)))
        (.no))
       (.br (x0 == 17)
        (.br (x0 == 17)
         (.bi (br (x1 == x2) (some (x1 != 5)) (some false)) (fun y0 =>
          .at ((x1, y0)))
          (.no))
         (.bi (f_u30q) (fun y0 =>
          .br (mhas (true, [EK.i, EK.i, EK.i]) y0 (AV.agg [AV.int IntKind.i64 x0, AV.int IntKind.i64 x1, AV.int IntKind.i64 x2]))
           (.br (okE false [CS.int IntKind.i64] [mval (true, [EK.i, EK.i, EK.i]) y0 (AV.agg [AV.int IntKind.i64 x0, AV.int IntKind.i64 x1, AV.int IntKind.i64 x2])] 0)
            (.at ((intOf (cellAt [mval (true, [EK.i, EK.i, EK.i]) y0 (AV.agg [AV.int IntKind.i64 x0, AV.int IntKind.i64 x1, AV.int IntKind.i64 x2])] 0 0), intOf (cellAt [mval (true, [EK.i, EK.i, EK.i]) y0 (AV.agg [AV.int IntKind.i64 x0, AV.int IntKind.i64 x1, AV.int IntKind.i64 x2])] 0 0) != 0)))
            (.no))
           (.br (mnot (true, [EK.i, EK.i, EK.i]) y0 (AV.agg [AV.int IntKind.i64 x0, AV.int IntKind.i64 x1, AV.int IntKind.i64 x2])) (.at ((0, false))) (.no)))
          (.no)))
        (.br (x0 == 18)
         (.bi (br (x1 == x2) (some (x1 != 5)) (some false)) (fun y0 =>
          .at ((x1, y0)))
          (.no))
         (.bi (f_u30q) (fun y0 =>
          .br (mhas (true, [EK.i, EK.i, EK.i]) y0 (AV.agg [AV.int IntKind.i64 x0, AV.int IntKind.i64 x1, AV.int IntKind.i64 x2]))
           (.br (okE false [CS.int IntKind.i64] [mval (true, [EK.i, EK.i, EK.i]) y0 (AV.agg [AV.int IntKind.i64 x0, AV.int IntKind.i64 x1, AV.int IntKind.i64 x2])] 0)
            (.at ((intOf (cellAt [mval (true, [EK.i, EK.i, EK.i]) y0 (AV.agg [AV.int IntKind.i64 x0, AV.int IntKind.i64 x1, AV.int IntKind.i64 x2])] 0 0), intOf (cellAt [mval (true, [EK.i, EK.i, EK.i]) y0 (AV.agg [AV.int IntKind.i64 x0, AV.int IntKind.i64 x1, AV.int IntKind.i64 x2])] 0 0) != 0)))
            (.no))
           (.br (mnot (true, [EK.i, EK.i, EK.i]) y0 (AV.agg [AV.int IntKind.i64 x0, AV.int IntKind.i64 x1, AV.int IntKind.i64 x2])) (.at ((0, false))) (.no)))
          (.no)))))))
    (.br (x0 == 13)
     (.bi (br (x1 == x2) (some (x1 != 5)) (some false)) (fun y0 =>
      .at ((5, y0)))
      (.no))
     (.br (x0 == 14)
      (.br (x0 == 14)
       (.bi (br (x1 == x2) (some (x1 == 5)) (some false)) (fun y0 =>
        .at ((5, y0)))
        (.no))
       (.br (x0 == 17)
        (.br (x0 == 17)
         (.bi (br (x1 == x2) (some (x1 != 5)) (some false)) (fun y0 =>
          .at ((x1, y0)))
          (.no))
         (.bi (f_u30q) (fun y0 =>
          .br (mhas (true, [EK.i, EK.i, EK.i]) y0 (AV.agg [AV.int IntKind.i64 x0, AV.int IntKind.i64 x1, AV.int IntKind.i64 x2]))
           (.br (okE false [CS.int IntKind.i64] [mval (true, [EK.i, EK.i, EK.i]) y0 (AV.agg [AV.int IntKind.i64 x0, AV.int IntKind.i64 x1, AV.int IntKind.i64 x2])] 0)
            (.at ((intOf (cellAt [mval (true, [EK.i, EK.i, EK.i]) y0 (AV.agg [AV.int IntKind.i64 x0, AV.int IntKind.i64 x1, AV.int IntKind.i64 x2])] 0 0), intOf (cellAt [mval (true, [EK.i, EK.i, EK.i]) y0 (AV.agg [AV.int IntKind.i64 x0, AV.int IntKind.i64 x1, AV.int IntKind.i64 x2])] 0 0) != 0)))
            (.no))
           (.br (mnot (true, [EK.i, EK.i, EK.i]) y0 (AV.agg [AV.int IntKind.i64 x0, AV.int IntKind.i64 x1, AV.int IntKind.i64 x2])) (.at ((0, false))) (.no)))
          (.no)))
        (.br (x0 == 18)
         (.bi (br (x1 == x2) (some (x1 != 5)) (some false)) (fun y0 =>
          .at ((x1, y0)))
          (.no))
         (.bi (f_u30q) (fun y0 =>
          .br (mhas (true, [EK.i, EK.i, EK.i]) y0 (AV.agg [AV.int IntKind.i64 x0, AV.int IntKind.i64 x1, AV.int IntKind.i64 x2]))
           (.br (okE false [CS.int IntKind.i64] [mval (true, [EK.i, EK.i, EK.i]) y0 (AV.agg [AV.int IntKind.i64 x0, AV.int IntKind.i64 x1, AV.int IntKind.i64 x2])] 0)
            (.at ((intOf (cellAt [mval (true, [EK.i, EK.i, EK.i]) y0 (AV.agg [AV.int IntKind.i64 x0, AV.int IntKind.i64 x1, AV.int IntKind.i64 x2])] 0 0), intOf (cellAt [mval (true, [EK.i, EK.i, EK.i]) y0 (AV.agg [AV.int IntKind.i64 x0, AV.int IntKind.i64 x1, AV.int IntKind.i64 x2])] 0 0) != 0)))
            (.no))
           (.br (mnot (true, [EK.i, EK.i, EK.i]) y0 (AV.agg [AV.int IntKind.i64 x0, AV.int IntKind.i64 x1, AV.int IntKind.i64 x2])) (.at ((0, false))) (.no)))
          (.no)))))
      (.br (x0 == 15)
       (.bi (br (x1 == x2) (some (x1 == 5)) (some false)) (fun y0 =>
        .at ((5, y0)))
        (.no))
       (.br (x0 == 17)
        (.br (x0 == 17)
         (.bi (br (x1 == x2) (some (x1 != 5)) (some false)) (fun y0 =>
          .at ((x1, y0)))
          (.no))
         (.bi (f_u30q) (fun y0 =>
          .br (mhas (true, [EK.i, EK.i, EK.i]) y0 (AV.agg [AV.int IntKind.i64 x0, AV.int IntKind.i64 x1, AV.int IntKind.i64 x2]))
           (.br (okE false [CS.int IntKind.i64] [mval (true, [EK.i, EK.i, EK.i]) y0 (AV.agg [AV.int IntKind.i64 x0, AV.int IntKind.i64 x1, AV.int IntKind.i64 x2])] 0)
            (.at ((intOf (cellAt [mval (true, [EK.i, EK.i, EK.i]) y0 (AV.agg [AV.int IntKind.i64 x0, AV.int IntKind.i64 x1, AV.int IntKind.i64 x2])] 0 0), intOf (cellAt [mval (true, [EK.i, EK.i, EK.i]) y0 (AV.agg [AV.int IntKind.i64 x0, AV.int IntKind.i64 x1, AV.int IntKind.i64 x2])] 0 0) != 0)))
            (.no))
           (.br (mnot (true, [EK.i, EK.i, EK.i]) y0 (AV.agg [AV.int IntKind.i64 x0, AV.int IntKind.i64 x1, AV.int IntKind.i64 x2])) (.at ((0, false))) (.no)))
          (.no)))
        (.br (x0 == 18)
         (.bi (br (x1 == x2) (some (x1 != 5)) (some false)) (fun y0 =>
          .at ((x1, y0)))
          (.no))
         (.bi (f_u30q) (fun y0 =>
          .br (mhas (true, [EK.i, EK.i, EK.i]) y0 (AV.agg [AV.int IntKind.i64 x0, AV.int IntKind.i64 x1, AV.int IntKind.i64 x2]))
           (.br (okE false [CS.int IntKind.i64] [mval (true, [EK.i, EK.i, EK.i]) y0 (AV.agg [AV.int IntKind.i64 x0, AV.int IntKind.i64 x1, AV.int IntKind.i64 x2])] 0)
            (.at ((intOf (cellAt [mval (true, [EK.i, EK.i, EK.i]) y0 (AV.agg [AV.int IntKind.i64 x0, AV.int IntKind.i64 x1, AV.int IntKind.i64 x2])] 0 0), intOf (cellAt [mval (true, [EK.i, EK.i, EK.i]) y0 (AV.agg [AV.int IntKind.i64 x0, AV.int IntKind.i64 x1, AV.int IntKind.i64 x2])] 0 0) != 0)))
            (.no))
           (.br (mnot (true, [EK.i, EK.i, EK.i]) y0 (AV.agg [AV.int IntKind.i64 x0, AV.int IntKind.i64 x1, AV.int IntKind.i64 x2])) (.at ((0, false))) (.no)))
          (.no)))))))))
  (.br (x0 == 11)
   (.at ((5, x1 == x2)))
   (.br (x0 == 12)
    (.br (x0 == 12)
     (.bi (br (x1 == x2) (some (x1 != 5)) (some false)) (fun y0 =>
      .at ((5, y0)))
      (.no))
     (.br (x0 == 14)
      (.br (x0 == 14)
       (.bi (br (x1 == x2) (some (x1 == 5)) (some false)) (fun y0 =>
        .at ((5, y0)))
        (.no))
       (.br (x0 == 17)
        (.br (x0 == 17)
         (.bi (br (x1 == x2) (some (x1 != 5)) (some false)) (fun y0 =>
          .at ((x1, y0)))
          (.no))
         (.bi (f_u30q) (fun y0 =>
          .br (mhas (true, [EK.i, EK.i, EK.i]) y0 (AV.agg [AV.int IntKind.i64 x0, AV.int IntKind.i64 x1, AV.int IntKind.i64 x2]))
           (.br (okE false [CS.int IntKind.i64] [mval (true, [EK.i, EK.i, EK.i]) y0 (AV.agg [AV.int IntKind.i64 x0, AV.int IntKind.i64 x1, AV.int IntKind.i64 x2])] 0)
            (.at ((intOf (cellAt [mval (true, [EK.i, EK.i, EK.i]) y0 (AV.agg [AV.int IntKind.i64 x0, AV.int IntKind.i64 x1, AV.int IntKind.i64 x2])] 0 0), intOf (cellAt [mval (true, [EK.i, EK.i, EK.i]) y0 (AV.agg [AV.int IntKind.i64 x0, AV.int IntKind.i64 x1, AV.int IntKind.i64 x2])] 0 0) != 0)))
            (.no))
           (.br (mnot (true, [EK.i, EK.i, EK.i]) y0 (AV.agg [AV.int IntKind.i64 x0, AV.int IntKind.i64 x1, AV.int IntKind.i64 x2])) (.at ((0, false))) (.no)))
          (.no)))
        (.br (x0 == 18)
         (.bi (br (x1 == x2) (some (x1 != 5)) (some false)) (fun y0 =>
          .at ((x1, y0)))
          (.no))
         (.bi (f_u30q) (fun y0 =>
          .br (mhas (true, [EK.i, EK.i, EK.i]) y0 (AV.agg [AV.int IntKind.i64 x0, AV.int IntKind.i64 x1, AV.int IntKind.i64 x2]))
           (.br (okE false [CS.int IntKind.i64] [mval (true, [EK.i, EK.i, EK.i]) y0 (AV.agg [AV.int IntKind.i64 x0, AV.int IntKind.i64 x1, AV.int IntKind.i64 x2])] 0)
            (.at ((intOf (cellAt [mval (true, [EK.i, EK.i, EK.i]) y0 (AV.agg [AV.int IntKind.i64 x0, AV.int IntKind.i64 x1, AV.int IntKind.i64 x2])] 0 0), intOf (cellAt [mval (true, [EK.i, EK.i, EK.i]) y0 (AV.agg [AV.int IntKind.i64 x0, AV.int IntKind.i64 x1, AV.int IntKind.i64 x2])] 0 0) != 0)))
            (.no))
           (.br (mnot (true, [EK.i, EK.i, EK.i]) y0 (AV.agg [AV.int IntKind.i64 x0, AV.int IntKind.i64 x1, AV.int IntKind.i64 x2])) (.at ((0, false))) (.no)))
          (.no)))))
      (.br (x0 == 15)
       (.bi (br (x1 == x2) (some (x1 == 5)) (some false)) (fun y0 =>
        .at ((5, y0)))
        (.no))
       (.br (x0 == 17)
        (.br (x0 == 17)
         (.bi (br (x1 == x2) (some (x1 != 5)) (some false)) (fun y0 =>
          .at ((x1, y0)))
          (.no))
         (.bi (f_u30q) (fun y0 =>
          .br (mhas (true, [EK.i, EK.i, EK.i]) y0 (AV.agg [AV.int IntKind.i64 x0, AV.int IntKind.i64 x1, AV.int IntKind.i64 x2]))
           (.br (okE false [CS.int IntKind.i64] [mval (true, [EK.i, EK.i, EK.i]) y0 (AV.agg [AV.int IntKind.i64 x0, AV.int IntKind.i64 x1, AV.int IntKind.i64 x2])] 0)
            (.at ((intOf (cellAt [mval (true, [EK.i, EK.i, EK.i]) y0 (AV.agg [AV.int IntKind.i64 x0, AV.int IntKind.i64 x1, AV.int IntKind.i64 x2])] 0 0), intOf (cellAt [mval (true, [EK.i, EK.i, EK.i]) y0 (AV.agg [AV.int IntKind.i64 x0, AV.int IntKind.i64 x1, AV.int IntKind.i64 x2])] 0 0) != 0)))
            (.no))
           (.br (mnot (true, [EK.i, EK.i, EK.i]) y0 (AV.agg [AV.int IntKind.i64 x0, AV.int IntKind.i64 x1, AV.int IntKind.i64 x2])) (.at ((0, false))) (.no)))
          (.no)))
        (.br (x0 == 18)
         (.bi (br (x1 == x2) (some (x1 != 5)) (some false)) (fun y0 =>
          .at ((x1, y0)))
          (.no))
         (.bi (f_u30q) (fun y0 =>
          .br (mhas (true, [EK.i, EK.i, EK.i]) y0 (AV.agg [AV.int IntKind.i64 x0, AV.int IntKind.i64 x1, AV.int IntKind.i64 x2]))
           (.br (okE false [CS.int IntKind.i64] [mval (true, [EK.i, EK.i, EK.i]) y0 (AV.agg [AV.int IntKind.i64 x0, AV.int IntKind.i64 x1, AV.int IntKind.i64 x2])] 0)
            (.at ((intOf (cellAt [mval (true, [EK.i, EK.i, EK.i]) y0 (AV.agg [AV.int IntKind.i64 x0, AV.int IntKind.i64 x1, AV.int IntKind.i64 x2])] 0 0), intOf (cellAt [mval (true, [EK.i, EK.i, EK.i]) y0 (AV.agg [AV.int IntKind.i64 x0, AV.int IntKind.i64 x1, AV.int IntKind.i64 x2])] 0 0) != 0)))
            (.no))
           (.br (mnot (true, [EK.i, EK.i, EK.i]) y0 (AV.agg [AV.int IntKind.i64 x0, AV.int IntKind.i64 x1, AV.int IntKind.i64 x2])) (.at ((0, false))) (.no)))
          (.no)))))))
    (.br (x0 == 13)
     (.bi (br (x1 == x2) (some (x1 != 5)) (some false)) (fun y0 =>
      .at ((5, y0)))
      (.no))
     (.br (x0 == 14)
      (.br (x0 == 14)
       (.bi (br (x1 == x2) (some (x1 == 5)) (some false)) (fun y0 =>
        .at ((5, y0)))
        (.no))
       (.br (x0 == 17)
        (.br (x0 == 17)
         (.bi (br (x1 == x2) (some (x1 != 5)) (some false)) (fun y0 =>
          .at ((x1, y0)))
          (.no))
         (.bi (f_u30q) (fun y0 =>
          .br (mhas (true, [EK.i, EK.i, EK.i]) y0 (AV.agg [AV.int IntKind.i64 x0, AV.int IntKind.i64 x1, AV.int IntKind.i64 x2]))
           (.br (okE false [CS.int IntKind.i64] [mval (true, [EK.i, EK.i, EK.i]) y0 (AV.agg [AV.int IntKind.i64 x0, AV.int IntKind.i64 x1, AV.int IntKind.i64 x2])] 0)
            (.at ((intOf (cellAt [mval (true, [EK.i, EK.i, EK.i]) y0 (AV.agg [AV.int IntKind.i64 x0, AV.int IntKind.i64 x1, AV.int IntKind.i64 x2])] 0 0), intOf (cellAt [mval (true, [EK.i, EK.i, EK.i]) y0 (AV.agg [AV.int IntKind.i64 x0, AV.int IntKind.i64 x1, AV.int IntKind.i64 x2])] 0 0) != 0)))
            (.no))
           (.br (mnot (true, [EK.i, EK.i, EK.i]) y0 (AV.agg [AV.int IntKind.i64 x0, AV.int IntKind.i64 x1, AV.int IntKind.i64 x2])) (.at ((0, false))) (.no)))
          (.no)))
        (.br (x0 == 18)
         (.bi (br (x1 == x2) (some (x1 != 5)) (some false)) (fun y0 =>
          .at ((x1, y0)))
          (.no))
         (.bi (f_u30q) (fun y0 =>
          .br (mhas (true, [EK.i, EK.i, EK.i]) y0 (AV.agg [AV.int IntKind.i64 x0, AV.int IntKind.i64 x1, AV.int IntKind.i64 x2]))
           (.br (okE false [CS.int IntKind.i64] [mval (true, [EK.i, EK.i, EK.i]) y0 (AV.agg [AV.int IntKind.i64 x0, AV.int IntKind.i64 x1, AV.int IntKind.i64 x2])] 0)
            (.at ((intOf (cellAt [mval (true, [EK.i, EK.i, EK.i]) y0 (AV.agg [AV.int IntKind.i64 x0, AV.int IntKind.i64 x1, AV.int IntKind.i64 x2])] 0 0), intOf (cellAt [mval (true, [EK.i, EK.i, EK.i]) y0 (AV.agg [AV.int IntKind.i64 x0, AV.int IntKind.i64 x1, AV.int IntKind.i64 x2])] 0 0) != 0)))
            (.no))
           (.br (mnot (true, [EK.i, EK.i, EK.i]) y0 (AV.agg [AV.int IntKind.i64 x0, AV.int IntKind.i64 x1, AV.int IntKind.i64 x2])) (.at ((0, false))) (.no)))
          (.no)))))
      (.br (x0 == 15)
       (.bi (br (x1 == x2) (some (x1 == 5)) (some false)) (fun y0 =>
        .at ((5, y0)))
        (.no))
       (.br (x0 == 17)
        (.br (x0 == 17)
         (.bi (br (x1 == x2) (some (x1 != 5)) (some false)) (fun y0 =>
          .at ((x1, y0)))
          (.no))
         (.bi (f_u30q) (fun y0 =>
          .br (mhas (true, [EK.i, EK.i, EK.i]) y0 (AV.agg [AV.int IntKind.i64 x0, AV.int IntKind.i64 x1, AV.int IntKind.i64 x2]))
           (.br (okE false [CS.int IntKind.i64] [mval (true, [EK.i, EK.i, EK.i]) y0 (AV.agg [AV.int IntKind.i64 x0, AV.int IntKind.i64 x1, AV.int IntKind.i64 x2])] 0)
            (.at ((intOf (cellAt [mval (true, [EK.i, EK.i, EK.i]) y0 (AV.agg [AV.int IntKind.i64 x0, AV.int IntKind.i64 x1, AV.int IntKind.i64 x2])] 0 0), intOf (cellAt [mval (true, [EK.i, EK.i, EK.i]) y0 (AV.agg [AV.int IntKind.i64 x0, AV.int IntKind.i64 x1, AV.int IntKind.i64 x2])] 0 0) != 0)))
            (.no))
           (.br (mnot (true, [EK.i, EK.i, EK.i]) y0 (AV.agg [AV.int IntKind.i64 x0, AV.int IntKind.i64 x1, AV.int IntKind.i64 x2])) (.at ((0, false))) (.no)))
          (.no)))
        (.br (x0 == 18)
         (.bi (br (x1 == x2) (some (x1 != 5)) (some false)) (fun y0 =>
          .at ((x1, y0)))
          (.no))
         (.bi (f_u30q) (fun y0 =>
          .br (mhas (true, [EK.i, EK.i, EK.i]) y0 (AV.agg [AV.int IntKind.i64 x0, AV.int IntKind.i64 x1, AV.int IntKind.i64 x2]))
           (.br (okE false [CS.int IntKind.i64] [mval (true, [EK.i, EK.i, EK.i]) y0 (AV.agg [AV.int IntKind.i64 x0, AV.int IntKind.i64 x1, AV.int IntKind.i64 x2])] 0)
            (.at ((intOf (cellAt [mval (true, [EK.i, EK.i, EK.i]) y0 (AV.agg [AV.int IntKind.i64 x0, AV.int IntKind.i64 x1, AV.int IntKind.i64 x2])] 0 0), intOf (cellAt [mval (true, [EK.i, EK.i, EK.i]) y0 (AV.agg [AV.int IntKind.i64 x0, AV.int IntKind.i64 x1, AV.int IntKind.i64 x2])] 0 0) != 0)))
            (.no))
           (.br (mnot (true, [EK.i, EK.i, EK.i]) y0 (AV.agg [AV.int IntKind.i64 x0, AV.int IntKind.i64 x1, AV.int IntKind.i64 x2])) (.at ((0, false))) (.no)))
          (.no)))))))))
noncomputable def f_u114q (x0 x1 x2 : Int) : Option B_u114q := lock (tr_u114q x0 x1 x2).ev
theorem f_u114q_eq (x0 x1 x2 : Int) : f_u114q x0 x1 x2 = (tr_u114q x0 x1 x2).ev := lock_eq _
theorem c_u114q : FH IP 113 p_u114q r_u114q (fun (v : Int × Int × Int) => (f_u114q v.1 v.2.1 v.2.2 : Option B_u114q)) := fun_FH (F := F113) (L := []) (t := fun (v : Int × Int × Int) => tr_u114q v.1 v.2.1 v.2.2) T62_ok (LOk_of (l := []) (by kernel_rfl) trivial) (by kernel_rfl) (fun v => by kernel_rfl) (fun v => f_u114q_eq v.1 v.2.1 v.2.2)
noncomputable def T63 : Tab := (113, FE p_u114q r_u114q (fun (v : Int × Int × Int) => (f_u114q v.1 v.2.1 v.2.2 : Option B_u114q))) :: T62
theorem T63_ok : TabOk IP T63 := ⟨FE_ok c_u114q, T62_ok⟩
abbrev B_u68q : Type := Int × Bool
def p_u68q : PArgs := ⟨[.int .i64, .view 1], []⟩
def r_u68q : List PRes := [⟨false, .tup [.int .i64, .bool], []⟩]
noncomputable def tr_u68q (x0 : Int) (x1 : List AV) : DT B_u68q :=
 .bi (pj 0 (l_u43q (x0, x1, x1, (↑x1.length : Int), 0))) (fun y0 =>
  .at ((0, false)))
  (.bi (pj 1 (l_u43q (x0, x1, x1, (↑x1.length : Int), 0))) (fun y0 =>
   .br ((↑y0.2.1.length : Int) == 1)
    (.br (okAt [CS.int IntKind.i64] y0.2.1 0)
     (.bi (f_u113q y0.1 (intOf (cellAt y0.2.1 0 0))) (fun y1 =>
      .br (!y1.2) (.at ((0, false))) (.at ((y1.1, true))))
      (.no))
     (.no))
    (.br ((↑y0.2.1.length : Int) == 2)
     (.br (okAt [CS.int IntKind.i64] y0.2.1 0)
      (.br (okAt [CS.int IntKind.i64] y0.2.1 1)
       (.bi (f_u114q y0.1 (intOf (cellAt y0.2.1 0 0)) (intOf (cellAt y0.2.1 1 0))) (fun y1 =>
        .br (!y1.2) (.at ((0, false))) (.at ((y1.1, true))))
        (.no))
       (.no))
      (.no))
     (.br ((↑y0.2.1.length : Int) == 3)
      (.br (okAt [CS.int IntKind.i64] y0.2.1 1)
       (.br (y0.1 == 19)
        (.br (okAt [CS.int IntKind.i64] y0.2.1 0)
         (.br (intOf (cellAt y0.2.1 0 0) == 5)
          (.br (okAt [CS.int IntKind.i64] y0.2.1 1)
           (.br (okAt [CS.int IntKind.i64] y0.2.1 2)
            (.br (!intOf (cellAt y0.2.1 1 0) == intOf (cellAt y0.2.1 2 0)) (.at ((0, false))) (.at ((intOf (cellAt y0.2.1 1 0), true))))
            (.no))
           (.no))
          (.at ((0, false))))
         (.no))
        (.at ((0, false))))
       (.no))
      (.at ((0, false))))))
   (.no))
noncomputable def f_u68q (x0 : Int) (x1 : List AV) : Option B_u68q := lock (tr_u68q x0 x1).ev
theorem f_u68q_eq (x0 : Int) (x1 : List AV) : f_u68q x0 x1 = (tr_u68q x0 x1).ev := lock_eq _
theorem c_u68q : FH IP 90 p_u68q r_u68q (fun (v : Int × List AV) => (f_u68q v.1 v.2 : Option B_u68q)) := fun_FH (F := F90) (L := [(1009000, ll_u43q)]) (t := fun (v : Int × List AV) => tr_u68q v.1 v.2) T63_ok (LOk_of (l := [loopAt F90 0]) (by kernel_rfl) ⟨sel_one (by kernel_rfl) t_u43q, trivial⟩) (by kernel_rfl) (fun v => by kernel_rfl) (fun v => f_u68q_eq v.1 v.2)
noncomputable def T64 : Tab := (90, FE p_u68q r_u68q (fun (v : Int × List AV) => (f_u68q v.1 v.2 : Option B_u68q))) :: T63
theorem T64_ok : TabOk IP T64 := ⟨FE_ok c_u68q, T63_ok⟩
abbrev B_u120q : Type := Int × Int
def p_u120q : PArgs := ⟨[.agg [.int .i64, .int .i64, .str, .view 4], .view 2], []⟩
def r_u120q : List PRes := [⟨false, .tup [.int .i64, .int .i64], []⟩]
abbrev GT_u120q : Type := Int → Int → (List UInt8) → (List AV) → (List AV) → Option B_u120q
def GH_u120q (G_u120q : GT_u120q) : Prop := FH IP 75 p_u120q r_u120q (fun (v : Int × Int × List UInt8 × List AV × List AV) => (G_u120q v.1 v.2.1 v.2.2.1 v.2.2.2.1 v.2.2.2.2 : Option B_u120q))
noncomputable def TG_u120q (G_u120q : GT_u120q) : Tab := (75, FE p_u120q r_u120q (fun (v : Int × Int × List UInt8 × List AV × List AV) => (G_u120q v.1 v.2.1 v.2.2.1 v.2.2.2.1 v.2.2.2.2 : Option B_u120q))) :: T64
theorem TG_u120q_ok (G_u120q : GT_u120q) (hG : GH_u120q G_u120q) : TabOk IP (TG_u120q G_u120q) := ⟨FE_ok (hG), T64_ok⟩
abbrev TT_u99q : Type := (List AV × List AV × Int × Int × Int × Int × List UInt8 × List AV) ⊕ (List AV × List AV × Int × Int × Int × Int × List UInt8 × List AV × List AV)
def hs_u99q : List PSt := [⟨[(1007500, .junk), (1, .view 2), (2, .ref 0 0 0), (6, .nils 1), (30, .view 4), (31, .int .i64), (32, .int .i64)], [(0, .box [.int .i64, .int .i64, .str, .view 4] false)], 1, 0⟩, ⟨[(1007500, .junk), (1, .view 2), (2, .ref 0 0 0), (6, .own 1 0), (30, .view 4), (31, .int .i64), (32, .int .i64)], [(0, .box [.int .i64, .int .i64, .str, .view 4] false), (1, .arr 1 false)], 2, 0⟩]
noncomputable def x_u99q_0 (G_u120q : GT_u120q) (x0 x1 : List AV) (x2 x3 : Int) (x4 x5 : Int) (x6 : List UInt8) (x7 : List AV) : X × St := (X.ret,
  {
    tm :=
      [(2, AV.ref 0 0 0), (4, AV.int IntKind.i64 0),
        (5, AV.int IntKind.i64 (gv (G_u120q (intOf (cellAt x1 x3 0)) (intOf (cellAt x1 x3 1)) (strOf (cellAt x1 x3 2)) (viewOf (cellAt x1 x3 3)) x0)).2),
        (6, AV.nils { sz := 1, kd := NKd.nil })],
    hp := [(0, Blk.box [AV.int IntKind.i64 x4, AV.int IntKind.i64 x5, AV.str x6, AV.view 4 x7] false)], nx := 1, k := 0 })
noncomputable def x_u99q_1 (G_u120q : GT_u120q) (x0 x1 : List AV) (x2 x3 : Int) (x4 x5 : Int) (x6 : List UInt8) (x7 : List AV) : X × St := (X.exit 1,
  { tm := [(2, AV.ref 0 0 0), (4, AV.junk), (5, AV.junk), (6, AV.nils { sz := 1, kd := NKd.nil })],
    hp := [(0, Blk.box [AV.int IntKind.i64 x4, AV.int IntKind.i64 x5, AV.str x6, AV.view 4 x7] false)], nx := 1, k := 0 })
noncomputable def x_u99q_2 (G_u120q : GT_u120q) (x0 x1 : List AV) (x2 x3 : Int) (x4 x5 : Int) (x6 : List UInt8) (x7 x8 : List AV) : X × St := (X.ret,
  {
    tm :=
      [(2, AV.ref 0 0 0), (4, AV.int IntKind.i64 0),
        (5, AV.int IntKind.i64 (gv (G_u120q (intOf (cellAt x1 x3 0)) (intOf (cellAt x1 x3 1)) (strOf (cellAt x1 x3 2)) (viewOf (cellAt x1 x3 3)) x0)).2),
        (6, AV.own 1 0 none)],
    hp := [(0, Blk.box [AV.int IntKind.i64 x4, AV.int IntKind.i64 x5, AV.str x6, AV.view 4 x7] false), (1, Blk.arr 1 x8 false)], nx := 2, k := 0 })
noncomputable def x_u99q_3 (G_u120q : GT_u120q) (x0 x1 : List AV) (x2 x3 : Int) (x4 x5 : Int) (x6 : List UInt8) (x7 x8 : List AV) : X × St := (X.exit 1,
  { tm := [(2, AV.ref 0 0 0), (4, AV.junk), (5, AV.junk), (6, AV.own 1 0 none)],
    hp := [(0, Blk.box [AV.int IntKind.i64 x4, AV.int IntKind.i64 x5, AV.str x6, AV.view 4 x7] false), (1, Blk.arr 1 x8 false)], nx := 2, k := 0 })
noncomputable def x_u99q (G_u120q : GT_u120q) : List (TT_u99q → X × St) := [fun w => x_u99q_0 G_u120q (sl w).1 (sl w).2.1 (sl w).2.2.1 (sl w).2.2.2.1 (sl w).2.2.2.2.1 (sl w).2.2.2.2.2.1 (sl w).2.2.2.2.2.2.1 (sl w).2.2.2.2.2.2.2, fun w => x_u99q_1 G_u120q (sl w).1 (sl w).2.1 (sl w).2.2.1 (sl w).2.2.2.1 (sl w).2.2.2.2.1 (sl w).2.2.2.2.2.1 (sl w).2.2.2.2.2.2.1 (sl w).2.2.2.2.2.2.2, fun w => x_u99q_2 G_u120q (sr w).1 (sr w).2.1 (sr w).2.2.1 (sr w).2.2.2.1 (sr w).2.2.2.2.1 (sr w).2.2.2.2.2.1 (sr w).2.2.2.2.2.2.1 (sr w).2.2.2.2.2.2.2.1 (sr w).2.2.2.2.2.2.2.2, fun w => x_u99q_3 G_u120q (sr w).1 (sr w).2.1 (sr w).2.2.1 (sr w).2.2.2.1 (sr w).2.2.2.2.1 (sr w).2.2.2.2.2.1 (sr w).2.2.2.2.2.2.1 (sr w).2.2.2.2.2.2.2.1 (sr w).2.2.2.2.2.2.2.2]
noncomputable def st_u99q_0 (G_u120q : GT_u120q) (x0 x1 : List AV) (x2 x3 : Int) (x4 x5 : Int) (x6 : List UInt8) (x7 : List AV) : DT (Rd TT_u99q) :=
 .br (decide (x3 < x2))
  (.br (okAt [CS.int IntKind.i64, CS.int IntKind.i64, CS.str, CS.slice 4] x1 x3)
   (.bi (G_u120q (intOf (cellAt x1 x3 0)) (intOf (cellAt x1 x3 1)) (strOf (cellAt x1 x3 2)) (viewOf (cellAt x1 x3 3)) x0) (fun y0 =>
    .br (y0.2 != 0) (.at (.done 0)) (.at (.next ((.inr (x0, x1, x2, IntKind.i64.wrap (x3 + 1), x4, x5, x6, x7, [AV.int IntKind.i64 y0.1]))))))
    (.no))
   (.no))
  (.at (.done 1))
noncomputable def st_u99q_1 (G_u120q : GT_u120q) (x0 x1 : List AV) (x2 x3 : Int) (x4 x5 : Int) (x6 : List UInt8) (x7 x8 : List AV) : DT (Rd TT_u99q) :=
 .br (decide (x3 < x2))
  (.br (okAt [CS.int IntKind.i64, CS.int IntKind.i64, CS.str, CS.slice 4] x1 x3)
   (.bi (G_u120q (intOf (cellAt x1 x3 0)) (intOf (cellAt x1 x3 1)) (strOf (cellAt x1 x3 2)) (viewOf (cellAt x1 x3 3)) x0) (fun y0 =>
    .br (y0.2 != 0)
     (.at (.done 2))
     (.br (room (x8.length + 1) 8) (.at (.next ((.inr (x0, x1, x2, IntKind.i64.wrap (x3 + 1), x4, x5, x6, x7, x8 ++ [AV.int IntKind.i64 y0.1]))))) (.no)))
    (.no))
   (.no))
  (.at (.done 3))
noncomputable def st_u99q (G_u120q : GT_u120q) : TT_u99q → DT (Rd TT_u99q) := (Sum.elim (fun v => st_u99q_0 G_u120q v.1 v.2.1 v.2.2.1 v.2.2.2.1 v.2.2.2.2.1 v.2.2.2.2.2.1 v.2.2.2.2.2.2.1 v.2.2.2.2.2.2.2) (fun v => st_u99q_1 G_u120q v.1 v.2.1 v.2.2.1 v.2.2.2.1 v.2.2.2.2.1 v.2.2.2.2.2.1 v.2.2.2.2.2.2.1 v.2.2.2.2.2.2.2.1 v.2.2.2.2.2.2.2.2))
noncomputable def l_u99q (G_u120q : GT_u120q) (v : TT_u99q) : Option (Nat × TT_u99q) := lock (iterO (fun v => (st_u99q G_u120q v).ev) v)
theorem l_u99q_eq (G_u120q : GT_u120q) (v : TT_u99q) : l_u99q G_u120q v = iterO (fun v => (st_u99q G_u120q v).ev) v := lock_eq _
noncomputable def ll_u99q (G_u120q : GT_u120q) : LEnt := LE (τ := TT_u99q) (hD hs_u99q) (l_u99q G_u120q) (x_u99q G_u120q)
theorem t_u99q (G_u120q : GT_u120q) (hG : GH_u120q G_u120q) : Go.Eng.Told IP (loopAt F75 0).1 (loopAt F75 0).2 (ll_u99q G_u120q) := loop_LE (inferInstance : Inhabited TT_u99q) (hs := hs_u99q) (st := st_u99q G_u120q) (L := []) (TG_u120q_ok G_u120q hG) (LOk_of (l := []) (by kernel_rfl) trivial) (l_u99q_eq G_u120q) (fun v => match v with | (.inl v) => by kernel_rfl | (.inr v) => by kernel_rfl) (fun v => match v with | (.inl v) => by kernel_rfl | (.inr v) => by kernel_rfl)
noncomputable def tr_u120q (G_u120q : GT_u120q) (x0 x1 : Int) (x2 : List UInt8) (x3 x4 : List AV) : DT B_u120q :=
 .br (x0 == 1)
  (.at ((1, 0)))
  (.br (x0 == 2)
   (.at ((2, 0)))
   (.br (x0 == 3)
    (.at ((3, 0)))
    (.br (x0 == 4)
     (.bi (f_u44q x2 x4) (fun y0 =>
      .at ((y0.1, y0.2)))
      (.no))
     (.bi (pj 0 (l_u99q G_u120q (Sum.inl (x4, x3, (↑x3.length : Int), 0, x0, x1, x2, x3)))) (fun y0 =>
      .at ((0, (gv
    (G_u120q (intOf (cellAt (sl y0).2.1 (sl y0).2.2.2.1 0)) (intOf (cellAt (sl y0).2.1 (sl y0).2.2.2.1 1))
      (strOf (cellAt (sl y0).2.1 (sl y0).2.2.2.1 2)) (viewOf (cellAt (sl y0).2.1 (sl y0).2.2.2.1 3)) (sl y0).1)).2)))
      (.bi (pj 1 (l_u99q G_u120q (Sum.inl (x4, x3, (↑x3.length : Int), 0, x0, x1, x2, x3)))) (fun y0 =>
       .bi (f_u68q (sl y0).2.2.2.2.1 []) (fun y1 =>
        .br (!y1.2) (.at ((0, 3))) (.at ((y1.1, 0))))
        (.no))
       (.bi (pj 2 (l_u99q G_u120q (Sum.inl (x4, x3, (↑x3.length : Int), 0, x0, x1, x2, x3)))) (fun y0 =>
        .at ((0, (gv
    (G_u120q (intOf (cellAt (sr y0).2.1 (sr y0).2.2.2.1 0)) (intOf (cellAt (sr y0).2.1 (sr y0).2.2.2.1 1))
      (strOf (cellAt (sr y0).2.1 (sr y0).2.2.2.1 2)) (viewOf (cellAt (sr y0).2.1 (sr y0).2.2.2.1 3)) (sr y0).1)).2)))
        (.bi (pj 3 (l_u99q G_u120q (Sum.inl (x4, x3, (↑x3.length : Int), 0, x0, x1, x2, x3)))) (fun y0 =>
         .bi (f_u68q (sr y0).2.2.2.2.1 (sr y0).2.2.2.2.2.2.2.2) (fun y1 =>
          .br (!y1.2) (.at ((0, 3))) (.at ((y1.1, 0))))
          (.no))
         (.no))))))))
noncomputable def N_u120q : Nat → GT_u120q
  | 0 => fun _ _ _ _ _ => none
  | n + 1 => fun x0 x1 x2 x3 x4 => (tr_u120q ((N_u120q n)) x0 x1 x2 x3 x4).ev
noncomputable def f_u120q (x0 x1 : Int) (x2 : List UInt8) (x3 x4 : List AV) : Option B_u120q := limO fun n => (N_u120q n) x0 x1 x2 x3 x4
theorem N_u120q_ok : ∀ n, GH_u120q ((N_u120q n))
  | 0 => (fun v y h => nomatch h)
  | n + 1 => have hG := N_u120q_ok n
    fun_FH (F := F75) (L := [(1007500, ll_u99q ((N_u120q n)))]) (t := fun (v : Int × Int × List UInt8 × List AV × List AV) => tr_u120q ((N_u120q n)) v.1 v.2.1 v.2.2.1 v.2.2.2.1 v.2.2.2.2) (TG_u120q_ok ((N_u120q n)) hG) (LOk_of (l := [loopAt F75 0]) (by kernel_rfl) ⟨sel_one (by kernel_rfl) (t_u99q ((N_u120q n)) hG), trivial⟩) (by kernel_rfl) (fun v => by kernel_rfl) (fun v => rfl)
theorem c_u120q : FH IP 75 p_u120q r_u120q (fun (v : Int × Int × List UInt8 × List AV × List AV) => (f_u120q v.1 v.2.1 v.2.2.1 v.2.2.2.1 v.2.2.2.2 : Option B_u120q)) := lim_FH (p := p_u120q) (rs := r_u120q) (s := fun n (v : Int × Int × List UInt8 × List AV × List AV) => (N_u120q n) v.1 v.2.1 v.2.2.1 v.2.2.2.1 v.2.2.2.2) fun n => (N_u120q_ok n)
noncomputable def T65 : Tab := (75, FE p_u120q r_u120q (fun (v : Int × Int × List UInt8 × List AV × List AV) => (f_u120q v.1 v.2.1 v.2.2.1 v.2.2.2.1 v.2.2.2.2 : Option B_u120q))) :: T64
theorem T65_ok : TabOk IP T65 := ⟨FE_ok c_u120q, T64_ok⟩
abbrev B_u119q : Type := Int × Int
def p_u119q : PArgs := ⟨[.agg [.int .i64, .int .i64, .str, .view 4], .view 2], []⟩
def r_u119q : List PRes := [⟨false, .tup [.int .i64, .int .i64], []⟩]
noncomputable def tr_u119q (x0 x1 : Int) (x2 : List UInt8) (x3 x4 : List AV) : DT B_u119q :=
 .bi (f_u59q x0 x1 x2 x3) (fun y0 =>
  .br (y0 != 0)
   (.at ((0, y0)))
   (.bi (f_u120q x0 x1 x2 x3 x4) (fun y1 =>
    .at ((y1.1, y1.2)))
    (.no)))
  (.no)
noncomputable def f_u119q (x0 x1 : Int) (x2 : List UInt8) (x3 x4 : List AV) : Option B_u119q := lock (tr_u119q x0 x1 x2 x3 x4).ev
theorem f_u119q_eq (x0 x1 : Int) (x2 : List UInt8) (x3 x4 : List AV) : f_u119q x0 x1 x2 x3 x4 = (tr_u119q x0 x1 x2 x3 x4).ev := lock_eq _
theorem c_u119q : FH IP 62 p_u119q r_u119q (fun (v : Int × Int × List UInt8 × List AV × List AV) => (f_u119q v.1 v.2.1 v.2.2.1 v.2.2.2.1 v.2.2.2.2 : Option B_u119q)) := fun_FH (F := F62) (L := []) (t := fun (v : Int × Int × List UInt8 × List AV × List AV) => tr_u119q v.1 v.2.1 v.2.2.1 v.2.2.2.1 v.2.2.2.2) T65_ok (LOk_of (l := []) (by kernel_rfl) trivial) (by kernel_rfl) (fun v => by kernel_rfl) (fun v => f_u119q_eq v.1 v.2.1 v.2.2.1 v.2.2.2.1 v.2.2.2.2)
noncomputable def T66 : Tab := (62, FE p_u119q r_u119q (fun (v : Int × Int × List UInt8 × List AV × List AV) => (f_u119q v.1 v.2.1 v.2.2.1 v.2.2.2.1 v.2.2.2.2 : Option B_u119q))) :: T65
theorem T66_ok : TabOk IP T66 := ⟨FE_ok c_u119q, T65_ok⟩
abbrev B_u90q : Type := Int
def p_u90q : PArgs := ⟨[.agg [.int .i64, .int .i64, .str, .view 4], .view 2, .int .i64], []⟩
def r_u90q : List PRes := [⟨false, .int .i64, []⟩]
noncomputable def tr_u90q (x0 x1 : Int) (x2 : List UInt8) (x3 x4 : List AV) (x5 : Int) : DT B_u90q :=
 .bi (f_u119q x0 x1 x2 x3 x4) (fun y0 =>
  .bi (br (y0.2 == 0) (some (y0.1 != x5)) (some false)) (fun y1 =>
   .br (y1) (.at (3)) (.at (y0.2)))
   (.no))
  (.no)
noncomputable def f_u90q (x0 x1 : Int) (x2 : List UInt8) (x3 x4 : List AV) (x5 : Int) : Option B_u90q := lock (tr_u90q x0 x1 x2 x3 x4 x5).ev
theorem f_u90q_eq (x0 x1 : Int) (x2 : List UInt8) (x3 x4 : List AV) (x5 : Int) : f_u90q x0 x1 x2 x3 x4 x5 = (tr_u90q x0 x1 x2 x3 x4 x5).ev := lock_eq _
theorem c_u90q : FH IP 55 p_u90q r_u90q (fun (v : Int × Int × List UInt8 × List AV × List AV × Int) => (f_u90q v.1 v.2.1 v.2.2.1 v.2.2.2.1 v.2.2.2.2.1 v.2.2.2.2.2 : Option B_u90q)) := fun_FH (F := F55) (L := []) (t := fun (v : Int × Int × List UInt8 × List AV × List AV × Int) => tr_u90q v.1 v.2.1 v.2.2.1 v.2.2.2.1 v.2.2.2.2.1 v.2.2.2.2.2) T66_ok (LOk_of (l := []) (by kernel_rfl) trivial) (by kernel_rfl) (fun v => by kernel_rfl) (fun v => f_u90q_eq v.1 v.2.1 v.2.2.1 v.2.2.2.1 v.2.2.2.2.1 v.2.2.2.2.2)
noncomputable def T67 : Tab := (55, FE p_u90q r_u90q (fun (v : Int × Int × List UInt8 × List AV × List AV × Int) => (f_u90q v.1 v.2.1 v.2.2.1 v.2.2.2.1 v.2.2.2.2.1 v.2.2.2.2.2 : Option B_u90q))) :: T66
theorem T67_ok : TabOk IP T67 := ⟨FE_ok c_u90q, T66_ok⟩
abbrev B_u94q : Type := Int
def p_u94q : PArgs := ⟨[.agg [.str, .int .i64, .int .i64, .int .i64, .str, .view 4, .int .i64, .int .i64, .str, .view 4]], []⟩
def r_u94q : List PRes := [⟨false, .int .i64, []⟩]
noncomputable def tr_u94q (x0 : List UInt8) (x1 x2 x3 : Int) (x4 : List UInt8) (x5 : List AV) (x6 x7 : Int) (x8 : List UInt8) (x9 : List AV) : DT B_u94q :=
 .bi (f_u79q x0) (fun y0 =>
  .br (!y0)
   (.at (4))
   (.bi (br (decide (x1 < 1)) (some true) (some (decide (x1 > 4)))) (fun y1 =>
    .br (y1)
     (.at (1))
     (.bi (f_u77q) (fun y2 =>
      .bi (f_u90q x2 x3 x4 x5 y2 5) (fun y3 =>
       .br (y3 != 0)
        (.at (y3))
        (.bi (f_u77q) (fun y4 =>
         .bi (f_u90q x6 x7 x8 x9 y4 2) (fun y5 =>
          .at (y5))
          (.no))
         (.no)))
       (.no))
      (.no)))
    (.no)))
  (.no)
noncomputable def f_u94q (x0 : List UInt8) (x1 x2 x3 : Int) (x4 : List UInt8) (x5 : List AV) (x6 x7 : Int) (x8 : List UInt8) (x9 : List AV) : Option B_u94q := lock (tr_u94q x0 x1 x2 x3 x4 x5 x6 x7 x8 x9).ev
theorem f_u94q_eq (x0 : List UInt8) (x1 x2 x3 : Int) (x4 : List UInt8) (x5 : List AV) (x6 x7 : Int) (x8 : List UInt8) (x9 : List AV) : f_u94q x0 x1 x2 x3 x4 x5 x6 x7 x8 x9 = (tr_u94q x0 x1 x2 x3 x4 x5 x6 x7 x8 x9).ev := lock_eq _
theorem c_u94q : FH IP 29 p_u94q r_u94q (fun (v : List UInt8 × Int × Int × Int × List UInt8 × List AV × Int × Int × List UInt8 × List AV) => (f_u94q v.1 v.2.1 v.2.2.1 v.2.2.2.1 v.2.2.2.2.1 v.2.2.2.2.2.1 v.2.2.2.2.2.2.1 v.2.2.2.2.2.2.2.1 v.2.2.2.2.2.2.2.2.1 v.2.2.2.2.2.2.2.2.2 : Option B_u94q)) := fun_FH (F := F29) (L := []) (t := fun (v : List UInt8 × Int × Int × Int × List UInt8 × List AV × Int × Int × List UInt8 × List AV) => tr_u94q v.1 v.2.1 v.2.2.1 v.2.2.2.1 v.2.2.2.2.1 v.2.2.2.2.2.1 v.2.2.2.2.2.2.1 v.2.2.2.2.2.2.2.1 v.2.2.2.2.2.2.2.2.1 v.2.2.2.2.2.2.2.2.2) T67_ok (LOk_of (l := []) (by kernel_rfl) trivial) (by kernel_rfl) (fun v => by kernel_rfl) (fun v => f_u94q_eq v.1 v.2.1 v.2.2.1 v.2.2.2.1 v.2.2.2.2.1 v.2.2.2.2.2.1 v.2.2.2.2.2.2.1 v.2.2.2.2.2.2.2.1 v.2.2.2.2.2.2.2.2.1 v.2.2.2.2.2.2.2.2.2)
noncomputable def T68 : Tab := (29, FE p_u94q r_u94q (fun (v : List UInt8 × Int × Int × Int × List UInt8 × List AV × Int × Int × List UInt8 × List AV) => (f_u94q v.1 v.2.1 v.2.2.1 v.2.2.2.1 v.2.2.2.2.1 v.2.2.2.2.2.1 v.2.2.2.2.2.2.1 v.2.2.2.2.2.2.2.1 v.2.2.2.2.2.2.2.2.1 v.2.2.2.2.2.2.2.2.2 : Option B_u94q))) :: T67
theorem T68_ok : TabOk IP T68 := ⟨FE_ok c_u94q, T67_ok⟩
abbrev TT_u38q : Type := List AV × Int × Int × List UInt8 × List UInt8 × List UInt8 × Int × Int × Int × Int × List AV × Bool × Int × Int × Bool × List AV × Bool × Int × Int × Bool × List AV × List AV
def hs_u38q : List PSt := [⟨[(1001201, .junk), (3, .ref 0 0 0), (49, .view 10), (50, .int .i64), (51, .int .i64)], [(0, .box [.str, .str, .str, .int .i64, .int .i64, .int .i64, .int .i64, .view 2, .bool, .int .i64, .int .i64, .bool, .view 2, .bool, .int .i64, .int .i64, .bool, .view 10, .view 6] false)], 1, 0⟩]
noncomputable def x_u38q_0 (x0 : List AV) (x1 x2 : Int) (x3 x4 x5 : List UInt8) (x6 x7 : Int) (x8 x9 : Int) (x10 : List AV) (x11 : Bool) (x12 x13 : Int) (x14 : Bool) (x15 : List AV) (x16 : Bool) (x17 x18 : Int) (x19 : Bool) (x20 x21 : List AV) : X × St := (X.ret,
  {
    tm :=
      [(3, AV.ref 0 0 0),
        (6,
          AV.int IntKind.i64
            (gv
              (f_u94q (strOf (cellAt x0 x2 0)) (intOf (cellAt x0 x2 1)) (intOf (cellAt x0 x2 2)) (intOf (cellAt x0 x2 3)) (strOf (cellAt x0 x2 4)) (viewOf (cellAt x0 x2 5))
                (intOf (cellAt x0 x2 6)) (intOf (cellAt x0 x2 7)) (strOf (cellAt x0 x2 8)) (viewOf (cellAt x0 x2 9)))))],
    hp :=
      [(0,
          Blk.box
            [AV.str x3, AV.str x4, AV.str x5, AV.int IntKind.i64 x6, AV.int IntKind.i64 x7, AV.int IntKind.i64 x8, AV.int IntKind.i64 x9, AV.view 2 x10, AV.bool x11,
              AV.int IntKind.i64 x12, AV.int IntKind.i64 x13, AV.bool x14, AV.view 2 x15, AV.bool x16, AV.int IntKind.i64 x17, AV.int IntKind.i64 x18, AV.bool x19, AV.view 10 x20,
              AV.view 6 x21]
            false)],
    nx := 1, k := 0 })
noncomputable def x_u38q_1 (x0 : List AV) (x1 x2 : Int) (x3 x4 x5 : List UInt8) (x6 x7 : Int) (x8 x9 : Int) (x10 : List AV) (x11 : Bool) (x12 x13 : Int) (x14 : Bool) (x15 : List AV) (x16 : Bool) (x17 x18 : Int) (x19 : Bool) (x20 x21 : List AV) : X × St := (X.exit 2,
  { tm := [(3, AV.ref 0 0 0), (6, AV.junk)],
    hp :=
      [(0,
          Blk.box
            [AV.str x3, AV.str x4, AV.str x5, AV.int IntKind.i64 x6, AV.int IntKind.i64 x7, AV.int IntKind.i64 x8, AV.int IntKind.i64 x9, AV.view 2 x10, AV.bool x11,
              AV.int IntKind.i64 x12, AV.int IntKind.i64 x13, AV.bool x14, AV.view 2 x15, AV.bool x16, AV.int IntKind.i64 x17, AV.int IntKind.i64 x18, AV.bool x19, AV.view 10 x20,
              AV.view 6 x21]
            false)],
    nx := 1, k := 0 })
noncomputable def x_u38q : List (TT_u38q → X × St) := [fun w => x_u38q_0 w.1 w.2.1 w.2.2.1 w.2.2.2.1 w.2.2.2.2.1 w.2.2.2.2.2.1 w.2.2.2.2.2.2.1 w.2.2.2.2.2.2.2.1 w.2.2.2.2.2.2.2.2.1 w.2.2.2.2.2.2.2.2.2.1 w.2.2.2.2.2.2.2.2.2.2.1 w.2.2.2.2.2.2.2.2.2.2.2.1 w.2.2.2.2.2.2.2.2.2.2.2.2.1 w.2.2.2.2.2.2.2.2.2.2.2.2.2.1 w.2.2.2.2.2.2.2.2.2.2.2.2.2.2.1 w.2.2.2.2.2.2.2.2.2.2.2.2.2.2.2.1 w.2.2.2.2.2.2.2.2.2.2.2.2.2.2.2.2.1 w.2.2.2.2.2.2.2.2.2.2.2.2.2.2.2.2.2.1 w.2.2.2.2.2.2.2.2.2.2.2.2.2.2.2.2.2.2.1 w.2.2.2.2.2.2.2.2.2.2.2.2.2.2.2.2.2.2.2.1 w.2.2.2.2.2.2.2.2.2.2.2.2.2.2.2.2.2.2.2.2.1 w.2.2.2.2.2.2.2.2.2.2.2.2.2.2.2.2.2.2.2.2.2, fun w => x_u38q_1 w.1 w.2.1 w.2.2.1 w.2.2.2.1 w.2.2.2.2.1 w.2.2.2.2.2.1 w.2.2.2.2.2.2.1 w.2.2.2.2.2.2.2.1 w.2.2.2.2.2.2.2.2.1 w.2.2.2.2.2.2.2.2.2.1 w.2.2.2.2.2.2.2.2.2.2.1 w.2.2.2.2.2.2.2.2.2.2.2.1 w.2.2.2.2.2.2.2.2.2.2.2.2.1 w.2.2.2.2.2.2.2.2.2.2.2.2.2.1 w.2.2.2.2.2.2.2.2.2.2.2.2.2.2.1 w.2.2.2.2.2.2.2.2.2.2.2.2.2.2.2.1 w.2.2.2.2.2.2.2.2.2.2.2.2.2.2.2.2.1 w.2.2.2.2.2.2.2.2.2.2.2.2.2.2.2.2.2.1 w.2.2.2.2.2.2.2.2.2.2.2.2.2.2.2.2.2.2.1 w.2.2.2.2.2.2.2.2.2.2.2.2.2.2.2.2.2.2.2.1 w.2.2.2.2.2.2.2.2.2.2.2.2.2.2.2.2.2.2.2.2.1 w.2.2.2.2.2.2.2.2.2.2.2.2.2.2.2.2.2.2.2.2.2]
noncomputable def st_u38q_0 (x0 : List AV) (x1 x2 : Int) (x3 x4 x5 : List UInt8) (x6 x7 : Int) (x8 x9 : Int) (x10 : List AV) (x11 : Bool) (x12 x13 : Int) (x14 : Bool) (x15 : List AV) (x16 : Bool) (x17 x18 : Int) (x19 : Bool) (x20 x21 : List AV) : DT (Rd TT_u38q) :=
 .br (decide (x2 < x1))
  (.br (okAt [CS.str, CS.int IntKind.i64, CS.int IntKind.i64, CS.int IntKind.i64, CS.str, CS.slice 4, CS.int IntKind.i64, CS.int IntKind.i64, CS.str, CS.slice 4] x0 x2)
   (.bi (f_u94q (strOf (cellAt x0 x2 0)) (intOf (cellAt x0 x2 1)) (intOf (cellAt x0 x2 2)) (intOf (cellAt x0 x2 3)) (strOf (cellAt x0 x2 4)) (viewOf (cellAt x0 x2 5))
       (intOf (cellAt x0 x2 6)) (intOf (cellAt x0 x2 7)) (strOf (cellAt x0 x2 8)) (viewOf (cellAt x0 x2 9))) (fun y0 =>
    .br (y0 != 0) (.at (.done 0)) (.at (.next ((x0, x1, IntKind.i64.wrap (x2 + 1), x3, x4, x5, x6, x7, x8, x9, x10, x11, x12, x13, x14, x15, x16, x17, x18, x19, x20, x21)))))
    (.no))
   (.no))
  (.at (.done 1))
noncomputable def st_u38q : TT_u38q → DT (Rd TT_u38q) := (fun v => st_u38q_0 v.1 v.2.1 v.2.2.1 v.2.2.2.1 v.2.2.2.2.1 v.2.2.2.2.2.1 v.2.2.2.2.2.2.1 v.2.2.2.2.2.2.2.1 v.2.2.2.2.2.2.2.2.1 v.2.2.2.2.2.2.2.2.2.1 v.2.2.2.2.2.2.2.2.2.2.1 v.2.2.2.2.2.2.2.2.2.2.2.1 v.2.2.2.2.2.2.2.2.2.2.2.2.1 v.2.2.2.2.2.2.2.2.2.2.2.2.2.1 v.2.2.2.2.2.2.2.2.2.2.2.2.2.2.1 v.2.2.2.2.2.2.2.2.2.2.2.2.2.2.2.1 v.2.2.2.2.2.2.2.2.2.2.2.2.2.2.2.2.1 v.2.2.2.2.2.2.2.2.2.2.2.2.2.2.2.2.2.1 v.2.2.2.2.2.2.2.2.2.2.2.2.2.2.2.2.2.2.1 v.2.2.2.2.2.2.2.2.2.2.2.2.2.2.2.2.2.2.2.1 v.2.2.2.2.2.2.2.2.2.2.2.2.2.2.2.2.2.2.2.2.1 v.2.2.2.2.2.2.2.2.2.2.2.2.2.2.2.2.2.2.2.2.2)
noncomputable def l_u38q (v : TT_u38q) : Option (Nat × TT_u38q) := lock (iterO (fun v => (st_u38q v).ev) v)
theorem l_u38q_eq (v : TT_u38q) : l_u38q v = iterO (fun v => (st_u38q v).ev) v := lock_eq _
noncomputable def ll_u38q : LEnt := LE (τ := TT_u38q) (hD hs_u38q) (l_u38q) x_u38q
theorem t_u38q : Go.Eng.Told IP (loopAt F12 1).1 (loopAt F12 1).2 (ll_u38q) := loop_LE (inferInstance : Inhabited TT_u38q) (hs := hs_u38q) (st := st_u38q) (L := []) T68_ok (LOk_of (l := []) (by kernel_rfl) trivial) (l_u38q_eq) (fun v => by kernel_rfl) (fun v => by kernel_rfl)
abbrev B_u80q : Type := Int
def p_u80q : PArgs := ⟨[.agg [.str, .int .i64, .int .i64, .int .i64, .str, .view 4]], []⟩
def r_u80q : List PRes := [⟨false, .int .i64, []⟩]
noncomputable def tr_u80q (x0 : List UInt8) (x1 x2 x3 : Int) (x4 : List UInt8) (x5 : List AV) : DT B_u80q :=
 .bi (f_u79q x0) (fun y0 =>
  .br (!y0)
   (.at (4))
   (.bi (br (decide (x1 < 1)) (some true) (some (decide (x1 > 3)))) (fun y1 =>
    .br (y1)
     (.at (1))
     (.bi (f_u77q) (fun y2 =>
      .bi (f_u90q x2 x3 x4 x5 y2 2) (fun y3 =>
       .at (y3))
       (.no))
      (.no)))
    (.no)))
  (.no)
noncomputable def f_u80q (x0 : List UInt8) (x1 x2 x3 : Int) (x4 : List UInt8) (x5 : List AV) : Option B_u80q := lock (tr_u80q x0 x1 x2 x3 x4 x5).ev
theorem f_u80q_eq (x0 : List UInt8) (x1 x2 x3 : Int) (x4 : List UInt8) (x5 : List AV) : f_u80q x0 x1 x2 x3 x4 x5 = (tr_u80q x0 x1 x2 x3 x4 x5).ev := lock_eq _
theorem c_u80q : FH IP 30 p_u80q r_u80q (fun (v : List UInt8 × Int × Int × Int × List UInt8 × List AV) => (f_u80q v.1 v.2.1 v.2.2.1 v.2.2.2.1 v.2.2.2.2.1 v.2.2.2.2.2 : Option B_u80q)) := fun_FH (F := F30) (L := []) (t := fun (v : List UInt8 × Int × Int × Int × List UInt8 × List AV) => tr_u80q v.1 v.2.1 v.2.2.1 v.2.2.2.1 v.2.2.2.2.1 v.2.2.2.2.2) T68_ok (LOk_of (l := []) (by kernel_rfl) trivial) (by kernel_rfl) (fun v => by kernel_rfl) (fun v => f_u80q_eq v.1 v.2.1 v.2.2.1 v.2.2.2.1 v.2.2.2.2.1 v.2.2.2.2.2)
noncomputable def T69 : Tab := (30, FE p_u80q r_u80q (fun (v : List UInt8 × Int × Int × Int × List UInt8 × List AV) => (f_u80q v.1 v.2.1 v.2.2.1 v.2.2.2.1 v.2.2.2.2.1 v.2.2.2.2.2 : Option B_u80q))) :: T68
theorem T69_ok : TabOk IP T69 := ⟨FE_ok c_u80q, T68_ok⟩
abbrev TT_u39q : Type := List AV × Int × Int
def hs_u39q : List PSt := [⟨[(1001202, .junk), (62, .view 6), (63, .int .i64), (64, .int .i64)], [], 0, 0⟩]
noncomputable def x_u39q_0 (x0 : List AV) (x1 x2 : Int) : X × St := (X.ret,
  {
    tm :=
      [(6,
          AV.int IntKind.i64
            (gv
              (f_u80q (strOf (cellAt x0 x2 0)) (intOf (cellAt x0 x2 1)) (intOf (cellAt x0 x2 2)) (intOf (cellAt x0 x2 3)) (strOf (cellAt x0 x2 4))
                (viewOf (cellAt x0 x2 5)))))],
    hp := [], nx := 0, k := 0 })
noncomputable def x_u39q_1 (x0 : List AV) (x1 x2 : Int) : X × St := (X.exit 4, { tm := [(6, AV.junk)], hp := [], nx := 0, k := 0 })
noncomputable def x_u39q : List (TT_u39q → X × St) := [fun w => x_u39q_0 w.1 w.2.1 w.2.2, fun w => x_u39q_1 w.1 w.2.1 w.2.2]
noncomputable def st_u39q_0 (x0 : List AV) (x1 x2 : Int) : DT (Rd TT_u39q) :=
 .br (decide (x2 < x1))
  (.br (okAt [CS.str, CS.int IntKind.i64, CS.int IntKind.i64, CS.int IntKind.i64, CS.str, CS.slice 4] x0 x2)
   (.bi (f_u80q (strOf (cellAt x0 x2 0)) (intOf (cellAt x0 x2 1)) (intOf (cellAt x0 x2 2)) (intOf (cellAt x0 x2 3)) (strOf (cellAt x0 x2 4)) (viewOf (cellAt x0 x2 5))) (fun y0 =>
    .br (y0 != 0) (.at (.done 0)) (.at (.next ((x0, x1, IntKind.i64.wrap (x2 + 1))))))
    (.no))
   (.no))
  (.at (.done 1))
noncomputable def st_u39q : TT_u39q → DT (Rd TT_u39q) := (fun v => st_u39q_0 v.1 v.2.1 v.2.2)
noncomputable def l_u39q (v : TT_u39q) : Option (Nat × TT_u39q) := lock (iterO (fun v => (st_u39q v).ev) v)
theorem l_u39q_eq (v : TT_u39q) : l_u39q v = iterO (fun v => (st_u39q v).ev) v := lock_eq _
noncomputable def ll_u39q : LEnt := LE (τ := TT_u39q) (hD hs_u39q) (l_u39q) x_u39q
theorem t_u39q : Go.Eng.Told IP (loopAt F12 2).1 (loopAt F12 2).2 (ll_u39q) := loop_LE (inferInstance : Inhabited TT_u39q) (hs := hs_u39q) (st := st_u39q) (L := []) T69_ok (LOk_of (l := []) (by kernel_rfl) trivial) (l_u39q_eq) (fun v => by kernel_rfl) (fun v => by kernel_rfl)
end Go.Proofs.H15e

/- Functions over plain data. Printed by a program of mine. -/
import Derived.Test.YtbieppilagmdjaaGreatDoorE3
import Derived.Test.YtbieppilagmdjaaGreatDoorSpA
import Derived.Test.YtbieppilagmdjaaGreatDoorX35Ld
import Derived.KernelRfl
set_option linter.unusedVariables false
set_option linter.unusedSimpArgs false
set_option linter.unnecessarySimpa false
namespace Go.Proofs.H35P
open Go Go.Eng Go.Proofs.H35
set_option maxRecDepth 100000
noncomputable section
abbrev k27 {a0 a1 a2 a3 a4 a5 a6 a7 a8 a9 a10 a11 a12 a13 a14 a15 a16 a17 a18 a19 a20 a21 a22 a23 a24 a25 a26 r:Type} (f:a0 -> a1 -> a2 -> a3 -> a4 -> a5 -> a6 -> a7 -> a8 -> a9 -> a10 -> a11 -> a12 -> a13 -> a14 -> a15 -> a16 -> a17 -> a18 -> a19 -> a20 -> a21 -> a22 -> a23 -> a24 -> a25 -> a26 -> r) (v:a0 × a1 × a2 × a3 × a4 × a5 × a6 × a7 × a8 × a9 × a10 × a11 × a12 × a13 × a14 × a15 × a16 × a17 × a18 × a19 × a20 × a21 × a22 × a23 × a24 × a25 × a26):r:=f v.1 v.2.1 v.2.2.1 v.2.2.2.1 v.2.2.2.2.1 v.2.2.2.2.2.1 v.2.2.2.2.2.2.1 v.2.2.2.2.2.2.2.1 v.2.2.2.2.2.2.2.2.1 v.2.2.2.2.2.2.2.2.2.1 v.2.2.2.2.2.2.2.2.2.2.1 v.2.2.2.2.2.2.2.2.2.2.2.1 v.2.2.2.2.2.2.2.2.2.2.2.2.1 v.2.2.2.2.2.2.2.2.2.2.2.2.2.1 v.2.2.2.2.2.2.2.2.2.2.2.2.2.2.1 v.2.2.2.2.2.2.2.2.2.2.2.2.2.2.2.1 v.2.2.2.2.2.2.2.2.2.2.2.2.2.2.2.2.1 v.2.2.2.2.2.2.2.2.2.2.2.2.2.2.2.2.2.1 v.2.2.2.2.2.2.2.2.2.2.2.2.2.2.2.2.2.2.1 v.2.2.2.2.2.2.2.2.2.2.2.2.2.2.2.2.2.2.2.1 v.2.2.2.2.2.2.2.2.2.2.2.2.2.2.2.2.2.2.2.2.1 v.2.2.2.2.2.2.2.2.2.2.2.2.2.2.2.2.2.2.2.2.2.1 v.2.2.2.2.2.2.2.2.2.2.2.2.2.2.2.2.2.2.2.2.2.2.1 v.2.2.2.2.2.2.2.2.2.2.2.2.2.2.2.2.2.2.2.2.2.2.2.1 v.2.2.2.2.2.2.2.2.2.2.2.2.2.2.2.2.2.2.2.2.2.2.2.2.1 v.2.2.2.2.2.2.2.2.2.2.2.2.2.2.2.2.2.2.2.2.2.2.2.2.2.1 v.2.2.2.2.2.2.2.2.2.2.2.2.2.2.2.2.2.2.2.2.2.2.2.2.2.2
def T0:Tab:=[(18,qWh),(19,qWA),(12,qYV),(22,qW4),(20,qWL),(21,qZP),(23,qWu),(24,qWk)]
theorem qyF:qap IP T0:=⟨q5e,q5f,q5d,q5i,q5g,q5h,sp23,sp24,trivial⟩
abbrev qgb:Type:=Int × Int × Int × Int × Int × Int × Int × Int × Int × Int × Int × Int × Int × Int × Int × Int × Int × Int × Int × Int × Int × List UInt8 × List UInt8 × List AV × List AV × List AV × Int
def qkD:PArgs:=⟨[.agg [.int .i64,.int .i64,.int .i64,.int .i64,.int .i64,.int .i64,.int .i64,.int .i64,.int .i64,.int .i64,.int .i64,.int .i64,.int .i64,.int .i64,.int .i64,.int .i64,.int .i64,.int .i64,.int .i64,.int .i64,.int .i64,.str,.str,.view 4,.view 14],.int .i64,.int .i64],[]⟩
def qgC:List PRes:=[⟨false,.tup [.agg [.int .i64,.int .i64,.int .i64,.int .i64,.int .i64,.int .i64,.int .i64,.int .i64,.int .i64,.int .i64,.int .i64,.int .i64,.int .i64,.int .i64,.int .i64,.int .i64,.int .i64,.int .i64,.int .i64,.int .i64,.int .i64,.str,.str,.view 4,.view 14],.view 2,.int .i64],[]⟩]
def qeO (x0:Int) (x1:Int) (x2:Int) (x3:Int) (x4:Int) (x5:Int) (x6:Int) (x7:Int) (x8:Int) (x9:Int) (x10:Int) (x11:Int) (x12:Int) (x13:Int) (x14:Int) (x15:Int) (x16:Int) (x17:Int) (x18:Int) (x19:Int) (x20:Int) (x21:List UInt8) (x22:List UInt8) (x23:List AV) (x24:List AV) (x25:Int) (x26:Int):DT qgb:=
 .br (chK x0 x1 x2 x3 x4 x5 x6 x7 x8 x9 x10 x11 x12 x13 x14 x15 x16 x17 x18 x19 x20 x21 x22 x23 x24)
  (.bi (br (gv (some (decide (x25 < 1)))) (some true) (some (decide (x25 > 1000000000000)))) (fun y0=>
   .bi (br y0 (some true) (br (dyK x26 true) (some false) (br (dyK x26 false) (some true) none))) (fun y1=>
    .br (y1)
     (.at ((0,0,0,0,0,0,0,0,0,0,0,0,0,0,0,0,0,0,0,0,0,[],[],[],[],[],1)))
     (.br (x2 != 1)
      (.at ((0,0,0,0,0,0,0,0,0,0,0,0,0,0,0,0,0,0,0,0,0,[],[],[],[],[],17)))
      (.br (owK x0 x1 x2 x3 x4 x5 x6 x7 x8 x9 x10 x11 x12 x13 x14 x15 x16 x17 x18 x19 x20 x21 x22 x23 x24 x26)
       (.br (fiK x25 (qay x0 x1 x2 x3 x4 x5 x6 x7 x8 x9 x10 x11 x12 x13 x14 x15 x16 x17 x18 x19 x20 x21 x22 x23 x24 x26) 5)
        (.br (decide (x25 > 0))
         (.br (lfK x0 x1 x2 x3 x4 x5 x6 x7 x8 x9 x10 x11 x12 x13 x14 x15 x16 x17 x18 x19 x20 x21 x22 x23 x24 true)
          (.br (decide (x23.length ≠ 0) && decide (x23.length * 32 <= lim))
           (.br (decide (x24.length = 0))
            (.at ((x0,x1,x2,x3,x4,x5,x6,x7,x8,x9,x10,x11,x12,x13,x14,x15,x16,x17,x18,x19,x20,x21,x22,x23,[],[AV.agg [AV.int IntKind.i64 5,AV.int IntKind.i64 x25]],0)))
            (.no))
           (.no))
          (.br (lfK x0 x1 x2 x3 x4 x5 x6 x7 x8 x9 x10 x11 x12 x13 x14 x15 x16 x17 x18 x19 x20 x21 x22 x23 x24 false)
           (.br (decide (x23.length ≠ 0) && decide (x23.length * 32 <= lim))
            (.br (decide (x24.length = 0))
             (.at ((x0,x1,2,x3,x4,x5,x6,x7,x8,x9,x10,x11,x12,x13,x14,x15,x16,x17,x18,x19,x20,x21,x22,x23,[],[AV.agg [AV.int IntKind.i64 5,AV.int IntKind.i64 x25]],0)))
             (.no))
            (.no))
           (.no)))
         (.br (lfK x0 x1 x2 x3 x4 x5 x6 x7 x8 x9 x10 x11 x12 x13 x14 x15 x16 x17 x18 x19 x20 x21 x22 x23 x24 true)
          (.br (decide (x23.length ≠ 0) && decide (x23.length * 32 <= lim))
           (.br (decide (x24.length = 0)) (.at ((x0,x1,x2,x3,x4,x5,x6,x7,x8,x9,x10,x11,x12,x13,x14,x15,x16,x17,x18,x19,x20,x21,x22,x23,[],[],0))) (.no))
           (.no))
          (.br (lfK x0 x1 x2 x3 x4 x5 x6 x7 x8 x9 x10 x11 x12 x13 x14 x15 x16 x17 x18 x19 x20 x21 x22 x23 x24 false)
           (.br (decide (x23.length ≠ 0) && decide (x23.length * 32 <= lim))
            (.br (decide (x24.length = 0)) (.at ((x0,x1,2,x3,x4,x5,x6,x7,x8,x9,x10,x11,x12,x13,x14,x15,x16,x17,x18,x19,x20,x21,x22,x23,[],[],0))) (.no))
            (.no))
           (.no))))
        (.br (fiK x25 (qay x0 x1 x2 x3 x4 x5 x6 x7 x8 x9 x10 x11 x12 x13 x14 x15 x16 x17 x18 x19 x20 x21 x22 x23 x24 x26) 3)
         (.br (t0K x25 (qay x0 x1 x2 x3 x4 x5 x6 x7 x8 x9 x10 x11 x12 x13 x14 x15 x16 x17 x18 x19 x20 x21 x22 x23 x24 x26) 3)
          (.br (t1K (IntKind.i64.wrap (x25 - mk 3 (qay x0 x1 x2 x3 x4 x5 x6 x7 x8 x9 x10 x11 x12 x13 x14 x15 x16 x17 x18 x19 x20 x21 x22 x23 x24 x26) x25))
              (qay x0 x1 x2 x3 x4 x5 x6 x7 x8 x9 x10 x11 x12 x13 x14 x15 x16 x17 x18 x19 x20 x21 x22 x23 x24 x26)
              [AV.agg [AV.int IntKind.i64 3,AV.int IntKind.i64 (mk 3 (qay x0 x1 x2 x3 x4 x5 x6 x7 x8 x9 x10 x11 x12 x13 x14 x15 x16 x17 x18 x19 x20 x21 x22 x23 x24 x26) x25)]] 4)
           (.br (decide
               (IntKind.i64.wrap
                   (IntKind.i64.wrap (x25 - mk 3 (qay x0 x1 x2 x3 x4 x5 x6 x7 x8 x9 x10 x11 x12 x13 x14 x15 x16 x17 x18 x19 x20 x21 x22 x23 x24 x26) x25) -
                     mk 4 (qay x0 x1 x2 x3 x4 x5 x6 x7 x8 x9 x10 x11 x12 x13 x14 x15 x16 x17 x18 x19 x20 x21 x22 x23 x24 x26)
                       (IntKind.i64.wrap (x25 - mk 3 (qay x0 x1 x2 x3 x4 x5 x6 x7 x8 x9 x10 x11 x12 x13 x14 x15 x16 x17 x18 x19 x20 x21 x22 x23 x24 x26) x25))) >
                 0))
            (.br (lfK x0 x1 x2
                (IntKind.i64.wrap
                  (x3 +
                    mk 4 (qay x0 x1 x2 x3 x4 x5 x6 x7 x8 x9 x10 x11 x12 x13 x14 x15 x16 x17 x18 x19 x20 x21 x22 x23 x24 x26)
                      (IntKind.i64.wrap (x25 - mk 3 (qay x0 x1 x2 x3 x4 x5 x6 x7 x8 x9 x10 x11 x12 x13 x14 x15 x16 x17 x18 x19 x20 x21 x22 x23 x24 x26) x25))))
                (IntKind.i64.wrap (x4 + mk 3 (qay x0 x1 x2 x3 x4 x5 x6 x7 x8 x9 x10 x11 x12 x13 x14 x15 x16 x17 x18 x19 x20 x21 x22 x23 x24 x26) x25)) x5 x6 x7 x8 x9 x10 x11 x12 x13 x14 x15 x16
                x17 x18 x19 x20 x21 x22 x23 x24 true)
             (.br (decide (x23.length ≠ 0) && decide (x23.length * 32 <= lim))
              (.br (decide (x24.length = 0))
               (.at ((x0,x1,x2,IntKind.i64.wrap
  (x3 +
    mk 4 (qay x0 x1 x2 x3 x4 x5 x6 x7 x8 x9 x10 x11 x12 x13 x14 x15 x16 x17 x18 x19 x20 x21 x22 x23 x24 x26)
      (IntKind.i64.wrap (x25 - mk 3 (qay x0 x1 x2 x3 x4 x5 x6 x7 x8 x9 x10 x11 x12 x13 x14 x15 x16 x17 x18 x19 x20 x21 x22 x23 x24 x26) x25))),IntKind.i64.wrap (x4 + mk 3 (qay x0 x1 x2 x3 x4 x5 x6 x7 x8 x9 x10 x11 x12 x13 x14 x15 x16 x17 x18 x19 x20 x21 x22 x23 x24 x26) x25),x5,x6,x7,x8,x9,x10,x11,x12,x13,x14,x15,x16,x17,x18,x19,x20,x21,x22,x23,[],[AV.agg [AV.int IntKind.i64 3,AV.int IntKind.i64 (mk 3 (qay x0 x1 x2 x3 x4 x5 x6 x7 x8 x9 x10 x11 x12 x13 x14 x15 x16 x17 x18 x19 x20 x21 x22 x23 x24 x26) x25)],
  AV.agg
    [AV.int IntKind.i64 4,
      AV.int IntKind.i64
        (mk 4 (qay x0 x1 x2 x3 x4 x5 x6 x7 x8 x9 x10 x11 x12 x13 x14 x15 x16 x17 x18 x19 x20 x21 x22 x23 x24 x26)
          (IntKind.i64.wrap (x25 - mk 3 (qay x0 x1 x2 x3 x4 x5 x6 x7 x8 x9 x10 x11 x12 x13 x14 x15 x16 x17 x18 x19 x20 x21 x22 x23 x24 x26) x25)))],
  AV.agg
    [AV.int IntKind.i64 5,
      AV.int IntKind.i64
        (IntKind.i64.wrap
          (IntKind.i64.wrap (x25 - mk 3 (qay x0 x1 x2 x3 x4 x5 x6 x7 x8 x9 x10 x11 x12 x13 x14 x15 x16 x17 x18 x19 x20 x21 x22 x23 x24 x26) x25) -
            mk 4 (qay x0 x1 x2 x3 x4 x5 x6 x7 x8 x9 x10 x11 x12 x13 x14 x15 x16 x17 x18 x19 x20 x21 x22 x23 x24 x26)
              (IntKind.i64.wrap (x25 - mk 3 (qay x0 x1 x2 x3 x4 x5 x6 x7 x8 x9 x10 x11 x12 x13 x14 x15 x16 x17 x18 x19 x20 x21 x22 x23 x24 x26) x25))))]],0)))
               (.no))
              (.no))
             (.br (lfK x0 x1 x2
                 (IntKind.i64.wrap
                   (x3 +
                     mk 4 (qay x0 x1 x2 x3 x4 x5 x6 x7 x8 x9 x10 x11 x12 x13 x14 x15 x16 x17 x18 x19 x20 x21 x22 x23 x24 x26)
                       (IntKind.i64.wrap (x25 - mk 3 (qay x0 x1 x2 x3 x4 x5 x6 x7 x8 x9 x10 x11 x12 x13 x14 x15 x16 x17 x18 x19 x20 x21 x22 x23 x24 x26) x25))))
                 (IntKind.i64.wrap (x4 + mk 3 (qay x0 x1 x2 x3 x4 x5 x6 x7 x8 x9 x10 x11 x12 x13 x14 x15 x16 x17 x18 x19 x20 x21 x22 x23 x24 x26) x25)) x5 x6 x7 x8 x9 x10 x11 x12 x13 x14 x15 x16
                 x17 x18 x19 x20 x21 x22 x23 x24 false)
              (.br (decide (x23.length ≠ 0) && decide (x23.length * 32 <= lim))
               (.br (decide (x24.length = 0))
                (.at ((x0,x1,2,IntKind.i64.wrap
  (x3 +
    mk 4 (qay x0 x1 x2 x3 x4 x5 x6 x7 x8 x9 x10 x11 x12 x13 x14 x15 x16 x17 x18 x19 x20 x21 x22 x23 x24 x26)
      (IntKind.i64.wrap (x25 - mk 3 (qay x0 x1 x2 x3 x4 x5 x6 x7 x8 x9 x10 x11 x12 x13 x14 x15 x16 x17 x18 x19 x20 x21 x22 x23 x24 x26) x25))),IntKind.i64.wrap (x4 + mk 3 (qay x0 x1 x2 x3 x4 x5 x6 x7 x8 x9 x10 x11 x12 x13 x14 x15 x16 x17 x18 x19 x20 x21 x22 x23 x24 x26) x25),x5,x6,x7,x8,x9,x10,x11,x12,x13,x14,x15,x16,x17,x18,x19,x20,x21,x22,x23,[],[AV.agg [AV.int IntKind.i64 3,AV.int IntKind.i64 (mk 3 (qay x0 x1 x2 x3 x4 x5 x6 x7 x8 x9 x10 x11 x12 x13 x14 x15 x16 x17 x18 x19 x20 x21 x22 x23 x24 x26) x25)],
  AV.agg
    [AV.int IntKind.i64 4,
      AV.int IntKind.i64
        (mk 4 (qay x0 x1 x2 x3 x4 x5 x6 x7 x8 x9 x10 x11 x12 x13 x14 x15 x16 x17 x18 x19 x20 x21 x22 x23 x24 x26)
          (IntKind.i64.wrap (x25 - mk 3 (qay x0 x1 x2 x3 x4 x5 x6 x7 x8 x9 x10 x11 x12 x13 x14 x15 x16 x17 x18 x19 x20 x21 x22 x23 x24 x26) x25)))],
  AV.agg
    [AV.int IntKind.i64 5,
      AV.int IntKind.i64
        (IntKind.i64.wrap
          (IntKind.i64.wrap (x25 - mk 3 (qay x0 x1 x2 x3 x4 x5 x6 x7 x8 x9 x10 x11 x12 x13 x14 x15 x16 x17 x18 x19 x20 x21 x22 x23 x24 x26) x25) -
            mk 4 (qay x0 x1 x2 x3 x4 x5 x6 x7 x8 x9 x10 x11 x12 x13 x14 x15 x16 x17 x18 x19 x20 x21 x22 x23 x24 x26)
              (IntKind.i64.wrap (x25 - mk 3 (qay x0 x1 x2 x3 x4 x5 x6 x7 x8 x9 x10 x11 x12 x13 x14 x15 x16 x17 x18 x19 x20 x21 x22 x23 x24 x26) x25))))]],0)))
                (.no))
               (.no))
              (.no)))
            (.br (lfK x0 x1 x2
                (IntKind.i64.wrap
                  (x3 +
                    mk 4 (qay x0 x1 x2 x3 x4 x5 x6 x7 x8 x9 x10 x11 x12 x13 x14 x15 x16 x17 x18 x19 x20 x21 x22 x23 x24 x26)
                      (IntKind.i64.wrap (x25 - mk 3 (qay x0 x1 x2 x3 x4 x5 x6 x7 x8 x9 x10 x11 x12 x13 x14 x15 x16 x17 x18 x19 x20 x21 x22 x23 x24 x26) x25))))
                (IntKind.i64.wrap (x4 + mk 3 (qay x0 x1 x2 x3 x4 x5 x6 x7 x8 x9 x10 x11 x12 x13 x14 x15 x16 x17 x18 x19 x20 x21 x22 x23 x24 x26) x25)) x5 x6 x7 x8 x9 x10 x11 x12 x13 x14 x15 x16
                x17 x18 x19 x20 x21 x22 x23 x24 true)
             (.br (decide (x23.length ≠ 0) && decide (x23.length * 32 <= lim))
              (.br (decide (x24.length = 0))
               (.at ((x0,x1,x2,IntKind.i64.wrap
  (x3 +
    mk 4 (qay x0 x1 x2 x3 x4 x5 x6 x7 x8 x9 x10 x11 x12 x13 x14 x15 x16 x17 x18 x19 x20 x21 x22 x23 x24 x26)
      (IntKind.i64.wrap (x25 - mk 3 (qay x0 x1 x2 x3 x4 x5 x6 x7 x8 x9 x10 x11 x12 x13 x14 x15 x16 x17 x18 x19 x20 x21 x22 x23 x24 x26) x25))),IntKind.i64.wrap (x4 + mk 3 (qay x0 x1 x2 x3 x4 x5 x6 x7 x8 x9 x10 x11 x12 x13 x14 x15 x16 x17 x18 x19 x20 x21 x22 x23 x24 x26) x25),x5,x6,x7,x8,x9,x10,x11,x12,x13,x14,x15,x16,x17,x18,x19,x20,x21,x22,x23,[],[AV.agg [AV.int IntKind.i64 3,AV.int IntKind.i64 (mk 3 (qay x0 x1 x2 x3 x4 x5 x6 x7 x8 x9 x10 x11 x12 x13 x14 x15 x16 x17 x18 x19 x20 x21 x22 x23 x24 x26) x25)],
  AV.agg
    [AV.int IntKind.i64 4,
      AV.int IntKind.i64
        (mk 4 (qay x0 x1 x2 x3 x4 x5 x6 x7 x8 x9 x10 x11 x12 x13 x14 x15 x16 x17 x18 x19 x20 x21 x22 x23 x24 x26)
          (IntKind.i64.wrap (x25 - mk 3 (qay x0 x1 x2 x3 x4 x5 x6 x7 x8 x9 x10 x11 x12 x13 x14 x15 x16 x17 x18 x19 x20 x21 x22 x23 x24 x26) x25)))]],0)))
               (.no))
              (.no))
             (.br (lfK x0 x1 x2
                 (IntKind.i64.wrap
                   (x3 +
                     mk 4 (qay x0 x1 x2 x3 x4 x5 x6 x7 x8 x9 x10 x11 x12 x13 x14 x15 x16 x17 x18 x19 x20 x21 x22 x23 x24 x26)
                       (IntKind.i64.wrap (x25 - mk 3 (qay x0 x1 x2 x3 x4 x5 x6 x7 x8 x9 x10 x11 x12 x13 x14 x15 x16 x17 x18 x19 x20 x21 x22 x23 x24 x26) x25))))
                 (IntKind.i64.wrap (x4 + mk 3 (qay x0 x1 x2 x3 x4 x5 x6 x7 x8 x9 x10 x11 x12 x13 x14 x15 x16 x17 x18 x19 x20 x21 x22 x23 x24 x26) x25)) x5 x6 x7 x8 x9 x10 x11 x12 x13 x14 x15 x16
                 x17 x18 x19 x20 x21 x22 x23 x24 false)
              (.br (decide (x23.length ≠ 0) && decide (x23.length * 32 <= lim))
               (.br (decide (x24.length = 0))
                (.at ((x0,x1,2,IntKind.i64.wrap
  (x3 +
    mk 4 (qay x0 x1 x2 x3 x4 x5 x6 x7 x8 x9 x10 x11 x12 x13 x14 x15 x16 x17 x18 x19 x20 x21 x22 x23 x24 x26)
      (IntKind.i64.wrap (x25 - mk 3 (qay x0 x1 x2 x3 x4 x5 x6 x7 x8 x9 x10 x11 x12 x13 x14 x15 x16 x17 x18 x19 x20 x21 x22 x23 x24 x26) x25))),IntKind.i64.wrap (x4 + mk 3 (qay x0 x1 x2 x3 x4 x5 x6 x7 x8 x9 x10 x11 x12 x13 x14 x15 x16 x17 x18 x19 x20 x21 x22 x23 x24 x26) x25),x5,x6,x7,x8,x9,x10,x11,x12,x13,x14,x15,x16,x17,x18,x19,x20,x21,x22,x23,[],[AV.agg [AV.int IntKind.i64 3,AV.int IntKind.i64 (mk 3 (qay x0 x1 x2 x3 x4 x5 x6 x7 x8 x9 x10 x11 x12 x13 x14 x15 x16 x17 x18 x19 x20 x21 x22 x23 x24 x26) x25)],
  AV.agg
    [AV.int IntKind.i64 4,
      AV.int IntKind.i64
        (mk 4 (qay x0 x1 x2 x3 x4 x5 x6 x7 x8 x9 x10 x11 x12 x13 x14 x15 x16 x17 x18 x19 x20 x21 x22 x23 x24 x26)
          (IntKind.i64.wrap (x25 - mk 3 (qay x0 x1 x2 x3 x4 x5 x6 x7 x8 x9 x10 x11 x12 x13 x14 x15 x16 x17 x18 x19 x20 x21 x22 x23 x24 x26) x25)))]],0)))
                (.no))
               (.no))
              (.no))))
           (.br (t2K (IntKind.i64.wrap (x25 - mk 3 (qay x0 x1 x2 x3 x4 x5 x6 x7 x8 x9 x10 x11 x12 x13 x14 x15 x16 x17 x18 x19 x20 x21 x22 x23 x24 x26) x25))
               (qay x0 x1 x2 x3 x4 x5 x6 x7 x8 x9 x10 x11 x12 x13 x14 x15 x16 x17 x18 x19 x20 x21 x22 x23 x24 x26)
               [AV.agg [AV.int IntKind.i64 3,AV.int IntKind.i64 (mk 3 (qay x0 x1 x2 x3 x4 x5 x6 x7 x8 x9 x10 x11 x12 x13 x14 x15 x16 x17 x18 x19 x20 x21 x22 x23 x24 x26) x25)]] 4)
            (.br (decide (IntKind.i64.wrap (x25 - mk 3 (qay x0 x1 x2 x3 x4 x5 x6 x7 x8 x9 x10 x11 x12 x13 x14 x15 x16 x17 x18 x19 x20 x21 x22 x23 x24 x26) x25) > 0))
             (.br (lfK x0 x1 x2 (IntKind.i64.wrap (x3 + 0)) (IntKind.i64.wrap (x4 + mk 3 (qay x0 x1 x2 x3 x4 x5 x6 x7 x8 x9 x10 x11 x12 x13 x14 x15 x16 x17 x18 x19 x20 x21 x22 x23 x24 x26) x25)) x5
                 x6 x7 x8 x9 x10 x11 x12 x13 x14 x15 x16 x17 x18 x19 x20 x21 x22 x23 x24 true)
              (.br (decide (x23.length ≠ 0) && decide (x23.length * 32 <= lim))
               (.br (decide (x24.length = 0))
                (.at ((x0,x1,x2,IntKind.i64.wrap (x3 + 0),IntKind.i64.wrap (x4 + mk 3 (qay x0 x1 x2 x3 x4 x5 x6 x7 x8 x9 x10 x11 x12 x13 x14 x15 x16 x17 x18 x19 x20 x21 x22 x23 x24 x26) x25),x5,x6,x7,x8,x9,x10,x11,x12,x13,x14,x15,x16,x17,x18,x19,x20,x21,x22,x23,[],[AV.agg [AV.int IntKind.i64 3,AV.int IntKind.i64 (mk 3 (qay x0 x1 x2 x3 x4 x5 x6 x7 x8 x9 x10 x11 x12 x13 x14 x15 x16 x17 x18 x19 x20 x21 x22 x23 x24 x26) x25)],
  AV.agg
    [AV.int IntKind.i64 5,
      AV.int IntKind.i64 (IntKind.i64.wrap (x25 - mk 3 (qay x0 x1 x2 x3 x4 x5 x6 x7 x8 x9 x10 x11 x12 x13 x14 x15 x16 x17 x18 x19 x20 x21 x22 x23 x24 x26) x25))]],0)))
                (.no))
               (.no))
              (.br (lfK x0 x1 x2 (IntKind.i64.wrap (x3 + 0)) (IntKind.i64.wrap (x4 + mk 3 (qay x0 x1 x2 x3 x4 x5 x6 x7 x8 x9 x10 x11 x12 x13 x14 x15 x16 x17 x18 x19 x20 x21 x22 x23 x24 x26) x25)) x5
                  x6 x7 x8 x9 x10 x11 x12 x13 x14 x15 x16 x17 x18 x19 x20 x21 x22 x23 x24 false)
               (.br (decide (x23.length ≠ 0) && decide (x23.length * 32 <= lim))
                (.br (decide (x24.length = 0))
                 (.at ((x0,x1,2,IntKind.i64.wrap (x3 + 0),IntKind.i64.wrap (x4 + mk 3 (qay x0 x1 x2 x3 x4 x5 x6 x7 x8 x9 x10 x11 x12 x13 x14 x15 x16 x17 x18 x19 x20 x21 x22 x23 x24 x26) x25),x5,x6,x7,x8,x9,x10,x11,x12,x13,x14,x15,x16,x17,x18,x19,x20,x21,x22,x23,[],[AV.agg [AV.int IntKind.i64 3,AV.int IntKind.i64 (mk 3 (qay x0 x1 x2 x3 x4 x5 x6 x7 x8 x9 x10 x11 x12 x13 x14 x15 x16 x17 x18 x19 x20 x21 x22 x23 x24 x26) x25)],
  AV.agg
    [AV.int IntKind.i64 5,
      AV.int IntKind.i64 (IntKind.i64.wrap (x25 - mk 3 (qay x0 x1 x2 x3 x4 x5 x6 x7 x8 x9 x10 x11 x12 x13 x14 x15 x16 x17 x18 x19 x20 x21 x22 x23 x24 x26) x25))]],0)))
                 (.no))
                (.no))
               (.no)))
             (.br (lfK x0 x1 x2 (IntKind.i64.wrap (x3 + 0)) (IntKind.i64.wrap (x4 + mk 3 (qay x0 x1 x2 x3 x4 x5 x6 x7 x8 x9 x10 x11 x12 x13 x14 x15 x16 x17 x18 x19 x20 x21 x22 x23 x24 x26) x25)) x5
                 x6 x7 x8 x9 x10 x11 x12 x13 x14 x15 x16 x17 x18 x19 x20 x21 x22 x23 x24 true)
              (.br (decide (x23.length ≠ 0) && decide (x23.length * 32 <= lim))
               (.br (decide (x24.length = 0))
                (.at ((x0,x1,x2,IntKind.i64.wrap (x3 + 0),IntKind.i64.wrap (x4 + mk 3 (qay x0 x1 x2 x3 x4 x5 x6 x7 x8 x9 x10 x11 x12 x13 x14 x15 x16 x17 x18 x19 x20 x21 x22 x23 x24 x26) x25),x5,x6,x7,x8,x9,x10,x11,x12,x13,x14,x15,x16,x17,x18,x19,x20,x21,x22,x23,[],[AV.agg [AV.int IntKind.i64 3,AV.int IntKind.i64 (mk 3 (qay x0 x1 x2 x3 x4 x5 x6 x7 x8 x9 x10 x11 x12 x13 x14 x15 x16 x17 x18 x19 x20 x21 x22 x23 x24 x26) x25)]],0)))
                (.no))
               (.no))
              (.br (lfK x0 x1 x2 (IntKind.i64.wrap (x3 + 0)) (IntKind.i64.wrap (x4 + mk 3 (qay x0 x1 x2 x3 x4 x5 x6 x7 x8 x9 x10 x11 x12 x13 x14 x15 x16 x17 x18 x19 x20 x21 x22 x23 x24 x26) x25)) x5
                  x6 x7 x8 x9 x10 x11 x12 x13 x14 x15 x16 x17 x18 x19 x20 x21 x22 x23 x24 false)
               (.br (decide (x23.length ≠ 0) && decide (x23.length * 32 <= lim))
                (.br (decide (x24.length = 0))
                 (.at ((x0,x1,2,IntKind.i64.wrap (x3 + 0),IntKind.i64.wrap (x4 + mk 3 (qay x0 x1 x2 x3 x4 x5 x6 x7 x8 x9 x10 x11 x12 x13 x14 x15 x16 x17 x18 x19 x20 x21 x22 x23 x24 x26) x25),x5,x6,x7,x8,x9,x10,x11,x12,x13,x14,x15,x16,x17,x18,x19,x20,x21,x22,x23,[],[AV.agg [AV.int IntKind.i64 3,AV.int IntKind.i64 (mk 3 (qay x0 x1 x2 x3 x4 x5 x6 x7 x8 x9 x10 x11 x12 x13 x14 x15 x16 x17 x18 x19 x20 x21 x22 x23 x24 x26) x25)]],0)))
                 (.no))
                (.no))
               (.no))))
            (.no)))
          (.no))
         (.br (fiK x25 (qay x0 x1 x2 x3 x4 x5 x6 x7 x8 x9 x10 x11 x12 x13 x14 x15 x16 x17 x18 x19 x20 x21 x22 x23 x24 x26) 4)
          (.br (t0K x25 (qay x0 x1 x2 x3 x4 x5 x6 x7 x8 x9 x10 x11 x12 x13 x14 x15 x16 x17 x18 x19 x20 x21 x22 x23 x24 x26) 4)
           (.br (decide (IntKind.i64.wrap (x25 - mk 4 (qay x0 x1 x2 x3 x4 x5 x6 x7 x8 x9 x10 x11 x12 x13 x14 x15 x16 x17 x18 x19 x20 x21 x22 x23 x24 x26) x25) > 0))
            (.br (lfK x0 x1 x2 (IntKind.i64.wrap (x3 + mk 4 (qay x0 x1 x2 x3 x4 x5 x6 x7 x8 x9 x10 x11 x12 x13 x14 x15 x16 x17 x18 x19 x20 x21 x22 x23 x24 x26) x25)) x4 x5 x6 x7 x8 x9 x10 x11 x12
                x13 x14 x15 x16 x17 x18 x19 x20 x21 x22 x23 x24 true)
             (.br (decide (x23.length ≠ 0) && decide (x23.length * 32 <= lim))
              (.br (decide (x24.length = 0))
               (.at ((x0,x1,x2,IntKind.i64.wrap (x3 + mk 4 (qay x0 x1 x2 x3 x4 x5 x6 x7 x8 x9 x10 x11 x12 x13 x14 x15 x16 x17 x18 x19 x20 x21 x22 x23 x24 x26) x25),x4,x5,x6,x7,x8,x9,x10,x11,x12,x13,x14,x15,x16,x17,x18,x19,x20,x21,x22,x23,[],[AV.agg [AV.int IntKind.i64 4,AV.int IntKind.i64 (mk 4 (qay x0 x1 x2 x3 x4 x5 x6 x7 x8 x9 x10 x11 x12 x13 x14 x15 x16 x17 x18 x19 x20 x21 x22 x23 x24 x26) x25)],
  AV.agg
    [AV.int IntKind.i64 5,
      AV.int IntKind.i64 (IntKind.i64.wrap (x25 - mk 4 (qay x0 x1 x2 x3 x4 x5 x6 x7 x8 x9 x10 x11 x12 x13 x14 x15 x16 x17 x18 x19 x20 x21 x22 x23 x24 x26) x25))]],0)))
               (.no))
              (.no))
             (.br (lfK x0 x1 x2 (IntKind.i64.wrap (x3 + mk 4 (qay x0 x1 x2 x3 x4 x5 x6 x7 x8 x9 x10 x11 x12 x13 x14 x15 x16 x17 x18 x19 x20 x21 x22 x23 x24 x26) x25)) x4 x5 x6 x7 x8 x9 x10 x11 x12
                 x13 x14 x15 x16 x17 x18 x19 x20 x21 x22 x23 x24 false)
              (.br (decide (x23.length ≠ 0) && decide (x23.length * 32 <= lim))
               (.br (decide (x24.length = 0))
                (.at ((x0,x1,2,IntKind.i64.wrap (x3 + mk 4 (qay x0 x1 x2 x3 x4 x5 x6 x7 x8 x9 x10 x11 x12 x13 x14 x15 x16 x17 x18 x19 x20 x21 x22 x23 x24 x26) x25),x4,x5,x6,x7,x8,x9,x10,x11,x12,x13,x14,x15,x16,x17,x18,x19,x20,x21,x22,x23,[],[AV.agg [AV.int IntKind.i64 4,AV.int IntKind.i64 (mk 4 (qay x0 x1 x2 x3 x4 x5 x6 x7 x8 x9 x10 x11 x12 x13 x14 x15 x16 x17 x18 x19 x20 x21 x22 x23 x24 x26) x25)],
  AV.agg
    [AV.int IntKind.i64 5,
      AV.int IntKind.i64 (IntKind.i64.wrap (x25 - mk 4 (qay x0 x1 x2 x3 x4 x5 x6 x7 x8 x9 x10 x11 x12 x13 x14 x15 x16 x17 x18 x19 x20 x21 x22 x23 x24 x26) x25))]],0)))
                (.no))
               (.no))
              (.no)))
            (.br (lfK x0 x1 x2 (IntKind.i64.wrap (x3 + mk 4 (qay x0 x1 x2 x3 x4 x5 x6 x7 x8 x9 x10 x11 x12 x13 x14 x15 x16 x17 x18 x19 x20 x21 x22 x23 x24 x26) x25)) x4 x5 x6 x7 x8 x9 x10 x11 x12
                x13 x14 x15 x16 x17 x18 x19 x20 x21 x22 x23 x24 true)
             (.br (decide (x23.length ≠ 0) && decide (x23.length * 32 <= lim))
              (.br (decide (x24.length = 0))
               (.at ((x0,x1,x2,IntKind.i64.wrap (x3 + mk 4 (qay x0 x1 x2 x3 x4 x5 x6 x7 x8 x9 x10 x11 x12 x13 x14 x15 x16 x17 x18 x19 x20 x21 x22 x23 x24 x26) x25),x4,x5,x6,x7,x8,x9,x10,x11,x12,x13,x14,x15,x16,x17,x18,x19,x20,x21,x22,x23,[],[AV.agg [AV.int IntKind.i64 4,AV.int IntKind.i64 (mk 4 (qay x0 x1 x2 x3 x4 x5 x6 x7 x8 x9 x10 x11 x12 x13 x14 x15 x16 x17 x18 x19 x20 x21 x22 x23 x24 x26) x25)]],0)))
               (.no))
              (.no))
             (.br (lfK x0 x1 x2 (IntKind.i64.wrap (x3 + mk 4 (qay x0 x1 x2 x3 x4 x5 x6 x7 x8 x9 x10 x11 x12 x13 x14 x15 x16 x17 x18 x19 x20 x21 x22 x23 x24 x26) x25)) x4 x5 x6 x7 x8 x9 x10 x11 x12
                 x13 x14 x15 x16 x17 x18 x19 x20 x21 x22 x23 x24 false)
              (.br (decide (x23.length ≠ 0) && decide (x23.length * 32 <= lim))
               (.br (decide (x24.length = 0))
                (.at ((x0,x1,2,IntKind.i64.wrap (x3 + mk 4 (qay x0 x1 x2 x3 x4 x5 x6 x7 x8 x9 x10 x11 x12 x13 x14 x15 x16 x17 x18 x19 x20 x21 x22 x23 x24 x26) x25),x4,x5,x6,x7,x8,x9,x10,x11,x12,x13,x14,x15,x16,x17,x18,x19,x20,x21,x22,x23,[],[AV.agg [AV.int IntKind.i64 4,AV.int IntKind.i64 (mk 4 (qay x0 x1 x2 x3 x4 x5 x6 x7 x8 x9 x10 x11 x12 x13 x14 x15 x16 x17 x18 x19 x20 x21 x22 x23 x24 x26) x25)]],0)))
                (.no))
               (.no))
              (.no))))
           (.no))
          (.no))))
       (.no))))
    (.no))
   (.no))
  (.br (chN x0 x1 x2 x3 x4 x5 x6 x7 x8 x9 x10 x11 x12 x13 x14 x15 x16 x17 x18 x19 x20 x21 x22 x23 x24)
   (.bi (br (qJV x0 x1 x2 x3 x4 x5 x6 x7 x8 x9 x10 x11 x12 x13 x14 x15 x16 x17 x18 x19 x20 x21 x22 x23 x24 != 0) (some true) (some (decide (x25 < 1)))) (fun y0=>
    .bi (br y0 (some true) (some (decide (x25 > 1000000000000)))) (fun y1=>
     .bi (br y1 (some true) (br (dyK x26 true) (some false) (br (dyK x26 false) (some true) none))) (fun y2=>
      .br (y2)
       (.at ((0,0,0,0,0,0,0,0,0,0,0,0,0,0,0,0,0,0,0,0,0,[],[],[],[],[],1)))
       (.br (x2 != 1)
        (.at ((0,0,0,0,0,0,0,0,0,0,0,0,0,0,0,0,0,0,0,0,0,[],[],[],[],[],17)))
        (.br (owK x0 x1 x2 x3 x4 x5 x6 x7 x8 x9 x10 x11 x12 x13 x14 x15 x16 x17 x18 x19 x20 x21 x22 x23 x24 x26)
         (.br (fiK x25 (qay x0 x1 x2 x3 x4 x5 x6 x7 x8 x9 x10 x11 x12 x13 x14 x15 x16 x17 x18 x19 x20 x21 x22 x23 x24 x26) 5)
          (.br (decide (x25 > 0))
           (.br (lfK x0 x1 x2 x3 x4 x5 x6 x7 x8 x9 x10 x11 x12 x13 x14 x15 x16 x17 x18 x19 x20 x21 x22 x23 x24 true)
            (.br (decide (x23.length ≠ 0) && decide (x23.length * 32 <= lim))
             (.br (decide (x24.length = 0))
              (.at ((x0,x1,x2,x3,x4,x5,x6,x7,x8,x9,x10,x11,x12,x13,x14,x15,x16,x17,x18,x19,x20,x21,x22,x23,[],[AV.agg [AV.int IntKind.i64 5,AV.int IntKind.i64 x25]],0)))
              (.no))
             (.no))
            (.br (lfK x0 x1 x2 x3 x4 x5 x6 x7 x8 x9 x10 x11 x12 x13 x14 x15 x16 x17 x18 x19 x20 x21 x22 x23 x24 false)
             (.br (decide (x23.length ≠ 0) && decide (x23.length * 32 <= lim))
              (.br (decide (x24.length = 0))
               (.at ((x0,x1,2,x3,x4,x5,x6,x7,x8,x9,x10,x11,x12,x13,x14,x15,x16,x17,x18,x19,x20,x21,x22,x23,[],[AV.agg [AV.int IntKind.i64 5,AV.int IntKind.i64 x25]],0)))
               (.no))
              (.no))
             (.no)))
           (.br (lfK x0 x1 x2 x3 x4 x5 x6 x7 x8 x9 x10 x11 x12 x13 x14 x15 x16 x17 x18 x19 x20 x21 x22 x23 x24 true)
            (.br (decide (x23.length ≠ 0) && decide (x23.length * 32 <= lim))
             (.br (decide (x24.length = 0)) (.at ((x0,x1,x2,x3,x4,x5,x6,x7,x8,x9,x10,x11,x12,x13,x14,x15,x16,x17,x18,x19,x20,x21,x22,x23,[],[],0))) (.no))
             (.no))
            (.br (lfK x0 x1 x2 x3 x4 x5 x6 x7 x8 x9 x10 x11 x12 x13 x14 x15 x16 x17 x18 x19 x20 x21 x22 x23 x24 false)
             (.br (decide (x23.length ≠ 0) && decide (x23.length * 32 <= lim))
              (.br (decide (x24.length = 0)) (.at ((x0,x1,2,x3,x4,x5,x6,x7,x8,x9,x10,x11,x12,x13,x14,x15,x16,x17,x18,x19,x20,x21,x22,x23,[],[],0))) (.no))
              (.no))
             (.no))))
          (.br (fiK x25 (qay x0 x1 x2 x3 x4 x5 x6 x7 x8 x9 x10 x11 x12 x13 x14 x15 x16 x17 x18 x19 x20 x21 x22 x23 x24 x26) 3)
           (.br (t0K x25 (qay x0 x1 x2 x3 x4 x5 x6 x7 x8 x9 x10 x11 x12 x13 x14 x15 x16 x17 x18 x19 x20 x21 x22 x23 x24 x26) 3)
            (.br (t1K (IntKind.i64.wrap (x25 - mk 3 (qay x0 x1 x2 x3 x4 x5 x6 x7 x8 x9 x10 x11 x12 x13 x14 x15 x16 x17 x18 x19 x20 x21 x22 x23 x24 x26) x25))
                (qay x0 x1 x2 x3 x4 x5 x6 x7 x8 x9 x10 x11 x12 x13 x14 x15 x16 x17 x18 x19 x20 x21 x22 x23 x24 x26)
                [AV.agg [AV.int IntKind.i64 3,AV.int IntKind.i64 (mk 3 (qay x0 x1 x2 x3 x4 x5 x6 x7 x8 x9 x10 x11 x12 x13 x14 x15 x16 x17 x18 x19 x20 x21 x22 x23 x24 x26) x25)]] 4)
             (.br (decide
                 (IntKind.i64.wrap
                     (IntKind.i64.wrap (x25 - mk 3 (qay x0 x1 x2 x3 x4 x5 x6 x7 x8 x9 x10 x11 x12 x13 x14 x15 x16 x17 x18 x19 x20 x21 x22 x23 x24 x26) x25) -
                       mk 4 (qay x0 x1 x2 x3 x4 x5 x6 x7 x8 x9 x10 x11 x12 x13 x14 x15 x16 x17 x18 x19 x20 x21 x22 x23 x24 x26)
                         (IntKind.i64.wrap (x25 - mk 3 (qay x0 x1 x2 x3 x4 x5 x6 x7 x8 x9 x10 x11 x12 x13 x14 x15 x16 x17 x18 x19 x20 x21 x22 x23 x24 x26) x25))) >
                   0))
              (.br (lfK x0 x1 x2
                  (IntKind.i64.wrap
                    (x3 +
                      mk 4 (qay x0 x1 x2 x3 x4 x5 x6 x7 x8 x9 x10 x11 x12 x13 x14 x15 x16 x17 x18 x19 x20 x21 x22 x23 x24 x26)
                        (IntKind.i64.wrap (x25 - mk 3 (qay x0 x1 x2 x3 x4 x5 x6 x7 x8 x9 x10 x11 x12 x13 x14 x15 x16 x17 x18 x19 x20 x21 x22 x23 x24 x26) x25))))
                  (IntKind.i64.wrap (x4 + mk 3 (qay x0 x1 x2 x3 x4 x5 x6 x7 x8 x9 x10 x11 x12 x13 x14 x15 x16 x17 x18 x19 x20 x21 x22 x23 x24 x26) x25)) x5 x6 x7 x8 x9 x10 x11 x12 x13 x14 x15 x16
                  x17 x18 x19 x20 x21 x22 x23 x24 true)
               (.br (decide (x23.length ≠ 0) && decide (x23.length * 32 <= lim))
                (.br (decide (x24.length = 0))
                 (.at ((x0,x1,x2,IntKind.i64.wrap
  (x3 +
    mk 4 (qay x0 x1 x2 x3 x4 x5 x6 x7 x8 x9 x10 x11 x12 x13 x14 x15 x16 x17 x18 x19 x20 x21 x22 x23 x24 x26)
      (IntKind.i64.wrap (x25 - mk 3 (qay x0 x1 x2 x3 x4 x5 x6 x7 x8 x9 x10 x11 x12 x13 x14 x15 x16 x17 x18 x19 x20 x21 x22 x23 x24 x26) x25))),IntKind.i64.wrap (x4 + mk 3 (qay x0 x1 x2 x3 x4 x5 x6 x7 x8 x9 x10 x11 x12 x13 x14 x15 x16 x17 x18 x19 x20 x21 x22 x23 x24 x26) x25),x5,x6,x7,x8,x9,x10,x11,x12,x13,x14,x15,x16,x17,x18,x19,x20,x21,x22,x23,[],[AV.agg [AV.int IntKind.i64 3,AV.int IntKind.i64 (mk 3 (qay x0 x1 x2 x3 x4 x5 x6 x7 x8 x9 x10 x11 x12 x13 x14 x15 x16 x17 x18 x19 x20 x21 x22 x23 x24 x26) x25)],
  AV.agg
    [AV.int IntKind.i64 4,
      AV.int IntKind.i64
        (mk 4 (qay x0 x1 x2 x3 x4 x5 x6 x7 x8 x9 x10 x11 x12 x13 x14 x15 x16 x17 x18 x19 x20 x21 x22 x23 x24 x26)
          (IntKind.i64.wrap (x25 - mk 3 (qay x0 x1 x2 x3 x4 x5 x6 x7 x8 x9 x10 x11 x12 x13 x14 x15 x16 x17 x18 x19 x20 x21 x22 x23 x24 x26) x25)))],
  AV.agg
    [AV.int IntKind.i64 5,
      AV.int IntKind.i64
        (IntKind.i64.wrap
          (IntKind.i64.wrap (x25 - mk 3 (qay x0 x1 x2 x3 x4 x5 x6 x7 x8 x9 x10 x11 x12 x13 x14 x15 x16 x17 x18 x19 x20 x21 x22 x23 x24 x26) x25) -
            mk 4 (qay x0 x1 x2 x3 x4 x5 x6 x7 x8 x9 x10 x11 x12 x13 x14 x15 x16 x17 x18 x19 x20 x21 x22 x23 x24 x26)
              (IntKind.i64.wrap (x25 - mk 3 (qay x0 x1 x2 x3 x4 x5 x6 x7 x8 x9 x10 x11 x12 x13 x14 x15 x16 x17 x18 x19 x20 x21 x22 x23 x24 x26) x25))))]],0)))
                 (.no))
                (.no))
               (.br (lfK x0 x1 x2
                   (IntKind.i64.wrap
                     (x3 +
                       mk 4 (qay x0 x1 x2 x3 x4 x5 x6 x7 x8 x9 x10 x11 x12 x13 x14 x15 x16 x17 x18 x19 x20 x21 x22 x23 x24 x26)
                         (IntKind.i64.wrap (x25 - mk 3 (qay x0 x1 x2 x3 x4 x5 x6 x7 x8 x9 x10 x11 x12 x13 x14 x15 x16 x17 x18 x19 x20 x21 x22 x23 x24 x26) x25))))
                   (IntKind.i64.wrap (x4 + mk 3 (qay x0 x1 x2 x3 x4 x5 x6 x7 x8 x9 x10 x11 x12 x13 x14 x15 x16 x17 x18 x19 x20 x21 x22 x23 x24 x26) x25)) x5 x6 x7 x8 x9 x10 x11 x12 x13 x14 x15 x16
                   x17 x18 x19 x20 x21 x22 x23 x24 false)
                (.br (decide (x23.length ≠ 0) && decide (x23.length * 32 <= lim))
                 (.br (decide (x24.length = 0))
                  (.at ((x0,x1,2,IntKind.i64.wrap
  (x3 +
    mk 4 (qay x0 x1 x2 x3 x4 x5 x6 x7 x8 x9 x10 x11 x12 x13 x14 x15 x16 x17 x18 x19 x20 x21 x22 x23 x24 x26)
      (IntKind.i64.wrap (x25 - mk 3 (qay x0 x1 x2 x3 x4 x5 x6 x7 x8 x9 x10 x11 x12 x13 x14 x15 x16 x17 x18 x19 x20 x21 x22 x23 x24 x26) x25))),IntKind.i64.wrap (x4 + mk 3 (qay x0 x1 x2 x3 x4 x5 x6 x7 x8 x9 x10 x11 x12 x13 x14 x15 x16 x17 x18 x19 x20 x21 x22 x23 x24 x26) x25),x5,x6,x7,x8,x9,x10,x11,x12,x13,x14,x15,x16,x17,x18,x19,x20,x21,x22,x23,[],[AV.agg [AV.int IntKind.i64 3,AV.int IntKind.i64 (mk 3 (qay x0 x1 x2 x3 x4 x5 x6 x7 x8 x9 x10 x11 x12 x13 x14 x15 x16 x17 x18 x19 x20 x21 x22 x23 x24 x26) x25)],
  AV.agg
    [AV.int IntKind.i64 4,
      AV.int IntKind.i64
        (mk 4 (qay x0 x1 x2 x3 x4 x5 x6 x7 x8 x9 x10 x11 x12 x13 x14 x15 x16 x17 x18 x19 x20 x21 x22 x23 x24 x26)
          (IntKind.i64.wrap (x25 - mk 3 (qay x0 x1 x2 x3 x4 x5 x6 x7 x8 x9 x10 x11 x12 x13 x14 x15 x16 x17 x18 x19 x20 x21 x22 x23 x24 x26) x25)))],
  AV.agg
    [AV.int IntKind.i64 5,
      AV.int IntKind.i64
        (IntKind.i64.wrap
          (IntKind.i64.wrap (x25 - mk 3 (qay x0 x1 x2 x3 x4 x5 x6 x7 x8 x9 x10 x11 x12 x13 x14 x15 x16 x17 x18 x19 x20 x21 x22 x23 x24 x26) x25) -
            mk 4 (qay x0 x1 x2 x3 x4 x5 x6 x7 x8 x9 x10 x11 x12 x13 x14 x15 x16 x17 x18 x19 x20 x21 x22 x23 x24 x26)
              (IntKind.i64.wrap (x25 - mk 3 (qay x0 x1 x2 x3 x4 x5 x6 x7 x8 x9 x10 x11 x12 x13 x14 x15 x16 x17 x18 x19 x20 x21 x22 x23 x24 x26) x25))))]],0)))
                  (.no))
                 (.no))
                (.no)))
              (.br (lfK x0 x1 x2
                  (IntKind.i64.wrap
                    (x3 +
                      mk 4 (qay x0 x1 x2 x3 x4 x5 x6 x7 x8 x9 x10 x11 x12 x13 x14 x15 x16 x17 x18 x19 x20 x21 x22 x23 x24 x26)
                        (IntKind.i64.wrap (x25 - mk 3 (qay x0 x1 x2 x3 x4 x5 x6 x7 x8 x9 x10 x11 x12 x13 x14 x15 x16 x17 x18 x19 x20 x21 x22 x23 x24 x26) x25))))
                  (IntKind.i64.wrap (x4 + mk 3 (qay x0 x1 x2 x3 x4 x5 x6 x7 x8 x9 x10 x11 x12 x13 x14 x15 x16 x17 x18 x19 x20 x21 x22 x23 x24 x26) x25)) x5 x6 x7 x8 x9 x10 x11 x12 x13 x14 x15 x16
                  x17 x18 x19 x20 x21 x22 x23 x24 true)
               (.br (decide (x23.length ≠ 0) && decide (x23.length * 32 <= lim))
                (.br (decide (x24.length = 0))
                 (.at ((x0,x1,x2,IntKind.i64.wrap
  (x3 +
    mk 4 (qay x0 x1 x2 x3 x4 x5 x6 x7 x8 x9 x10 x11 x12 x13 x14 x15 x16 x17 x18 x19 x20 x21 x22 x23 x24 x26)
      (IntKind.i64.wrap (x25 - mk 3 (qay x0 x1 x2 x3 x4 x5 x6 x7 x8 x9 x10 x11 x12 x13 x14 x15 x16 x17 x18 x19 x20 x21 x22 x23 x24 x26) x25))),IntKind.i64.wrap (x4 + mk 3 (qay x0 x1 x2 x3 x4 x5 x6 x7 x8 x9 x10 x11 x12 x13 x14 x15 x16 x17 x18 x19 x20 x21 x22 x23 x24 x26) x25),x5,x6,x7,x8,x9,x10,x11,x12,x13,x14,x15,x16,x17,x18,x19,x20,x21,x22,x23,[],[AV.agg [AV.int IntKind.i64 3,AV.int IntKind.i64 (mk 3 (qay x0 x1 x2 x3 x4 x5 x6 x7 x8 x9 x10 x11 x12 x13 x14 x15 x16 x17 x18 x19 x20 x21 x22 x23 x24 x26) x25)],
  AV.agg
    [AV.int IntKind.i64 4,
      AV.int IntKind.i64
        (mk 4 (qay x0 x1 x2 x3 x4 x5 x6 x7 x8 x9 x10 x11 x12 x13 x14 x15 x16 x17 x18 x19 x20 x21 x22 x23 x24 x26)
          (IntKind.i64.wrap (x25 - mk 3 (qay x0 x1 x2 x3 x4 x5 x6 x7 x8 x9 x10 x11 x12 x13 x14 x15 x16 x17 x18 x19 x20 x21 x22 x23 x24 x26) x25)))]],0)))
                 (.no))
                (.no))
               (.br (lfK x0 x1 x2
                   (IntKind.i64.wrap
                     (x3 +
                       mk 4 (qay x0 x1 x2 x3 x4 x5 x6 x7 x8 x9 x10 x11 x12 x13 x14 x15 x16 x17 x18 x19 x20 x21 x22 x23 x24 x26)
                         (IntKind.i64.wrap (x25 - mk 3 (qay x0 x1 x2 x3 x4 x5 x6 x7 x8 x9 x10 x11 x12 x13 x14 x15 x16 x17 x18 x19 x20 x21 x22 x23 x24 x26) x25))))
                   (IntKind.i64.wrap (x4 + mk 3 (qay x0 x1 x2 x3 x4 x5 x6 x7 x8 x9 x10 x11 x12 x13 x14 x15 x16 x17 x18 x19 x20 x21 x22 x23 x24 x26) x25)) x5 x6 x7 x8 x9 x10 x11 x12 x13 x14 x15 x16
                   x17 x18 x19 x20 x21 x22 x23 x24 false)
                (.br (decide (x23.length ≠ 0) && decide (x23.length * 32 <= lim))
                 (.br (decide (x24.length = 0))
                  (.at ((x0,x1,2,IntKind.i64.wrap
  (x3 +
    mk 4 (qay x0 x1 x2 x3 x4 x5 x6 x7 x8 x9 x10 x11 x12 x13 x14 x15 x16 x17 x18 x19 x20 x21 x22 x23 x24 x26)
      (IntKind.i64.wrap (x25 - mk 3 (qay x0 x1 x2 x3 x4 x5 x6 x7 x8 x9 x10 x11 x12 x13 x14 x15 x16 x17 x18 x19 x20 x21 x22 x23 x24 x26) x25))),IntKind.i64.wrap (x4 + mk 3 (qay x0 x1 x2 x3 x4 x5 x6 x7 x8 x9 x10 x11 x12 x13 x14 x15 x16 x17 x18 x19 x20 x21 x22 x23 x24 x26) x25),x5,x6,x7,x8,x9,x10,x11,x12,x13,x14,x15,x16,x17,x18,x19,x20,x21,x22,x23,[],[AV.agg [AV.int IntKind.i64 3,AV.int IntKind.i64 (mk 3 (qay x0 x1 x2 x3 x4 x5 x6 x7 x8 x9 x10 x11 x12 x13 x14 x15 x16 x17 x18 x19 x20 x21 x22 x23 x24 x26) x25)],
  AV.agg
    [AV.int IntKind.i64 4,
      AV.int IntKind.i64
        (mk 4 (qay x0 x1 x2 x3 x4 x5 x6 x7 x8 x9 x10 x11 x12 x13 x14 x15 x16 x17 x18 x19 x20 x21 x22 x23 x24 x26)
          (IntKind.i64.wrap (x25 - mk 3 (qay x0 x1 x2 x3 x4 x5 x6 x7 x8 x9 x10 x11 x12 x13 x14 x15 x16 x17 x18 x19 x20 x21 x22 x23 x24 x26) x25)))]],0)))
                  (.no))
                 (.no))
                (.no))))
             (.br (t2K (IntKind.i64.wrap (x25 - mk 3 (qay x0 x1 x2 x3 x4 x5 x6 x7 x8 x9 x10 x11 x12 x13 x14 x15 x16 x17 x18 x19 x20 x21 x22 x23 x24 x26) x25))
                 (qay x0 x1 x2 x3 x4 x5 x6 x7 x8 x9 x10 x11 x12 x13 x14 x15 x16 x17 x18 x19 x20 x21 x22 x23 x24 x26)
                 [AV.agg [AV.int IntKind.i64 3,AV.int IntKind.i64 (mk 3 (qay x0 x1 x2 x3 x4 x5 x6 x7 x8 x9 x10 x11 x12 x13 x14 x15 x16 x17 x18 x19 x20 x21 x22 x23 x24 x26) x25)]] 4)
              (.br (decide (IntKind.i64.wrap (x25 - mk 3 (qay x0 x1 x2 x3 x4 x5 x6 x7 x8 x9 x10 x11 x12 x13 x14 x15 x16 x17 x18 x19 x20 x21 x22 x23 x24 x26) x25) > 0))
               (.br (lfK x0 x1 x2 (IntKind.i64.wrap (x3 + 0)) (IntKind.i64.wrap (x4 + mk 3 (qay x0 x1 x2 x3 x4 x5 x6 x7 x8 x9 x10 x11 x12 x13 x14 x15 x16 x17 x18 x19 x20 x21 x22 x23 x24 x26) x25)) x5
                   x6 x7 x8 x9 x10 x11 x12 x13 x14 x15 x16 x17 x18 x19 x20 x21 x22 x23 x24 true)
                (.br (decide (x23.length ≠ 0) && decide (x23.length * 32 <= lim))
                 (.br (decide (x24.length = 0))
                  (.at ((x0,x1,x2,IntKind.i64.wrap (x3 + 0),IntKind.i64.wrap (x4 + mk 3 (qay x0 x1 x2 x3 x4 x5 x6 x7 x8 x9 x10 x11 x12 x13 x14 x15 x16 x17 x18 x19 x20 x21 x22 x23 x24 x26) x25),x5,x6,x7,x8,x9,x10,x11,x12,x13,x14,x15,x16,x17,x18,x19,x20,x21,x22,x23,[],[AV.agg [AV.int IntKind.i64 3,AV.int IntKind.i64 (mk 3 (qay x0 x1 x2 x3 x4 x5 x6 x7 x8 x9 x10 x11 x12 x13 x14 x15 x16 x17 x18 x19 x20 x21 x22 x23 x24 x26) x25)],
  AV.agg
    [AV.int IntKind.i64 5,
      AV.int IntKind.i64 (IntKind.i64.wrap (x25 - mk 3 (qay x0 x1 x2 x3 x4 x5 x6 x7 x8 x9 x10 x11 x12 x13 x14 x15 x16 x17 x18 x19 x20 x21 x22 x23 x24 x26) x25))]],0)))
                  (.no))
                 (.no))
                (.br (lfK x0 x1 x2 (IntKind.i64.wrap (x3 + 0)) (IntKind.i64.wrap (x4 + mk 3 (qay x0 x1 x2 x3 x4 x5 x6 x7 x8 x9 x10 x11 x12 x13 x14 x15 x16 x17 x18 x19 x20 x21 x22 x23 x24 x26) x25)) x5
                    x6 x7 x8 x9 x10 x11 x12 x13 x14 x15 x16 x17 x18 x19 x20 x21 x22 x23 x24 false)
                 (.br (decide (x23.length ≠ 0) && decide (x23.length * 32 <= lim))
                  (.br (decide (x24.length = 0))
                   (.at ((x0,x1,2,IntKind.i64.wrap (x3 + 0),IntKind.i64.wrap (x4 + mk 3 (qay x0 x1 x2 x3 x4 x5 x6 x7 x8 x9 x10 x11 x12 x13 x14 x15 x16 x17 x18 x19 x20 x21 x22 x23 x24 x26) x25),x5,x6,x7,x8,x9,x10,x11,x12,x13,x14,x15,x16,x17,x18,x19,x20,x21,x22,x23,[],[AV.agg [AV.int IntKind.i64 3,AV.int IntKind.i64 (mk 3 (qay x0 x1 x2 x3 x4 x5 x6 x7 x8 x9 x10 x11 x12 x13 x14 x15 x16 x17 x18 x19 x20 x21 x22 x23 x24 x26) x25)],
  AV.agg
    [AV.int IntKind.i64 5,
      AV.int IntKind.i64 (IntKind.i64.wrap (x25 - mk 3 (qay x0 x1 x2 x3 x4 x5 x6 x7 x8 x9 x10 x11 x12 x13 x14 x15 x16 x17 x18 x19 x20 x21 x22 x23 x24 x26) x25))]],0)))
                   (.no))
                  (.no))
                 (.no)))
               (.br (lfK x0 x1 x2 (IntKind.i64.wrap (x3 + 0)) (IntKind.i64.wrap (x4 + mk 3 (qay x0 x1 x2 x3 x4 x5 x6 x7 x8 x9 x10 x11 x12 x13 x14 x15 x16 x17 x18 x19 x20 x21 x22 x23 x24 x26) x25)) x5
                   x6 x7 x8 x9 x10 x11 x12 x13 x14 x15 x16 x17 x18 x19 x20 x21 x22 x23 x24 true)
                (.br (decide (x23.length ≠ 0) && decide (x23.length * 32 <= lim))
                 (.br (decide (x24.length = 0))
                  (.at ((x0,x1,x2,IntKind.i64.wrap (x3 + 0),IntKind.i64.wrap (x4 + mk 3 (qay x0 x1 x2 x3 x4 x5 x6 x7 x8 x9 x10 x11 x12 x13 x14 x15 x16 x17 x18 x19 x20 x21 x22 x23 x24 x26) x25),x5,x6,x7,x8,x9,x10,x11,x12,x13,x14,x15,x16,x17,x18,x19,x20,x21,x22,x23,[],[AV.agg [AV.int IntKind.i64 3,AV.int IntKind.i64 (mk 3 (qay x0 x1 x2 x3 x4 x5 x6 x7 x8 x9 x10 x11 x12 x13 x14 x15 x16 x17 x18 x19 x20 x21 x22 x23 x24 x26) x25)]],0)))
                  (.no))
                 (.no))
                (.br (lfK x0 x1 x2 (IntKind.i64.wrap (x3 + 0)) (IntKind.i64.wrap (x4 + mk 3 (qay x0 x1 x2 x3 x4 x5 x6 x7 x8 x9 x10 x11 x12 x13 x14 x15 x16 x17 x18 x19 x20 x21 x22 x23 x24 x26) x25)) x5
                    x6 x7 x8 x9 x10 x11 x12 x13 x14 x15 x16 x17 x18 x19 x20 x21 x22 x23 x24 false)
                 (.br (decide (x23.length ≠ 0) && decide (x23.length * 32 <= lim))
                  (.br (decide (x24.length = 0))
                   (.at ((x0,x1,2,IntKind.i64.wrap (x3 + 0),IntKind.i64.wrap (x4 + mk 3 (qay x0 x1 x2 x3 x4 x5 x6 x7 x8 x9 x10 x11 x12 x13 x14 x15 x16 x17 x18 x19 x20 x21 x22 x23 x24 x26) x25),x5,x6,x7,x8,x9,x10,x11,x12,x13,x14,x15,x16,x17,x18,x19,x20,x21,x22,x23,[],[AV.agg [AV.int IntKind.i64 3,AV.int IntKind.i64 (mk 3 (qay x0 x1 x2 x3 x4 x5 x6 x7 x8 x9 x10 x11 x12 x13 x14 x15 x16 x17 x18 x19 x20 x21 x22 x23 x24 x26) x25)]],0)))
                   (.no))
                  (.no))
                 (.no))))
              (.no)))
            (.no))
           (.br (fiK x25 (qay x0 x1 x2 x3 x4 x5 x6 x7 x8 x9 x10 x11 x12 x13 x14 x15 x16 x17 x18 x19 x20 x21 x22 x23 x24 x26) 4)
            (.br (t0K x25 (qay x0 x1 x2 x3 x4 x5 x6 x7 x8 x9 x10 x11 x12 x13 x14 x15 x16 x17 x18 x19 x20 x21 x22 x23 x24 x26) 4)
             (.br (decide (IntKind.i64.wrap (x25 - mk 4 (qay x0 x1 x2 x3 x4 x5 x6 x7 x8 x9 x10 x11 x12 x13 x14 x15 x16 x17 x18 x19 x20 x21 x22 x23 x24 x26) x25) > 0))
              (.br (lfK x0 x1 x2 (IntKind.i64.wrap (x3 + mk 4 (qay x0 x1 x2 x3 x4 x5 x6 x7 x8 x9 x10 x11 x12 x13 x14 x15 x16 x17 x18 x19 x20 x21 x22 x23 x24 x26) x25)) x4 x5 x6 x7 x8 x9 x10 x11 x12
                  x13 x14 x15 x16 x17 x18 x19 x20 x21 x22 x23 x24 true)
               (.br (decide (x23.length ≠ 0) && decide (x23.length * 32 <= lim))
                (.br (decide (x24.length = 0))
                 (.at ((x0,x1,x2,IntKind.i64.wrap (x3 + mk 4 (qay x0 x1 x2 x3 x4 x5 x6 x7 x8 x9 x10 x11 x12 x13 x14 x15 x16 x17 x18 x19 x20 x21 x22 x23 x24 x26) x25),x4,x5,x6,x7,x8,x9,x10,x11,x12,x13,x14,x15,x16,x17,x18,x19,x20,x21,x22,x23,[],[AV.agg [AV.int IntKind.i64 4,AV.int IntKind.i64 (mk 4 (qay x0 x1 x2 x3 x4 x5 x6 x7 x8 x9 x10 x11 x12 x13 x14 x15 x16 x17 x18 x19 x20 x21 x22 x23 x24 x26) x25)],
  AV.agg
    [AV.int IntKind.i64 5,
      AV.int IntKind.i64 (IntKind.i64.wrap (x25 - mk 4 (qay x0 x1 x2 x3 x4 x5 x6 x7 x8 x9 x10 x11 x12 x13 x14 x15 x16 x17 x18 x19 x20 x21 x22 x23 x24 x26) x25))]],0)))
                 (.no))
                (.no))
               (.br (lfK x0 x1 x2 (IntKind.i64.wrap (x3 + mk 4 (qay x0 x1 x2 x3 x4 x5 x6 x7 x8 x9 x10 x11 x12 x13 x14 x15 x16 x17 x18 x19 x20 x21 x22 x23 x24 x26) x25)) x4 x5 x6 x7 x8 x9 x10 x11 x12
                   x13 x14 x15 x16 x17 x18 x19 x20 x21 x22 x23 x24 false)
                (.br (decide (x23.length ≠ 0) && decide (x23.length * 32 <= lim))
                 (.br (decide (x24.length = 0))
                  (.at ((x0,x1,2,IntKind.i64.wrap (x3 + mk 4 (qay x0 x1 x2 x3 x4 x5 x6 x7 x8 x9 x10 x11 x12 x13 x14 x15 x16 x17 x18 x19 x20 x21 x22 x23 x24 x26) x25),x4,x5,x6,x7,x8,x9,x10,x11,x12,x13,x14,x15,x16,x17,x18,x19,x20,x21,x22,x23,[],[AV.agg [AV.int IntKind.i64 4,AV.int IntKind.i64 (mk 4 (qay x0 x1 x2 x3 x4 x5 x6 x7 x8 x9 x10 x11 x12 x13 x14 x15 x16 x17 x18 x19 x20 x21 x22 x23 x24 x26) x25)],
  AV.agg
    [AV.int IntKind.i64 5,
      AV.int IntKind.i64 (IntKind.i64.wrap (x25 - mk 4 (qay x0 x1 x2 x3 x4 x5 x6 x7 x8 x9 x10 x11 x12 x13 x14 x15 x16 x17 x18 x19 x20 x21 x22 x23 x24 x26) x25))]],0)))
                  (.no))
                 (.no))
                (.no)))
              (.br (lfK x0 x1 x2 (IntKind.i64.wrap (x3 + mk 4 (qay x0 x1 x2 x3 x4 x5 x6 x7 x8 x9 x10 x11 x12 x13 x14 x15 x16 x17 x18 x19 x20 x21 x22 x23 x24 x26) x25)) x4 x5 x6 x7 x8 x9 x10 x11 x12
                  x13 x14 x15 x16 x17 x18 x19 x20 x21 x22 x23 x24 true)
               (.br (decide (x23.length ≠ 0) && decide (x23.length * 32 <= lim))
                (.br (decide (x24.length = 0))
                 (.at ((x0,x1,x2,IntKind.i64.wrap (x3 + mk 4 (qay x0 x1 x2 x3 x4 x5 x6 x7 x8 x9 x10 x11 x12 x13 x14 x15 x16 x17 x18 x19 x20 x21 x22 x23 x24 x26) x25),x4,x5,x6,x7,x8,x9,x10,x11,x12,x13,x14,x15,x16,x17,x18,x19,x20,x21,x22,x23,[],[AV.agg [AV.int IntKind.i64 4,AV.int IntKind.i64 (mk 4 (qay x0 x1 x2 x3 x4 x5 x6 x7 x8 x9 x10 x11 x12 x13 x14 x15 x16 x17 x18 x19 x20 x21 x22 x23 x24 x26) x25)]],0)))
                 (.no))
                (.no))
               (.br (lfK x0 x1 x2 (IntKind.i64.wrap (x3 + mk 4 (qay x0 x1 x2 x3 x4 x5 x6 x7 x8 x9 x10 x11 x12 x13 x14 x15 x16 x17 x18 x19 x20 x21 x22 x23 x24 x26) x25)) x4 x5 x6 x7 x8 x9 x10 x11 x12
                   x13 x14 x15 x16 x17 x18 x19 x20 x21 x22 x23 x24 false)
                (.br (decide (x23.length ≠ 0) && decide (x23.length * 32 <= lim))
                 (.br (decide (x24.length = 0))
                  (.at ((x0,x1,2,IntKind.i64.wrap (x3 + mk 4 (qay x0 x1 x2 x3 x4 x5 x6 x7 x8 x9 x10 x11 x12 x13 x14 x15 x16 x17 x18 x19 x20 x21 x22 x23 x24 x26) x25),x4,x5,x6,x7,x8,x9,x10,x11,x12,x13,x14,x15,x16,x17,x18,x19,x20,x21,x22,x23,[],[AV.agg [AV.int IntKind.i64 4,AV.int IntKind.i64 (mk 4 (qay x0 x1 x2 x3 x4 x5 x6 x7 x8 x9 x10 x11 x12 x13 x14 x15 x16 x17 x18 x19 x20 x21 x22 x23 x24 x26) x25)]],0)))
                  (.no))
                 (.no))
                (.no))))
             (.no))
            (.no))))
         (.no))))
      (.no))
     (.no))
    (.no))
   (.no))
def qff (x0:Int) (x1:Int) (x2:Int) (x3:Int) (x4:Int) (x5:Int) (x6:Int) (x7:Int) (x8:Int) (x9:Int) (x10:Int) (x11:Int) (x12:Int) (x13:Int) (x14:Int) (x15:Int) (x16:Int) (x17:Int) (x18:Int) (x19:Int) (x20:Int) (x21:List UInt8) (x22:List UInt8) (x23:List AV) (x24:List AV) (x25:Int) (x26:Int):Option qgb:=qaK (qeO x0 x1 x2 x3 x4 x5 x6 x7 x8 x9 x10 x11 x12 x13 x14 x15 x16 x17 x18 x19 x20 x21 x22 x23 x24 x25 x26).ev
theorem qfI (x0:Int) (x1:Int) (x2:Int) (x3:Int) (x4:Int) (x5:Int) (x6:Int) (x7:Int) (x8:Int) (x9:Int) (x10:Int) (x11:Int) (x12:Int) (x13:Int) (x14:Int) (x15:Int) (x16:Int) (x17:Int) (x18:Int) (x19:Int) (x20:Int) (x21:List UInt8) (x22:List UInt8) (x23:List AV) (x24:List AV) (x25:Int) (x26:Int):qff x0 x1 x2 x3 x4 x5 x6 x7 x8 x9 x10 x11 x12 x13 x14 x15 x16 x17 x18 x19 x20 x21 x22 x23 x24 x25 x26 = (qeO x0 x1 x2 x3 x4 x5 x6 x7 x8 x9 x10 x11 x12 x13 x14 x15 x16 x17 x18 x19 x20 x21 x22 x23 x24 x25 x26).ev:=qaa _
theorem qne:FH IP 7 qkD qgC (k27 qff):=qaj (F:=F7) (L:=[]) (t:=(k27 qeO)) qyF (qaf (l:=[]) (by kernel_rfl) trivial) (by kernel_rfl) (fun v=>by kernel_rfl) (fun _=>qaa _)
def T1:Tab:=(7,FE qkD qgC (k27 qff)) :: T0
theorem qMD:qap IP T1:=⟨qas qne,qyF⟩
end
end Go.Proofs.H35P

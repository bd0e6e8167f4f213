/- Functions over plain data. Printed by a program of mine. -/
import Derived.Test.YtbieppilagmdjaaGreatDoorE3
import Derived.Test.YtbieppilagmdjaaGreatDoorSpA
import Derived.Test.YtbieppilagmdjaaGreatDoorIP35
import Derived.KernelRfl
set_option linter.unusedVariables false
set_option linter.unusedSimpArgs false
set_option linter.unnecessarySimpa false
namespace Go.Proofs.H35
open Go Go.Eng
set_option maxRecDepth 100000
noncomputable section
abbrev k2 {a0 a1 r:Type} (f:a0 -> a1 -> r) (v:a0 × a1):r:=f v.1 v.2
abbrev k3 {a0 a1 a2 r:Type} (f:a0 -> a1 -> a2 -> r) (v:a0 × a1 × a2):r:=f v.1 v.2.1 v.2.2
abbrev k4 {a0 a1 a2 a3 r:Type} (f:a0 -> a1 -> a2 -> a3 -> r) (v:a0 × a1 × a2 × a3):r:=f v.1 v.2.1 v.2.2.1 v.2.2.2
abbrev k5 {a0 a1 a2 a3 a4 r:Type} (f:a0 -> a1 -> a2 -> a3 -> a4 -> r) (v:a0 × a1 × a2 × a3 × a4):r:=f v.1 v.2.1 v.2.2.1 v.2.2.2.1 v.2.2.2.2
abbrev k6 {a0 a1 a2 a3 a4 a5 r:Type} (f:a0 -> a1 -> a2 -> a3 -> a4 -> a5 -> r) (v:a0 × a1 × a2 × a3 × a4 × a5):r:=f v.1 v.2.1 v.2.2.1 v.2.2.2.1 v.2.2.2.2.1 v.2.2.2.2.2
abbrev k7 {a0 a1 a2 a3 a4 a5 a6 r:Type} (f:a0 -> a1 -> a2 -> a3 -> a4 -> a5 -> a6 -> r) (v:a0 × a1 × a2 × a3 × a4 × a5 × a6):r:=f v.1 v.2.1 v.2.2.1 v.2.2.2.1 v.2.2.2.2.1 v.2.2.2.2.2.1 v.2.2.2.2.2.2
abbrev k8 {a0 a1 a2 a3 a4 a5 a6 a7 r:Type} (f:a0 -> a1 -> a2 -> a3 -> a4 -> a5 -> a6 -> a7 -> r) (v:a0 × a1 × a2 × a3 × a4 × a5 × a6 × a7):r:=f v.1 v.2.1 v.2.2.1 v.2.2.2.1 v.2.2.2.2.1 v.2.2.2.2.2.1 v.2.2.2.2.2.2.1 v.2.2.2.2.2.2.2
abbrev k9 {a0 a1 a2 a3 a4 a5 a6 a7 a8 r:Type} (f:a0 -> a1 -> a2 -> a3 -> a4 -> a5 -> a6 -> a7 -> a8 -> r) (v:a0 × a1 × a2 × a3 × a4 × a5 × a6 × a7 × a8):r:=f v.1 v.2.1 v.2.2.1 v.2.2.2.1 v.2.2.2.2.1 v.2.2.2.2.2.1 v.2.2.2.2.2.2.1 v.2.2.2.2.2.2.2.1 v.2.2.2.2.2.2.2.2
abbrev k15 {a0 a1 a2 a3 a4 a5 a6 a7 a8 a9 a10 a11 a12 a13 a14 r:Type} (f:a0 -> a1 -> a2 -> a3 -> a4 -> a5 -> a6 -> a7 -> a8 -> a9 -> a10 -> a11 -> a12 -> a13 -> a14 -> r) (v:a0 × a1 × a2 × a3 × a4 × a5 × a6 × a7 × a8 × a9 × a10 × a11 × a12 × a13 × a14):r:=f v.1 v.2.1 v.2.2.1 v.2.2.2.1 v.2.2.2.2.1 v.2.2.2.2.2.1 v.2.2.2.2.2.2.1 v.2.2.2.2.2.2.2.1 v.2.2.2.2.2.2.2.2.1 v.2.2.2.2.2.2.2.2.2.1 v.2.2.2.2.2.2.2.2.2.2.1 v.2.2.2.2.2.2.2.2.2.2.2.1 v.2.2.2.2.2.2.2.2.2.2.2.2.1 v.2.2.2.2.2.2.2.2.2.2.2.2.2.1 v.2.2.2.2.2.2.2.2.2.2.2.2.2.2
abbrev k16 {a0 a1 a2 a3 a4 a5 a6 a7 a8 a9 a10 a11 a12 a13 a14 a15 r:Type} (f:a0 -> a1 -> a2 -> a3 -> a4 -> a5 -> a6 -> a7 -> a8 -> a9 -> a10 -> a11 -> a12 -> a13 -> a14 -> a15 -> r) (v:a0 × a1 × a2 × a3 × a4 × a5 × a6 × a7 × a8 × a9 × a10 × a11 × a12 × a13 × a14 × a15):r:=f v.1 v.2.1 v.2.2.1 v.2.2.2.1 v.2.2.2.2.1 v.2.2.2.2.2.1 v.2.2.2.2.2.2.1 v.2.2.2.2.2.2.2.1 v.2.2.2.2.2.2.2.2.1 v.2.2.2.2.2.2.2.2.2.1 v.2.2.2.2.2.2.2.2.2.2.1 v.2.2.2.2.2.2.2.2.2.2.2.1 v.2.2.2.2.2.2.2.2.2.2.2.2.1 v.2.2.2.2.2.2.2.2.2.2.2.2.2.1 v.2.2.2.2.2.2.2.2.2.2.2.2.2.2.1 v.2.2.2.2.2.2.2.2.2.2.2.2.2.2.2
abbrev k17 {a0 a1 a2 a3 a4 a5 a6 a7 a8 a9 a10 a11 a12 a13 a14 a15 a16 r:Type} (f:a0 -> a1 -> a2 -> a3 -> a4 -> a5 -> a6 -> a7 -> a8 -> a9 -> a10 -> a11 -> a12 -> a13 -> a14 -> a15 -> a16 -> r) (v:a0 × a1 × a2 × a3 × a4 × a5 × a6 × a7 × a8 × a9 × a10 × a11 × a12 × a13 × a14 × a15 × a16):r:=f v.1 v.2.1 v.2.2.1 v.2.2.2.1 v.2.2.2.2.1 v.2.2.2.2.2.1 v.2.2.2.2.2.2.1 v.2.2.2.2.2.2.2.1 v.2.2.2.2.2.2.2.2.1 v.2.2.2.2.2.2.2.2.2.1 v.2.2.2.2.2.2.2.2.2.2.1 v.2.2.2.2.2.2.2.2.2.2.2.1 v.2.2.2.2.2.2.2.2.2.2.2.2.1 v.2.2.2.2.2.2.2.2.2.2.2.2.2.1 v.2.2.2.2.2.2.2.2.2.2.2.2.2.2.1 v.2.2.2.2.2.2.2.2.2.2.2.2.2.2.2.1 v.2.2.2.2.2.2.2.2.2.2.2.2.2.2.2.2
abbrev k19 {a0 a1 a2 a3 a4 a5 a6 a7 a8 a9 a10 a11 a12 a13 a14 a15 a16 a17 a18 r:Type} (f:a0 -> a1 -> a2 -> a3 -> a4 -> a5 -> a6 -> a7 -> a8 -> a9 -> a10 -> a11 -> a12 -> a13 -> a14 -> a15 -> a16 -> a17 -> a18 -> r) (v:a0 × a1 × a2 × a3 × a4 × a5 × a6 × a7 × a8 × a9 × a10 × a11 × a12 × a13 × a14 × a15 × a16 × a17 × a18):r:=f v.1 v.2.1 v.2.2.1 v.2.2.2.1 v.2.2.2.2.1 v.2.2.2.2.2.1 v.2.2.2.2.2.2.1 v.2.2.2.2.2.2.2.1 v.2.2.2.2.2.2.2.2.1 v.2.2.2.2.2.2.2.2.2.1 v.2.2.2.2.2.2.2.2.2.2.1 v.2.2.2.2.2.2.2.2.2.2.2.1 v.2.2.2.2.2.2.2.2.2.2.2.2.1 v.2.2.2.2.2.2.2.2.2.2.2.2.2.1 v.2.2.2.2.2.2.2.2.2.2.2.2.2.2.1 v.2.2.2.2.2.2.2.2.2.2.2.2.2.2.2.1 v.2.2.2.2.2.2.2.2.2.2.2.2.2.2.2.2.1 v.2.2.2.2.2.2.2.2.2.2.2.2.2.2.2.2.2.1 v.2.2.2.2.2.2.2.2.2.2.2.2.2.2.2.2.2.2
abbrev k20 {a0 a1 a2 a3 a4 a5 a6 a7 a8 a9 a10 a11 a12 a13 a14 a15 a16 a17 a18 a19 r:Type} (f:a0 -> a1 -> a2 -> a3 -> a4 -> a5 -> a6 -> a7 -> a8 -> a9 -> a10 -> a11 -> a12 -> a13 -> a14 -> a15 -> a16 -> a17 -> a18 -> a19 -> r) (v:a0 × a1 × a2 × a3 × a4 × a5 × a6 × a7 × a8 × a9 × a10 × a11 × a12 × a13 × a14 × a15 × a16 × a17 × a18 × a19):r:=f v.1 v.2.1 v.2.2.1 v.2.2.2.1 v.2.2.2.2.1 v.2.2.2.2.2.1 v.2.2.2.2.2.2.1 v.2.2.2.2.2.2.2.1 v.2.2.2.2.2.2.2.2.1 v.2.2.2.2.2.2.2.2.2.1 v.2.2.2.2.2.2.2.2.2.2.1 v.2.2.2.2.2.2.2.2.2.2.2.1 v.2.2.2.2.2.2.2.2.2.2.2.2.1 v.2.2.2.2.2.2.2.2.2.2.2.2.2.1 v.2.2.2.2.2.2.2.2.2.2.2.2.2.2.1 v.2.2.2.2.2.2.2.2.2.2.2.2.2.2.2.1 v.2.2.2.2.2.2.2.2.2.2.2.2.2.2.2.2.1 v.2.2.2.2.2.2.2.2.2.2.2.2.2.2.2.2.2.1 v.2.2.2.2.2.2.2.2.2.2.2.2.2.2.2.2.2.2.1 v.2.2.2.2.2.2.2.2.2.2.2.2.2.2.2.2.2.2.2
abbrev k25 {a0 a1 a2 a3 a4 a5 a6 a7 a8 a9 a10 a11 a12 a13 a14 a15 a16 a17 a18 a19 a20 a21 a22 a23 a24 r:Type} (f:a0 -> a1 -> a2 -> a3 -> a4 -> a5 -> a6 -> a7 -> a8 -> a9 -> a10 -> a11 -> a12 -> a13 -> a14 -> a15 -> a16 -> a17 -> a18 -> a19 -> a20 -> a21 -> a22 -> a23 -> a24 -> r) (v:a0 × a1 × a2 × a3 × a4 × a5 × a6 × a7 × a8 × a9 × a10 × a11 × a12 × a13 × a14 × a15 × a16 × a17 × a18 × a19 × a20 × a21 × a22 × a23 × a24):r:=f v.1 v.2.1 v.2.2.1 v.2.2.2.1 v.2.2.2.2.1 v.2.2.2.2.2.1 v.2.2.2.2.2.2.1 v.2.2.2.2.2.2.2.1 v.2.2.2.2.2.2.2.2.1 v.2.2.2.2.2.2.2.2.2.1 v.2.2.2.2.2.2.2.2.2.2.1 v.2.2.2.2.2.2.2.2.2.2.2.1 v.2.2.2.2.2.2.2.2.2.2.2.2.1 v.2.2.2.2.2.2.2.2.2.2.2.2.2.1 v.2.2.2.2.2.2.2.2.2.2.2.2.2.2.1 v.2.2.2.2.2.2.2.2.2.2.2.2.2.2.2.1 v.2.2.2.2.2.2.2.2.2.2.2.2.2.2.2.2.1 v.2.2.2.2.2.2.2.2.2.2.2.2.2.2.2.2.2.1 v.2.2.2.2.2.2.2.2.2.2.2.2.2.2.2.2.2.2.1 v.2.2.2.2.2.2.2.2.2.2.2.2.2.2.2.2.2.2.2.1 v.2.2.2.2.2.2.2.2.2.2.2.2.2.2.2.2.2.2.2.2.1 v.2.2.2.2.2.2.2.2.2.2.2.2.2.2.2.2.2.2.2.2.2.1 v.2.2.2.2.2.2.2.2.2.2.2.2.2.2.2.2.2.2.2.2.2.2.1 v.2.2.2.2.2.2.2.2.2.2.2.2.2.2.2.2.2.2.2.2.2.2.2.1 v.2.2.2.2.2.2.2.2.2.2.2.2.2.2.2.2.2.2.2.2.2.2.2.2
abbrev k26 {a0 a1 a2 a3 a4 a5 a6 a7 a8 a9 a10 a11 a12 a13 a14 a15 a16 a17 a18 a19 a20 a21 a22 a23 a24 a25 r:Type} (f:a0 -> a1 -> a2 -> a3 -> a4 -> a5 -> a6 -> a7 -> a8 -> a9 -> a10 -> a11 -> a12 -> a13 -> a14 -> a15 -> a16 -> a17 -> a18 -> a19 -> a20 -> a21 -> a22 -> a23 -> a24 -> a25 -> r) (v:a0 × a1 × a2 × a3 × a4 × a5 × a6 × a7 × a8 × a9 × a10 × a11 × a12 × a13 × a14 × a15 × a16 × a17 × a18 × a19 × a20 × a21 × a22 × a23 × a24 × a25):r:=f v.1 v.2.1 v.2.2.1 v.2.2.2.1 v.2.2.2.2.1 v.2.2.2.2.2.1 v.2.2.2.2.2.2.1 v.2.2.2.2.2.2.2.1 v.2.2.2.2.2.2.2.2.1 v.2.2.2.2.2.2.2.2.2.1 v.2.2.2.2.2.2.2.2.2.2.1 v.2.2.2.2.2.2.2.2.2.2.2.1 v.2.2.2.2.2.2.2.2.2.2.2.2.1 v.2.2.2.2.2.2.2.2.2.2.2.2.2.1 v.2.2.2.2.2.2.2.2.2.2.2.2.2.2.1 v.2.2.2.2.2.2.2.2.2.2.2.2.2.2.2.1 v.2.2.2.2.2.2.2.2.2.2.2.2.2.2.2.2.1 v.2.2.2.2.2.2.2.2.2.2.2.2.2.2.2.2.2.1 v.2.2.2.2.2.2.2.2.2.2.2.2.2.2.2.2.2.2.1 v.2.2.2.2.2.2.2.2.2.2.2.2.2.2.2.2.2.2.2.1 v.2.2.2.2.2.2.2.2.2.2.2.2.2.2.2.2.2.2.2.2.1 v.2.2.2.2.2.2.2.2.2.2.2.2.2.2.2.2.2.2.2.2.2.1 v.2.2.2.2.2.2.2.2.2.2.2.2.2.2.2.2.2.2.2.2.2.2.1 v.2.2.2.2.2.2.2.2.2.2.2.2.2.2.2.2.2.2.2.2.2.2.2.1 v.2.2.2.2.2.2.2.2.2.2.2.2.2.2.2.2.2.2.2.2.2.2.2.2.1 v.2.2.2.2.2.2.2.2.2.2.2.2.2.2.2.2.2.2.2.2.2.2.2.2.2
abbrev k27 {a0 a1 a2 a3 a4 a5 a6 a7 a8 a9 a10 a11 a12 a13 a14 a15 a16 a17 a18 a19 a20 a21 a22 a23 a24 a25 a26 r:Type} (f:a0 -> a1 -> a2 -> a3 -> a4 -> a5 -> a6 -> a7 -> a8 -> a9 -> a10 -> a11 -> a12 -> a13 -> a14 -> a15 -> a16 -> a17 -> a18 -> a19 -> a20 -> a21 -> a22 -> a23 -> a24 -> a25 -> a26 -> r) (v:a0 × a1 × a2 × a3 × a4 × a5 × a6 × a7 × a8 × a9 × a10 × a11 × a12 × a13 × a14 × a15 × a16 × a17 × a18 × a19 × a20 × a21 × a22 × a23 × a24 × a25 × a26):r:=f v.1 v.2.1 v.2.2.1 v.2.2.2.1 v.2.2.2.2.1 v.2.2.2.2.2.1 v.2.2.2.2.2.2.1 v.2.2.2.2.2.2.2.1 v.2.2.2.2.2.2.2.2.1 v.2.2.2.2.2.2.2.2.2.1 v.2.2.2.2.2.2.2.2.2.2.1 v.2.2.2.2.2.2.2.2.2.2.2.1 v.2.2.2.2.2.2.2.2.2.2.2.2.1 v.2.2.2.2.2.2.2.2.2.2.2.2.2.1 v.2.2.2.2.2.2.2.2.2.2.2.2.2.2.1 v.2.2.2.2.2.2.2.2.2.2.2.2.2.2.2.1 v.2.2.2.2.2.2.2.2.2.2.2.2.2.2.2.2.1 v.2.2.2.2.2.2.2.2.2.2.2.2.2.2.2.2.2.1 v.2.2.2.2.2.2.2.2.2.2.2.2.2.2.2.2.2.2.1 v.2.2.2.2.2.2.2.2.2.2.2.2.2.2.2.2.2.2.2.1 v.2.2.2.2.2.2.2.2.2.2.2.2.2.2.2.2.2.2.2.2.1 v.2.2.2.2.2.2.2.2.2.2.2.2.2.2.2.2.2.2.2.2.2.1 v.2.2.2.2.2.2.2.2.2.2.2.2.2.2.2.2.2.2.2.2.2.2.1 v.2.2.2.2.2.2.2.2.2.2.2.2.2.2.2.2.2.2.2.2.2.2.2.1 v.2.2.2.2.2.2.2.2.2.2.2.2.2.2.2.2.2.2.2.2.2.2.2.2.1 v.2.2.2.2.2.2.2.2.2.2.2.2.2.2.2.2.2.2.2.2.2.2.2.2.2.1 v.2.2.2.2.2.2.2.2.2.2.2.2.2.2.2.2.2.2.2.2.2.2.2.2.2.2
abbrev k30 {a0 a1 a2 a3 a4 a5 a6 a7 a8 a9 a10 a11 a12 a13 a14 a15 a16 a17 a18 a19 a20 a21 a22 a23 a24 a25 a26 a27 a28 a29 r:Type} (f:a0 -> a1 -> a2 -> a3 -> a4 -> a5 -> a6 -> a7 -> a8 -> a9 -> a10 -> a11 -> a12 -> a13 -> a14 -> a15 -> a16 -> a17 -> a18 -> a19 -> a20 -> a21 -> a22 -> a23 -> a24 -> a25 -> a26 -> a27 -> a28 -> a29 -> r) (v:a0 × a1 × a2 × a3 × a4 × a5 × a6 × a7 × a8 × a9 × a10 × a11 × a12 × a13 × a14 × a15 × a16 × a17 × a18 × a19 × a20 × a21 × a22 × a23 × a24 × a25 × a26 × a27 × a28 × a29):r:=f v.1 v.2.1 v.2.2.1 v.2.2.2.1 v.2.2.2.2.1 v.2.2.2.2.2.1 v.2.2.2.2.2.2.1 v.2.2.2.2.2.2.2.1 v.2.2.2.2.2.2.2.2.1 v.2.2.2.2.2.2.2.2.2.1 v.2.2.2.2.2.2.2.2.2.2.1 v.2.2.2.2.2.2.2.2.2.2.2.1 v.2.2.2.2.2.2.2.2.2.2.2.2.1 v.2.2.2.2.2.2.2.2.2.2.2.2.2.1 v.2.2.2.2.2.2.2.2.2.2.2.2.2.2.1 v.2.2.2.2.2.2.2.2.2.2.2.2.2.2.2.1 v.2.2.2.2.2.2.2.2.2.2.2.2.2.2.2.2.1 v.2.2.2.2.2.2.2.2.2.2.2.2.2.2.2.2.2.1 v.2.2.2.2.2.2.2.2.2.2.2.2.2.2.2.2.2.2.1 v.2.2.2.2.2.2.2.2.2.2.2.2.2.2.2.2.2.2.2.1 v.2.2.2.2.2.2.2.2.2.2.2.2.2.2.2.2.2.2.2.2.1 v.2.2.2.2.2.2.2.2.2.2.2.2.2.2.2.2.2.2.2.2.2.1 v.2.2.2.2.2.2.2.2.2.2.2.2.2.2.2.2.2.2.2.2.2.2.1 v.2.2.2.2.2.2.2.2.2.2.2.2.2.2.2.2.2.2.2.2.2.2.2.1 v.2.2.2.2.2.2.2.2.2.2.2.2.2.2.2.2.2.2.2.2.2.2.2.2.1 v.2.2.2.2.2.2.2.2.2.2.2.2.2.2.2.2.2.2.2.2.2.2.2.2.2.1 v.2.2.2.2.2.2.2.2.2.2.2.2.2.2.2.2.2.2.2.2.2.2.2.2.2.2.1 v.2.2.2.2.2.2.2.2.2.2.2.2.2.2.2.2.2.2.2.2.2.2.2.2.2.2.2.1 v.2.2.2.2.2.2.2.2.2.2.2.2.2.2.2.2.2.2.2.2.2.2.2.2.2.2.2.2.1 v.2.2.2.2.2.2.2.2.2.2.2.2.2.2.2.2.2.2.2.2.2.2.2.2.2.2.2.2.2
abbrev k41 {a0 a1 a2 a3 a4 a5 a6 a7 a8 a9 a10 a11 a12 a13 a14 a15 a16 a17 a18 a19 a20 a21 a22 a23 a24 a25 a26 a27 a28 a29 a30 a31 a32 a33 a34 a35 a36 a37 a38 a39 a40 r:Type} (f:a0 -> a1 -> a2 -> a3 -> a4 -> a5 -> a6 -> a7 -> a8 -> a9 -> a10 -> a11 -> a12 -> a13 -> a14 -> a15 -> a16 -> a17 -> a18 -> a19 -> a20 -> a21 -> a22 -> a23 -> a24 -> a25 -> a26 -> a27 -> a28 -> a29 -> a30 -> a31 -> a32 -> a33 -> a34 -> a35 -> a36 -> a37 -> a38 -> a39 -> a40 -> r) (v:a0 × a1 × a2 × a3 × a4 × a5 × a6 × a7 × a8 × a9 × a10 × a11 × a12 × a13 × a14 × a15 × a16 × a17 × a18 × a19 × a20 × a21 × a22 × a23 × a24 × a25 × a26 × a27 × a28 × a29 × a30 × a31 × a32 × a33 × a34 × a35 × a36 × a37 × a38 × a39 × a40):r:=f v.1 v.2.1 v.2.2.1 v.2.2.2.1 v.2.2.2.2.1 v.2.2.2.2.2.1 v.2.2.2.2.2.2.1 v.2.2.2.2.2.2.2.1 v.2.2.2.2.2.2.2.2.1 v.2.2.2.2.2.2.2.2.2.1 v.2.2.2.2.2.2.2.2.2.2.1 v.2.2.2.2.2.2.2.2.2.2.2.1 v.2.2.2.2.2.2.2.2.2.2.2.2.1 v.2.2.2.2.2.2.2.2.2.2.2.2.2.1 v.2.2.2.2.2.2.2.2.2.2.2.2.2.2.1 v.2.2.2.2.2.2.2.2.2.2.2.2.2.2.2.1 v.2.2.2.2.2.2.2.2.2.2.2.2.2.2.2.2.1 v.2.2.2.2.2.2.2.2.2.2.2.2.2.2.2.2.2.1 v.2.2.2.2.2.2.2.2.2.2.2.2.2.2.2.2.2.2.1 v.2.2.2.2.2.2.2.2.2.2.2.2.2.2.2.2.2.2.2.1 v.2.2.2.2.2.2.2.2.2.2.2.2.2.2.2.2.2.2.2.2.1 v.2.2.2.2.2.2.2.2.2.2.2.2.2.2.2.2.2.2.2.2.2.1 v.2.2.2.2.2.2.2.2.2.2.2.2.2.2.2.2.2.2.2.2.2.2.1 v.2.2.2.2.2.2.2.2.2.2.2.2.2.2.2.2.2.2.2.2.2.2.2.1 v.2.2.2.2.2.2.2.2.2.2.2.2.2.2.2.2.2.2.2.2.2.2.2.2.1 v.2.2.2.2.2.2.2.2.2.2.2.2.2.2.2.2.2.2.2.2.2.2.2.2.2.1 v.2.2.2.2.2.2.2.2.2.2.2.2.2.2.2.2.2.2.2.2.2.2.2.2.2.2.1 v.2.2.2.2.2.2.2.2.2.2.2.2.2.2.2.2.2.2.2.2.2.2.2.2.2.2.2.1 v.2.2.2.2.2.2.2.2.2.2.2.2.2.2.2.2.2.2.2.2.2.2.2.2.2.2.2.2.1 v.2.2.2.2.2.2.2.2.2.2.2.2.2.2.2.2.2.2.2.2.2.2.2.2.2.2.2.2.2.1 v.2.2.2.2.2.2.2.2.2.2.2.2.2.2.2.2.2.2.2.2.2.2.2.2.2.2.2.2.2.2.1 v.2.2.2.2.2.2.2.2.2.2.2.2.2.2.2.2.2.2.2.2.2.2.2.2.2.2.2.2.2.2.2.1 v.2.2.2.2.2.2.2.2.2.2.2.2.2.2.2.2.2.2.2.2.2.2.2.2.2.2.2.2.2.2.2.2.1 v.2.2.2.2.2.2.2.2.2.2.2.2.2.2.2.2.2.2.2.2.2.2.2.2.2.2.2.2.2.2.2.2.2.1 v.2.2.2.2.2.2.2.2.2.2.2.2.2.2.2.2.2.2.2.2.2.2.2.2.2.2.2.2.2.2.2.2.2.2.1 v.2.2.2.2.2.2.2.2.2.2.2.2.2.2.2.2.2.2.2.2.2.2.2.2.2.2.2.2.2.2.2.2.2.2.2.1 v.2.2.2.2.2.2.2.2.2.2.2.2.2.2.2.2.2.2.2.2.2.2.2.2.2.2.2.2.2.2.2.2.2.2.2.2.1 v.2.2.2.2.2.2.2.2.2.2.2.2.2.2.2.2.2.2.2.2.2.2.2.2.2.2.2.2.2.2.2.2.2.2.2.2.2.1 v.2.2.2.2.2.2.2.2.2.2.2.2.2.2.2.2.2.2.2.2.2.2.2.2.2.2.2.2.2.2.2.2.2.2.2.2.2.2.1 v.2.2.2.2.2.2.2.2.2.2.2.2.2.2.2.2.2.2.2.2.2.2.2.2.2.2.2.2.2.2.2.2.2.2.2.2.2.2.2.1 v.2.2.2.2.2.2.2.2.2.2.2.2.2.2.2.2.2.2.2.2.2.2.2.2.2.2.2.2.2.2.2.2.2.2.2.2.2.2.2.2
abbrev k43 {a0 a1 a2 a3 a4 a5 a6 a7 a8 a9 a10 a11 a12 a13 a14 a15 a16 a17 a18 a19 a20 a21 a22 a23 a24 a25 a26 a27 a28 a29 a30 a31 a32 a33 a34 a35 a36 a37 a38 a39 a40 a41 a42 r:Type} (f:a0 -> a1 -> a2 -> a3 -> a4 -> a5 -> a6 -> a7 -> a8 -> a9 -> a10 -> a11 -> a12 -> a13 -> a14 -> a15 -> a16 -> a17 -> a18 -> a19 -> a20 -> a21 -> a22 -> a23 -> a24 -> a25 -> a26 -> a27 -> a28 -> a29 -> a30 -> a31 -> a32 -> a33 -> a34 -> a35 -> a36 -> a37 -> a38 -> a39 -> a40 -> a41 -> a42 -> r) (v:a0 × a1 × a2 × a3 × a4 × a5 × a6 × a7 × a8 × a9 × a10 × a11 × a12 × a13 × a14 × a15 × a16 × a17 × a18 × a19 × a20 × a21 × a22 × a23 × a24 × a25 × a26 × a27 × a28 × a29 × a30 × a31 × a32 × a33 × a34 × a35 × a36 × a37 × a38 × a39 × a40 × a41 × a42):r:=f v.1 v.2.1 v.2.2.1 v.2.2.2.1 v.2.2.2.2.1 v.2.2.2.2.2.1 v.2.2.2.2.2.2.1 v.2.2.2.2.2.2.2.1 v.2.2.2.2.2.2.2.2.1 v.2.2.2.2.2.2.2.2.2.1 v.2.2.2.2.2.2.2.2.2.2.1 v.2.2.2.2.2.2.2.2.2.2.2.1 v.2.2.2.2.2.2.2.2.2.2.2.2.1 v.2.2.2.2.2.2.2.2.2.2.2.2.2.1 v.2.2.2.2.2.2.2.2.2.2.2.2.2.2.1 v.2.2.2.2.2.2.2.2.2.2.2.2.2.2.2.1 v.2.2.2.2.2.2.2.2.2.2.2.2.2.2.2.2.1 v.2.2.2.2.2.2.2.2.2.2.2.2.2.2.2.2.2.1 v.2.2.2.2.2.2.2.2.2.2.2.2.2.2.2.2.2.2.1 v.2.2.2.2.2.2.2.2.2.2.2.2.2.2.2.2.2.2.2.1 v.2.2.2.2.2.2.2.2.2.2.2.2.2.2.2.2.2.2.2.2.1 v.2.2.2.2.2.2.2.2.2.2.2.2.2.2.2.2.2.2.2.2.2.1 v.2.2.2.2.2.2.2.2.2.2.2.2.2.2.2.2.2.2.2.2.2.2.1 v.2.2.2.2.2.2.2.2.2.2.2.2.2.2.2.2.2.2.2.2.2.2.2.1 v.2.2.2.2.2.2.2.2.2.2.2.2.2.2.2.2.2.2.2.2.2.2.2.2.1 v.2.2.2.2.2.2.2.2.2.2.2.2.2.2.2.2.2.2.2.2.2.2.2.2.2.1 v.2.2.2.2.2.2.2.2.2.2.2.2.2.2.2.2.2.2.2.2.2.2.2.2.2.2.1 v.2.2.2.2.2.2.2.2.2.2.2.2.2.2.2.2.2.2.2.2.2.2.2.2.2.2.2.1 v.2.2.2.2.2.2.2.2.2.2.2.2.2.2.2.2.2.2.2.2.2.2.2.2.2.2.2.2.1 v.2.2.2.2.2.2.2.2.2.2.2.2.2.2.2.2.2.2.2.2.2.2.2.2.2.2.2.2.2.1 v.2.2.2.2.2.2.2.2.2.2.2.2.2.2.2.2.2.2.2.2.2.2.2.2.2.2.2.2.2.2.1 v.2.2.2.2.2.2.2.2.2.2.2.2.2.2.2.2.2.2.2.2.2.2.2.2.2.2.2.2.2.2.2.1 v.2.2.2.2.2.2.2.2.2.2.2.2.2.2.2.2.2.2.2.2.2.2.2.2.2.2.2.2.2.2.2.2.1 v.2.2.2.2.2.2.2.2.2.2.2.2.2.2.2.2.2.2.2.2.2.2.2.2.2.2.2.2.2.2.2.2.2.1 v.2.2.2.2.2.2.2.2.2.2.2.2.2.2.2.2.2.2.2.2.2.2.2.2.2.2.2.2.2.2.2.2.2.2.1 v.2.2.2.2.2.2.2.2.2.2.2.2.2.2.2.2.2.2.2.2.2.2.2.2.2.2.2.2.2.2.2.2.2.2.2.1 v.2.2.2.2.2.2.2.2.2.2.2.2.2.2.2.2.2.2.2.2.2.2.2.2.2.2.2.2.2.2.2.2.2.2.2.2.1 v.2.2.2.2.2.2.2.2.2.2.2.2.2.2.2.2.2.2.2.2.2.2.2.2.2.2.2.2.2.2.2.2.2.2.2.2.2.1 v.2.2.2.2.2.2.2.2.2.2.2.2.2.2.2.2.2.2.2.2.2.2.2.2.2.2.2.2.2.2.2.2.2.2.2.2.2.2.1 v.2.2.2.2.2.2.2.2.2.2.2.2.2.2.2.2.2.2.2.2.2.2.2.2.2.2.2.2.2.2.2.2.2.2.2.2.2.2.2.1 v.2.2.2.2.2.2.2.2.2.2.2.2.2.2.2.2.2.2.2.2.2.2.2.2.2.2.2.2.2.2.2.2.2.2.2.2.2.2.2.2.1 v.2.2.2.2.2.2.2.2.2.2.2.2.2.2.2.2.2.2.2.2.2.2.2.2.2.2.2.2.2.2.2.2.2.2.2.2.2.2.2.2.2.1 v.2.2.2.2.2.2.2.2.2.2.2.2.2.2.2.2.2.2.2.2.2.2.2.2.2.2.2.2.2.2.2.2.2.2.2.2.2.2.2.2.2.2
def T0:Tab:=[(5,qZt),(7,qYW),(119,qso),(219,qkk),(157,qkw),(235,qsR),(195,qjz),(267,qk2),(23,qf1 4 32),(24,qf1 14 128),(60,qf1 2 16),(148,qf1 3 32)]
theorem qyF:qap IP T0:=⟨sp5,sp7,qZz,qZD,qZB,qZE,qZC,qZF,sp23,sp24,q5j,qZA,trivial⟩
abbrev qx8:Type:=Bool
def qC7:PArgs:=⟨[.int .i64],[]⟩
def qDS:List PRes:=[⟨false,.bool,[]⟩]
def qjq (x0:Int):DT qx8:=
 .bi (br (decide (x0 >= 0)) (some (decide (x0 <= 1000000))) (some false)) (fun y0=>
 .at (y0))
 (.no)
def qdO (x0:Int):Option qx8:=qaK (qjq x0).ev
theorem qwO (x0):qdO x0 = (qjq x0).ev:=qaa _
theorem qNd:FH IP 35 qC7 qDS qdO:=fh F35 qjq qyF
def T1:Tab:=(35,FE qC7 qDS qdO) :: T0
theorem qMD:qap IP T1:=⟨qas qNd,qyF⟩
abbrev qxU:Type:=Bool
def qCY:PArgs:=⟨[.int .i64],[]⟩
def qDJ:List PRes:=[⟨false,.bool,[]⟩]
def qhq (x0:Int):DT qxU:=
 .bi (br (decide (x0 >= 0)) (some (decide (x0 <= 73048))) (some false)) (fun y0=>
 .at (y0))
 (.no)
def qfb (x0:Int):Option qxU:=qaK (qhq x0).ev
theorem qlS (x0):qfb x0 = (qhq x0).ev:=qaa _
theorem qM4:FH IP 36 qCY qDJ qfb:=fh F36 qhq qMD
def T2:Tab:=(36,FE qCY qDJ qfb) :: T1
theorem qQx:qap IP T2:=⟨qas qM4,qMD⟩
abbrev qxT:Type:=Bool
def qCX:PArgs:=⟨[.int .i64],[]⟩
def qDI:List PRes:=[⟨false,.bool,[]⟩]
def qjh (x0:Int):DT qxT:=
 .bi (br (decide (x0 >= 1)) (some (decide (x0 <= 6))) (some false)) (fun y0=>
 .at (y0))
 (.no)
def qhL (x0:Int):Option qxT:=qaK (qjh x0).ev
theorem qwF (x0):qhL x0 = (qjh x0).ev:=qaa _
theorem qM3:FH IP 37 qCX qDI qhL:=fh F37 qjh qQx
def T3:Tab:=(37,FE qCX qDI qhL) :: T2
theorem qME:qap IP T3:=⟨qas qM3,qQx⟩
abbrev qcT:Type:=List UInt8 × Int
def quW:List PSt:=[⟨[(1003800,.junk),(0,.str),(3,.int .i64)],[],0,0⟩]
def qEV (x0:List UInt8) (x1:Int):X × St:=(.ret,⟨[(2,.bool false)],[],0,0⟩)
def qEW (x0:List UInt8) (x1:Int):X × St:=(.exit 0,⟨[(2,.junk)],[],0,0⟩)
def qOY:List (qcT -> X × St):=[(k2 qEV),(k2 qEW)]
def qmW (x0:List UInt8) (x1:Int):DT (Rd qcT):=
 .br (decide (x1 < 3))
 (.br (inB x0.length x1)
 (.bi (br (decide (qcM x0 x1 < 65)) (some true) (br (inB x0.length x1) (some (decide (qcM x0 x1 > 90))) none)) (fun y0=>
 .br (y0) (.at (.done 0)) (.at (.next ((x0,IntKind.i64.wrap (x1 + 1))))))
 (.no))
 (.no))
 (.at (.done 1))
def qi4:qcT -> DT (Rd qcT):=(fun v=>qmW v.1 v.2)
def qko (v:qcT):Option (Nat × qcT):=qaK (qat (fun v=>(qi4 v).ev) v)
theorem qmv (v):qko v = qat (fun v=>(qi4 v).ev) v:=qaa _
def qvq:qdC:=LE (τ:=qcT) (hD quW) (qko) qOY
theorem qOG:Go.Eng.Told IP (qai F38 0).1 (qai F38 0).2 (qvq):=lp (inferInstance:Inhabited qcT) (hs:=quW) qi4 qME qmv
abbrev qx6:Type:=Bool
def qC5:PArgs:=⟨[.str],[]⟩
def qDQ:List PRes:=[⟨false,.bool,[]⟩]
def qjp (x0:List UInt8):DT qx6:=
 .br ((x0.length:Int) != 3)
 (.at (false))
 (.bi (pj 0 (qko (x0,0))) (fun y0=>
 .at (false))
 (.bi (pj 1 (qko (x0,0))) (fun y0=>
 .at (true))
 (.no)))
def qjW (x0:List UInt8):Option qx6:=qaK (qjp x0).ev
theorem qwN (x0):qjW x0 = (qjp x0).ev:=qaa _
theorem qNb:FH IP 38 qC5 qDQ qjW:=qaj (F:=F38) (L:=[(1003800,qvq)]) (t:=qjp) qME (qaf (l:=[qai F38 0]) (by kernel_rfl) ⟨qaG (by kernel_rfl) qOG,trivial⟩) (by kernel_rfl) (fun v=>by kernel_rfl) (fun _=>qaa _)
def T4:Tab:=(38,FE qC5 qDQ qjW) :: T3
theorem qMF:qap IP T4:=⟨qas qNb,qME⟩
abbrev qcU:Type:=List UInt8 × Int
def quX:List PSt:=[⟨[(1006400,.junk),(0,.str),(3,.int .i64)],[],0,0⟩]
def qEX (x0:List UInt8) (x1:Int):X × St:=(.ret,⟨[(2,.bool false)],[],0,0⟩)
def qEY (x0:List UInt8) (x1:Int):X × St:=(.exit 0,⟨[(2,.junk)],[],0,0⟩)
def qOZ:List (qcU -> X × St):=[(k2 qEX),(k2 qEY)]
def qmX (x0:List UInt8) (x1:Int):DT (Rd qcU):=
 .br (decide (x1 < (x0.length:Int)))
 (.br (inB x0.length x1)
 (.bi (br (decide (qcM x0 x1 < 97)) (some true) (br (inB x0.length x1) (some (decide (qcM x0 x1 > 122))) none)) (fun y0=>
 .bi (br y0 (br (inB x0.length x1) (br (decide (qcM x0 x1 < 48)) (some true) (br (inB x0.length x1) (some (decide (qcM x0 x1 > 57))) none)) none) (some false)) (fun y1=>
 .bi (br y1 (br (inB x0.length x1) (some (qcM x0 x1 != 95)) none) (some false)) (fun y2=>
 .br (y2) (.at (.done 0)) (.at (.next ((x0,IntKind.i64.wrap (x1 + 1))))))
 (.no))
 (.no))
 (.no))
 (.no))
 (.at (.done 1))
def qi5:qcU -> DT (Rd qcU):=(fun v=>qmX v.1 v.2)
def qkp (v:qcU):Option (Nat × qcU):=qaK (qat (fun v=>(qi5 v).ev) v)
theorem qmw (v):qkp v = qat (fun v=>(qi5 v).ev) v:=qaa _
def qvr:qdC:=LE (τ:=qcU) (hD quX) (qkp) qOZ
theorem qOH:Go.Eng.Told IP (qai F64 0).1 (qai F64 0).2 (qvr):=lp (inferInstance:Inhabited qcU) (hs:=quX) qi5 qMF qmw
abbrev qx7:Type:=Bool
def qC6:PArgs:=⟨[.str],[]⟩
def qDR:List PRes:=[⟨false,.bool,[]⟩]
def qhr (x0:List UInt8):DT qx7:=
 .bi (br (decide ((x0.length:Int) < 1)) (some true) (some (decide ((x0.length:Int) > 16)))) (fun y0=>
 .bi (br y0 (some true) (br (inB x0.length 0) (some (decide (qcM x0 0 < 97))) none)) (fun y1=>
 .bi (br y1 (some true) (br (inB x0.length 0) (some (decide (qcM x0 0 > 122))) none)) (fun y2=>
 .br (y2)
 (.at (false))
 (.bi (pj 0 (qkp (x0,0))) (fun y3=>
 .at (false))
 (.bi (pj 1 (qkp (x0,0))) (fun y3=>
 .at (true))
 (.no))))
 (.no))
 (.no))
 (.no)
def qjX (x0:List UInt8):Option qx7:=qaK (qhr x0).ev
theorem qlT (x0):qjX x0 = (qhr x0).ev:=qaa _
theorem qNc:FH IP 64 qC6 qDR qjX:=qaj (F:=F64) (L:=[(1006400,qvr)]) (t:=qhr) qMF (qaf (l:=[qai F64 0]) (by kernel_rfl) ⟨qaG (by kernel_rfl) qOH,trivial⟩) (by kernel_rfl) (fun v=>by kernel_rfl) (fun _=>qaa _)
def T5:Tab:=(64,FE qC6 qDR qjX) :: T4
theorem qFb:qap IP T5:=⟨qas qNc,qMF⟩
abbrev qcP:Type:=Int × List UInt8 × List AV × List AV
def quS:List PSt:=[⟨[(1003900,.junk),(1,.ref 0 0 0),(3,.int .i64)],[(0,.box [.str,.view 1,.view 1] false)],1,0⟩]
def qEO (x0:Int) (x1:List UInt8) (x2 x3:List AV):X × St:=(.ret,⟨[(1,.ref 0 0 0),(2,.int .i64 1)],[(0,.box [.str x1,.view 1 x2,.view 1 x3] false)],1,0⟩)
def qEP (x0:Int) (x1:List UInt8) (x2 x3:List AV):X × St:=(.exit 0,⟨[(1,.ref 0 0 0),(2,.junk)],[(0,.box [.str x1,.view 1 x2,.view 1 x3] false)],1,0⟩)
def qOU:List (qcP -> X × St):=[(k4 qEO),(k4 qEP)]
def qmT (x0:Int) (x1:List UInt8) (x2 x3:List AV):DT (Rd qcP):=
 .br (decide (x0 < (x2.length:Int)))
 (.br (qcO [.int .i64] x2 x0)
 (.bi (br (decide (intOf (cellAt x2 x0 0) < 0)) (some true) (br (qcO [.int .i64] x2 x0) (some (decide (intOf (cellAt x2 x0 0) > 6))) none)) (fun y0=>
 .br (y0) (.at (.done 0)) (.at (.next ((IntKind.i64.wrap (x0 + 1),x1,x2,x3)))))
 (.no))
 (.no))
 (.at (.done 1))
def qiZ:qcP -> DT (Rd qcP):=(fun v=>qmT v.1 v.2.1 v.2.2.1 v.2.2.2)
def qkm (v:qcP):Option (Nat × qcP):=qaK (qat (fun v=>(qiZ v).ev) v)
theorem qms (v):qkm v = qat (fun v=>(qiZ v).ev) v:=qaa _
def qvm:qdC:=LE (τ:=qcP) (hD quS) (qkm) qOU
theorem qOC:Go.Eng.Told IP (qai F39 0).1 (qai F39 0).2 (qvm):=lp (inferInstance:Inhabited qcP) (hs:=quS) qiZ qFb qms
abbrev qcR:Type:=List AV × Int
def quU:List PSt:=[⟨[(1006500,.junk),(0,.view 1),(3,.int .i64)],[],0,0⟩]
def qES (x0:List AV) (x1:Int):X × St:=(.ret,⟨[(2,.bool false)],[],0,0⟩)
def qET (x0:List AV) (x1:Int):X × St:=(.exit 0,⟨[(2,.junk)],[],0,0⟩)
def qOW:List (qcR -> X × St):=[(k2 qES),(k2 qET)]
def qmV (x0:List AV) (x1:Int):DT (Rd qcR):=
 .br (decide (x1 < (x0.length:Int)))
 (.br (qcO [.int .i64] x0 x1)
 (.br (qcO [.int .i64] x0 (IntKind.i64.wrap (x1 - 1)))
 (.br (decide (intOf (cellAt x0 x1 0) <= intOf (cellAt x0 (IntKind.i64.wrap (x1 - 1)) 0))) (.at (.done 0)) (.at (.next ((x0,IntKind.i64.wrap (x1 + 1))))))
 (.no))
 (.no))
 (.at (.done 1))
def qi2:qcR -> DT (Rd qcR):=(fun v=>qmV v.1 v.2)
def qhX (v:qcR):Option (Nat × qcR):=qaK (qat (fun v=>(qi2 v).ev) v)
theorem qhY (v):qhX v = qat (fun v=>(qi2 v).ev) v:=qaa _
def qvo:qdC:=LE (τ:=qcR) (hD quU) (qhX) qOW
theorem qOE:Go.Eng.Told IP (qai F65 0).1 (qai F65 0).2 (qvo):=lp (inferInstance:Inhabited qcR) (hs:=quU) qi2 qFb qhY
abbrev qxW:Type:=Bool
def qC0:PArgs:=⟨[.view 1],[]⟩
def qDL:List PRes:=[⟨false,.bool,[]⟩]
def qjj (x0:List AV):DT qxW:=
 .bi (pj 0 (qhX (x0,1))) (fun y0=>
 .at (false))
 (.bi (pj 1 (qhX (x0,1))) (fun y0=>
 .at (true))
 (.no))
def qgq (x0:List AV):Option qxW:=qaK (qjj x0).ev
theorem qwH (x0):qgq x0 = (qjj x0).ev:=qaa _
theorem qM6:FH IP 65 qC0 qDL qgq:=qaj (F:=F65) (L:=[(1006500,qvo)]) (t:=qjj) qFb (qaf (l:=[qai F65 0]) (by kernel_rfl) ⟨qaG (by kernel_rfl) qOE,trivial⟩) (by kernel_rfl) (fun v=>by kernel_rfl) (fun _=>qaa _)
def T6:Tab:=(65,FE qC0 qDL qgq) :: T5
theorem qMG:qap IP T6:=⟨qas qM6,qFb⟩
abbrev qcQ:Type:=Int × List UInt8 × List AV × List AV
def quT:List PSt:=[⟨[(1003901,.junk),(1,.ref 0 0 0),(4,.int .i64)],[(0,.box [.str,.view 1,.view 1] false)],1,0⟩]
def qEQ (x0:Int) (x1:List UInt8) (x2 x3:List AV):X × St:=(.ret,⟨[(1,.ref 0 0 0),(2,.int .i64 1)],[(0,.box [.str x1,.view 1 x2,.view 1 x3] false)],1,0⟩)
def qER (x0:Int) (x1:List UInt8) (x2 x3:List AV):X × St:=(.exit 2,⟨[(1,.ref 0 0 0),(2,.junk)],[(0,.box [.str x1,.view 1 x2,.view 1 x3] false)],1,0⟩)
def qOV:List (qcQ -> X × St):=[(k4 qEQ),(k4 qER)]
def qmU (x0:Int) (x1:List UInt8) (x2 x3:List AV):DT (Rd qcQ):=
 .br (decide (x0 < (x3.length:Int)))
 (.br (qcO [.int .i64] x3 x0)
 (.bi (qfb (intOf (cellAt x3 x0 0))) (fun y0=>
 .br (!y0) (.at (.done 0)) (.at (.next ((IntKind.i64.wrap (x0 + 1),x1,x2,x3)))))
 (.no))
 (.no))
 (.at (.done 1))
def qi1:qcQ -> DT (Rd qcQ):=(fun v=>qmU v.1 v.2.1 v.2.2.1 v.2.2.2)
def qkn (v:qcQ):Option (Nat × qcQ):=qaK (qat (fun v=>(qi1 v).ev) v)
theorem qmt (v):qkn v = qat (fun v=>(qi1 v).ev) v:=qaa _
def qvn:qdC:=LE (τ:=qcQ) (hD quT) (qkn) qOV
theorem qOD:Go.Eng.Told IP (qai F39 1).1 (qai F39 1).2 (qvn):=lp (inferInstance:Inhabited qcQ) (hs:=quT) qi1 qMG qmt
abbrev qxV:Type:=Int
def qCZ:PArgs:=⟨[.agg [.str,.view 1,.view 1]],[]⟩
def qDK:List PRes:=[⟨false,.int .i64,[]⟩]
def qji (x0:List UInt8) (x1 x2:List AV):DT qxV:=
 .bi (qjX x0) (fun y0=>
 .br (!y0)
 (.at (4))
 (.bi (pj 0 (qkm (0,x0,x1,x2))) (fun y1=>
 .at (1))
 (.bi (pj 1 (qkm (0,x0,x1,x2))) (fun y1=>
 .bi (br (decide ((y1.2.2.1.length:Int) > 6)) (some true) (br (sm (qgq y1.2.2.1)) (some !gv (qgq y1.2.2.1)) none)) (fun y2=>
 .br (y2)
 (.at (1))
 (.br (decide ((y1.2.2.2.length:Int) > 400))
 (.at (5))
 (.bi (pj 0 (qkn (0,y1.2.1,y1.2.2.1,y1.2.2.2))) (fun y3=>
 .at (1))
 (.bi (pj 1 (qkn (0,y1.2.1,y1.2.2.1,y1.2.2.2))) (fun y3=>
 .bi (qgq y3.2.2.2) (fun y4=>
 .br (!y4) (.at (10)) (.at (0)))
 (.no))
 (.no)))))
 (.no))
 (.no))))
 (.no)
def qjV (x0:List UInt8) (x1 x2:List AV):Option qxV:=qaK (qji x0 x1 x2).ev
theorem qwG (x0 x1 x2):qjV x0 x1 x2 = (qji x0 x1 x2).ev:=qaa _
theorem qM5:FH IP 39 qCZ qDK (k3 qjV):=qaj (F:=F39) (L:=[(1003900,qvm),(1003901,qvn)]) (t:=(k3 qji)) qMG (qaf (l:=[qai F39 0,qai F39 1]) (by kernel_rfl) ⟨qaG (by kernel_rfl) qOC,qaG (by kernel_rfl) qOD,trivial⟩) (by kernel_rfl) (fun v=>by kernel_rfl) (fun _=>qaa _)
def T7:Tab:=(39,FE qCZ qDK (k3 qjV)) :: T6
theorem qQy:qap IP T7:=⟨qas qM5,qMG⟩
abbrev qxX:Type:=Int
def qC1:PArgs:=⟨[.agg [.int .i64,.int .i64,.int .i64,.int .i64,.int .i64,.int .i64,.int .i64,.int .i64,.int .i64,.int .i64,.str,.str],.agg [.str,.view 1,.view 1]],[]⟩
def qDM:List PRes:=[⟨false,.int .i64,[]⟩]
def qjk (x0 x1:Int) (x2 x3:Int) (x4 x5:Int) (x6 x7:Int) (x8 x9:Int) (x10 x11 x12:List UInt8) (x13 x14:List AV):DT qxX:=
 .bi (br (decide (x0 < 1)) (some true) (some (decide (x0 > 4)))) (fun y0=>
 .bi (br y0 (some true) (some (decide (x1 < 1)))) (fun y1=>
 .bi (br y1 (some true) (some (decide (x1 > 1000000000000)))) (fun y2=>
 .bi (br y2 (some true) (br (sm (qdO x2)) (some !gv (qdO x2)) none)) (fun y3=>
 .bi (br y3 (some true) (br (sm (qdO x8)) (some !gv (qdO x8)) none)) (fun y4=>
 .bi (br y4 (some true) (br (sm (qdO x9)) (some !gv (qdO x9)) none)) (fun y5=>
 .bi (br y5 (some true) (br (sm (qfb x3)) (some !gv (qfb x3)) none)) (fun y6=>
 .bi (br y6 (some true) (some (decide (x4 < 1)))) (fun y7=>
 .bi (br y7 (some true) (some (decide (x4 > 12)))) (fun y8=>
 .bi (br y8 (some true) (some (decide (x5 < 1)))) (fun y9=>
 .bi (br y9 (some true) (some (decide (x5 > 120)))) (fun y10=>
 .br (y10)
 (.at (1))
 (.bi (br (decide (x6 < 0)) (some true) (some (decide (x6 >= x1)))) (fun y11=>
 .bi (br y11 (some true) (br (x0 != 4) (some (x6 != 0)) (some false))) (fun y12=>
 .bi (br y12 (some true) (br (sm (qhL x7)) (some !gv (qhL x7)) none)) (fun y13=>
 .br (y13)
 (.at (1))
 (.bi (qjW x11) (fun y14=>
 .br (!y14)
 (.at (14))
 (.bi (qjV x12 x13 x14) (fun y15=>
 .br (y15 != 0)
 (.at (y15))
 (.br (!x10 == x12) (.at (11)) (.at (0))))
 (.no)))
 (.no)))
 (.no))
 (.no))
 (.no)))
 (.no))
 (.no))
 (.no))
 (.no))
 (.no))
 (.no))
 (.no))
 (.no))
 (.no))
 (.no))
 (.no)
def qhM (x0 x1:Int) (x2 x3:Int) (x4 x5:Int) (x6 x7:Int) (x8 x9:Int) (x10 x11 x12:List UInt8) (x13 x14:List AV):Option qxX:=qaK (qjk x0 x1 x2 x3 x4 x5 x6 x7 x8 x9 x10 x11 x12 x13 x14).ev
theorem qwI (x0 x1 x2 x3 x4 x5 x6 x7 x8 x9 x10 x11 x12 x13 x14):qhM x0 x1 x2 x3 x4 x5 x6 x7 x8 x9 x10 x11 x12 x13 x14 = (qjk x0 x1 x2 x3 x4 x5 x6 x7 x8 x9 x10 x11 x12 x13 x14).ev:=qaa _
theorem qM7:FH IP 13 qC1 qDM (k15 qhM):=fh F13 (k15 qjk) qQy
def T8:Tab:=(13,FE qC1 qDM (k15 qhM)) :: T7
theorem qQz:qap IP T8:=⟨qas qM7,qQy⟩
abbrev qH3:Type:=Bool
def qKN:PArgs:=⟨[.agg [.int .i64,.int .i64,.int .i64,.int .i64,.int .i64,.int .i64,.int .i64,.int .i64,.int .i64,.int .i64,.str,.str],.agg [.str,.view 1,.view 1]],[]⟩
def qLQ:List PRes:=[⟨false,.bool,[]⟩]
def qoI (x0 x1:Int) (x2 x3:Int) (x4 x5:Int) (x6 x7:Int) (x8 x9:Int) (x10 x11 x12:List UInt8) (x13 x14:List AV):DT qH3:=
 .bi (br (decide (x5 <= 40)) (some (decide ((x14.length:Int) <= 40))) (some false)) (fun y0=>
 .bi (br y0 (some (decide ((x13.length:Int) <= 10))) (some false)) (fun y1=>
 .bi (br y1 (br (sm (qhM x0 x1 x2 x3 x4 x5 x6 x7 x8 x9 x10 x11 x12 x13 x14)) (some (gv (qhM x0 x1 x2 x3 x4 x5 x6 x7 x8 x9 x10 x11 x12 x13 x14) == 0)) none) (some false)) (fun y2=>
 .at (y2))
 (.no))
 (.no))
 (.no)
def qpQ (x0 x1:Int) (x2 x3:Int) (x4 x5:Int) (x6 x7:Int) (x8 x9:Int) (x10 x11 x12:List UInt8) (x13 x14:List AV):Option qH3:=qaK (qoI x0 x1 x2 x3 x4 x5 x6 x7 x8 x9 x10 x11 x12 x13 x14).ev
theorem qAp (x0 x1 x2 x3 x4 x5 x6 x7 x8 x9 x10 x11 x12 x13 x14):qpQ x0 x1 x2 x3 x4 x5 x6 x7 x8 x9 x10 x11 x12 x13 x14 = (qoI x0 x1 x2 x3 x4 x5 x6 x7 x8 x9 x10 x11 x12 x13 x14).ev:=qaa _
theorem qRe:FH IP 4 qKN qLQ (k15 qpQ):=fh F4 (k15 qoI) qQz
def T9:Tab:=(4,FE qKN qLQ (k15 qpQ)) :: T8
theorem qQA:qap IP T9:=⟨qas qRe,qQz⟩
abbrev qIi:Type:=Bool
def qK2:PArgs:=⟨[.int .i64,.int .i64,.int .i64],[]⟩
def qL5:List PRes:=[⟨false,.bool,[]⟩]
def qoT (x0 x1 x2:Int):DT qIi:=
 .bi (br (decide (x0 >= x1)) (some (decide (x0 <= x2))) (some false)) (fun y0=>
 .at (y0))
 (.no)
def qcd (x0 x1 x2:Int):Option qIi:=qaK (qoT x0 x1 x2).ev
theorem qAA (x0 x1 x2):qcd x0 x1 x2 = (qoT x0 x1 x2).ev:=qaa _
theorem qRt:FH IP 118 qK2 qL5 (k3 qcd):=fh qVk (k3 qoT) qQA
def T10:Tab:=(118,FE qK2 qL5 (k3 qcd)) :: T9
theorem qIF:qap IP T10:=⟨qas qRt,qQA⟩
abbrev qxP:Type:=Bool
def qCU:PArgs:=⟨[.int .i64],[]⟩
def qDF:List PRes:=[⟨false,.bool,[]⟩]
def qhp (x0:Int):DT qxP:=
 .bi (br (decide (x0 >= 0)) (some (decide (x0 <= 73048))) (some false)) (fun y0=>
 .at (y0))
 (.no)
def qbj (x0:Int):Option qxP:=qaK (qhp x0).ev
theorem qlR (x0):qbj x0 = (qhp x0).ev:=qaa _
theorem qM0:FH IP 91 qCU qDF qbj:=fh F91 qhp qIF
def T11:Tab:=(91,FE qCU qDF qbj) :: T10
theorem qIG:qap IP T11:=⟨qas qM0,qIF⟩
abbrev qIo:Type:=Bool
def qK8:PArgs:=⟨[.int .i64],[]⟩
def qMb:List PRes:=[⟨false,.bool,[]⟩]
def qle (x0:Int):DT qIo:=
 .bi (br (decide (x0 >= 1)) (some (decide (x0 <= 6))) (some false)) (fun y0=>
 .at (y0))
 (.no)
def qd0 (x0:Int):Option qIo:=qaK (qle x0).ev
theorem qp3 (x0):qd0 x0 = (qle x0).ev:=qaa _
theorem qRz:FH IP 115 qK8 qMb qd0:=fh qVh qle qIG
def T12:Tab:=(115,FE qK8 qMb qd0) :: T11
theorem qyM:qap IP T12:=⟨qas qRz,qIG⟩
abbrev qer:Type:=List UInt8 × Int × Int
def qBr:List PSt:=[⟨[(1016000,.junk),(0,.str),(7,.int .i64),(8,.int .i64)],[],0,0⟩]
def qHo (x0:List UInt8) (x1 x2:Int):X × St:=(.ret,⟨[(0,.str x0),(2,.bool false)],[],0,0⟩)
def qHp (x0:List UInt8) (x1 x2:Int):X × St:=(.exit 0,⟨[(0,.str x0),(2,.junk)],[],0,0⟩)
def qUx:List (qer -> X × St):=[(k3 qHo),(k3 qHp)]
def qrM (x0:List UInt8) (x1 x2:Int):DT (Rd qer):=
 .br (decide (x2 < x1))
 (.br (inB x0.length x2)
 (.bi (br (decide (qcM x0 x2 >= 97)) (some (decide (qcM x0 x2 <= 122))) (some false)) (fun y0=>
 .bi (br (!y0) (br (x2 == 0) (some true) (br (qcM x0 x2 != 95) (br (decide (qcM x0 x2 < 48)) (some true) (some (decide (qcM x0 x2 > 57)))) (some false))) (some false)) (fun y1=>
 .br (y1) (.at (.done 0)) (.at (.next ((x0,x1,IntKind.i64.wrap (x2 + 1))))))
 (.no))
 (.no))
 (.no))
 (.at (.done 1))
def qof:qer -> DT (Rd qer):=(fun v=>qrM v.1 v.2.1 v.2.2)
def qqQ (v:qer):Option (Nat × qer):=qaK (qat (fun v=>(qof v).ev) v)
theorem qqR (v):qqQ v = qat (fun v=>(qof v).ev) v:=qaa _
def qBZ:qdC:=LE (τ:=qer) (hD qBr) (qqQ) qUx
theorem qTU:Go.Eng.Told IP (qai qPa 0).1 (qai qPa 0).2 (qBZ):=lp (inferInstance:Inhabited qer) (hs:=qBr) qof qyM qqR
abbrev qIw:Type:=Bool
def qLh:PArgs:=⟨[.str],[]⟩
def qMk:List PRes:=[⟨false,.bool,[]⟩]
def qo7 (x0:List UInt8):DT qIw:=
 .bi (pj 0 (qqQ (x0,(x0.length:Int),0))) (fun y0=>
 .at (false))
 (.bi (pj 1 (qqQ (x0,(x0.length:Int),0))) (fun y0=>
 .bi (br (decide ((y0.1.length:Int) >= 1)) (some (decide ((y0.1.length:Int) <= 16))) (some false)) (fun y1=>
 .at (y1))
 (.no))
 (.no))
def qp8 (x0:List UInt8):Option qIw:=qaK (qo7 x0).ev
theorem qAO (x0):qp8 x0 = (qo7 x0).ev:=qaa _
theorem qRI:FH IP 160 qLh qMk qp8:=qaj (F:=qPa) (L:=[(1016000,qBZ)]) (t:=qo7) qyM (qaf (l:=[qai qPa 0]) (by kernel_rfl) ⟨qaG (by kernel_rfl) qTU,trivial⟩) (by kernel_rfl) (fun v=>by kernel_rfl) (fun _=>qaa _)
def T13:Tab:=(160,FE qLh qMk qp8) :: T12
theorem qIH:qap IP T13:=⟨qas qRI,qyM⟩
abbrev qHY:Type:=Bool
def qKI:PArgs:=⟨[.int .i64,.ptr [.int .i64],.ptr [.int .i64]],[]⟩
def qLL:List PRes:=[⟨false,.bool,[]⟩]
def qoD (x0 x1 x2:Int):DT qHY:=
 .bi (br (decide (x0 < x1)) (some true) (some (decide (x0 > x2)))) (fun y0=>
 .at (y0))
 (.no)
def qpO (x0 x1 x2:Int):Option qHY:=qaK (qoD x0 x1 x2).ev
theorem qAk (x0 x1 x2):qpO x0 x1 x2 = (qoD x0 x1 x2).ev:=qaa _
theorem qRa:FH IP 197 qKI qLL (k3 qpO):=fh qVI (k3 qoD) qIH
def T14:Tab:=(197,FE qKI qLL (k3 qpO)) :: T13
theorem qyN:qap IP T14:=⟨qas qRa,qIH⟩
abbrev qek:Type:=List AV × Int × Int × Int × Int
def qBc:List PSt:=[⟨[(1022100,.junk),(0,.view 1),(1,.fn (.func 197) [.ptr [.int .i64],.ptr [.int .i64]]),(7,.int .i64),(8,.int .i64)],[],0,0⟩]
def qGX (x0:List AV) (x1 x2:Int) (x3 x4:Int):X × St:=(.ret,⟨[(4,.int .i64 x4)],[],0,0⟩)
def qGY (x0:List AV) (x1 x2:Int) (x3 x4:Int):X × St:=(.exit 0,⟨[(4,.junk)],[],0,0⟩)
def qUi:List (qek -> X × St):=[(k5 qGX),(k5 qGY)]
def qrD (x0:List AV) (x1 x2:Int) (x3 x4:Int):DT (Rd qek):=
 .br (decide (x4 < x3))
 (.br (qcO [.int .i64] x0 x4)
 (.bi (qpO (intOf (cellAt x0 x4 0)) x1 x2) (fun y0=>
 .br (y0) (.at (.done 0)) (.at (.next ((x0,x1,x2,x3,IntKind.i64.wrap (x4 + 1))))))
 (.no))
 (.no))
 (.at (.done 1))
def qn4:qek -> DT (Rd qek):=(fun v=>qrD v.1 v.2.1 v.2.2.1 v.2.2.2.1 v.2.2.2.2)
def qqt (v:qek):Option (Nat × qek):=qaK (qat (fun v=>(qn4 v).ev) v)
theorem qqu (v):qqt v = qat (fun v=>(qn4 v).ev) v:=qaa _
def qBK:qdC:=LE (τ:=qek) (hD qBc) (qqt) qUi
theorem qTF:Go.Eng.Told IP (qai qPc 0).1 (qai qPc 0).2 (qBK):=lp (inferInstance:Inhabited qek) (hs:=qBc) qn4 qyN qqu
abbrev qHK:Type:=Int
def qKv:PArgs:=⟨[.view 1,.fn (.func 197) [.ptr [.int .i64],.ptr [.int .i64]]],[]⟩
def qLy:List PRes:=[⟨false,.int .i64,[]⟩]
def qor (x0:List AV) (x1 x2:Int):DT qHK:=
 .bi (pj 0 (qqt (x0,x1,x2,(x0.length:Int),0))) (fun y0=>
 .at (y0.2.2.2.2))
 (.bi (pj 1 (qqt (x0,x1,x2,(x0.length:Int),0))) (fun y0=>
 .at (-1))
 (.no))
def qpI (x0:List AV) (x1 x2:Int):Option qHK:=qaK (qor x0 x1 x2).ev
theorem qz8 (x0 x1 x2):qpI x0 x1 x2 = (qor x0 x1 x2).ev:=qaa _
theorem qQZ:FH IP 221 qKv qLy (k3 qpI):=qaj (F:=qPc) (L:=[(1022100,qBK)]) (t:=(k3 qor)) qyN (qaf (l:=[qai qPc 0]) (by kernel_rfl) ⟨qaG (by kernel_rfl) qTF,trivial⟩) (by kernel_rfl) (fun v=>by kernel_rfl) (fun _=>qaa _)
def T15:Tab:=(221,FE qKv qLy (k3 qpI)) :: T14
theorem qII:qap IP T15:=⟨qas qQZ,qyN⟩
abbrev qHJ:Type:=Bool
def qKu:PArgs:=⟨[.view 1,.fn (.func 197) [.ptr [.int .i64],.ptr [.int .i64]]],[]⟩
def qLx:List PRes:=[⟨false,.bool,[]⟩]
def qoq (x0:List AV) (x1 x2:Int):DT qHJ:=
 .bi (qpI x0 x1 x2) (fun y0=>
 .at (decide (y0 >= 0)))
 (.no)
def quK (x0:List AV) (x1 x2:Int):Option qHJ:=qaK (qoq x0 x1 x2).ev
theorem qz7 (x0 x1 x2):quK x0 x1 x2 = (qoq x0 x1 x2).ev:=qaa _
theorem qQY:FH IP 196 qKu qLx (k3 quK):=fh qVH (k3 qoq) qII
def T16:Tab:=(196,FE qKu qLx (k3 quK)) :: T15
theorem qIJ:qap IP T16:=⟨qas qQY,qII⟩
abbrev qIf:Type:=Bool
def qKZ:PArgs:=⟨[.view 1,.int .i64,.int .i64],[]⟩
def qL2:List PRes:=[⟨false,.bool,[]⟩]
def qoS (x0:List AV) (x1 x2:Int):DT qIf:=
 .bi (quK x0 x1 x2) (fun y0=>
 .at (!y0))
 (.no)
def qj6 (x0:List AV) (x1 x2:Int):Option qIf:=qaK (qoS x0 x1 x2).ev
theorem qAz (x0 x1 x2):qj6 x0 x1 x2 = (qoS x0 x1 x2).ev:=qaa _
theorem qRq:FH IP 161 qKZ qL2 (k3 qj6):=fh qVy (k3 qoS) qIJ
def T17:Tab:=(161,FE qKZ qL2 (k3 qj6)) :: T16
theorem qyO:qap IP T17:=⟨qas qRq,qIJ⟩
abbrev qem:Type:=List AV × Int
def qBh:List PSt:=[⟨[(1016200,.junk),(0,.view 1),(3,.int .i64)],[],0,0⟩]
def qG5 (x0:List AV) (x1:Int):X × St:=(.ret,⟨[(2,.bool false)],[],0,0⟩)
def qG6 (x0:List AV) (x1:Int):X × St:=(.exit 0,⟨[(2,.junk)],[],0,0⟩)
def qUn:List (qem -> X × St):=[(k2 qG5),(k2 qG6)]
def qrG (x0:List AV) (x1:Int):DT (Rd qem):=
 .br (decide (x1 < (x0.length:Int)))
 (.br (qcO [.int .i64] x0 x1)
 (.br (qcO [.int .i64] x0 (IntKind.i64.wrap (x1 - 1)))
 (.br (decide (intOf (cellAt x0 x1 0) <= intOf (cellAt x0 (IntKind.i64.wrap (x1 - 1)) 0))) (.at (.done 0)) (.at (.next ((x0,IntKind.i64.wrap (x1 + 1))))))
 (.no))
 (.no))
 (.at (.done 1))
def qn8:qem -> DT (Rd qem):=(fun v=>qrG v.1 v.2)
def qmy (v:qem):Option (Nat × qem):=qaK (qat (fun v=>(qn8 v).ev) v)
theorem qkq (v):qmy v = qat (fun v=>(qn8 v).ev) v:=qaa _
def qBP:qdC:=LE (τ:=qem) (hD qBh) (qmy) qUn
theorem qTK:Go.Eng.Told IP (qai qPb 0).1 (qai qPb 0).2 (qBP):=lp (inferInstance:Inhabited qem) (hs:=qBh) qn8 qyO qkq
abbrev qHT:Type:=Bool
def qKD:PArgs:=⟨[.view 1],[]⟩
def qLG:List PRes:=[⟨false,.bool,[]⟩]
def qoA (x0:List AV):DT qHT:=
 .bi (pj 0 (qmy (x0,1))) (fun y0=>
 .at (false))
 (.bi (pj 1 (qmy (x0,1))) (fun y0=>
 .at (true))
 (.no))
def qj3 (x0:List AV):Option qHT:=qaK (qoA x0).ev
theorem qAh (x0):qj3 x0 = (qoA x0).ev:=qaa _
theorem qQ7:FH IP 162 qKD qLG qj3:=qaj (F:=qPb) (L:=[(1016200,qBP)]) (t:=qoA) qyO (qaf (l:=[qai qPb 0]) (by kernel_rfl) ⟨qaG (by kernel_rfl) qTK,trivial⟩) (by kernel_rfl) (fun v=>by kernel_rfl) (fun _=>qaa _)
def T18:Tab:=(162,FE qKD qLG qj3) :: T17
theorem qIK:qap IP T18:=⟨qas qQ7,qyO⟩
abbrev qIk:Type:=Int
def qK4:PArgs:=⟨[.agg [.str,.view 1,.view 1]],[]⟩
def qL7:List PRes:=[⟨false,.int .i64,[]⟩]
def qoV (x0:List UInt8) (x1 x2:List AV):DT qIk:=
 .bi (qp8 x0) (fun y0=>
 .br (!y0)
 (.at (4))
 (.bi (br (decide ((x1.length:Int) >= 7)) (some true) (br (sm (qj6 x1 0 6)) (some !gv (qj6 x1 0 6)) none)) (fun y1=>
 .bi (br y1 (some true) (br (sm (qj3 x1)) (some !gv (qj3 x1)) none)) (fun y2=>
 .br (y2)
 (.at (1))
 (.br (decide ((x2.length:Int) > 400))
 (.at (5))
 (.bi (qj6 x2 0 73048) (fun y3=>
 .br (!y3)
 (.at (1))
 (.bi (qj3 x2) (fun y4=>
 .br (!y4) (.at (10)) (.at (0)))
 (.no)))
 (.no))))
 (.no))
 (.no)))
 (.no)
def qp1 (x0:List UInt8) (x1 x2:List AV):Option qIk:=qaK (qoV x0 x1 x2).ev
theorem qAC (x0 x1 x2):qp1 x0 x1 x2 = (qoV x0 x1 x2).ev:=qaa _
theorem qRv:FH IP 120 qK4 qL7 (k3 qp1):=fh qVl (k3 qoV) qIK
def T19:Tab:=(120,FE qK4 qL7 (k3 qp1)) :: T18
theorem qIL:qap IP T19:=⟨qas qRv,qIK⟩
end
end Go.Proofs.H35
namespace Go.Proofs.H35
open Go Go.Eng
set_option maxRecDepth 100000
noncomputable section
abbrev qIq:Type:=Int
def qLb:PArgs:=⟨[.agg [.int .i64,.int .i64,.int .i64,.int .i64,.int .i64,.int .i64,.int .i64,.int .i64,.int .i64,.int .i64,.str,.str],.agg [.str,.view 1,.view 1]],[]⟩
def qMe:List PRes:=[⟨false,.int .i64,[]⟩]
def qo1 (x0 x1:Int) (x2 x3:Int) (x4 x5:Int) (x6 x7:Int) (x8 x9:Int) (x10 x11 x12:List UInt8) (x13 x14:List AV):DT qIq:=
 .bi (qcd x0 1 4) (fun y0=>
 .bi (br y0 (br (sm (qcd x1 1 1000000000000)) (some (gv (qcd x1 1 1000000000000))) none) (some false)) (fun y1=>
 .bi (br y1 (br (sm (qcd x2 0 1000000)) (some (gv (qcd x2 0 1000000))) none) (some false)) (fun y2=>
 .bi (br y2 (br (sm (qcd x8 0 1000000)) (some (gv (qcd x8 0 1000000))) none) (some false)) (fun y3=>
 .bi (br y3 (br (sm (qcd x9 0 1000000)) (some (gv (qcd x9 0 1000000))) none) (some false)) (fun y4=>
 .bi (br (!y4) (some true) (br (sm (qbj x3)) (some !gv (qbj x3)) none)) (fun y5=>
 .bi (br y5 (some true) (br (sm (qcd x4 1 12)) (some !gv (qcd x4 1 12)) none)) (fun y6=>
 .bi (br y6 (some true) (br (sm (qcd x5 1 120)) (some !gv (qcd x5 1 120)) none)) (fun y7=>
 .bi (br y7 (some true) (br (sm (qd0 x7)) (some !gv (qd0 x7)) none)) (fun y8=>
 .br (y8)
 (.at (1))
 (.bi (br (x0 == 4) (br (sm (qcd x6 0 (IntKind.i64.wrap (x1 - 1)))) (some !gv (qcd x6 0 (IntKind.i64.wrap (x1 - 1)))) none) (some false)) (fun y9=>
 .bi (br y9 (some true) (br (x0 != 4) (some (x6 != 0)) (some false))) (fun y10=>
 .br (y10)
 (.at (1))
 (.br (!qlv x11)
 (.at (14))
 (.bi (qp1 x12 x13 x14) (fun y11=>
 .br (y11 != 0)
 (.at (y11))
 (.br (!x10 == x12) (.at (11)) (.at (0))))
 (.no))))
 (.no))
 (.no)))
 (.no))
 (.no))
 (.no))
 (.no))
 (.no))
 (.no))
 (.no))
 (.no))
 (.no)
def qp6 (x0 x1:Int) (x2 x3:Int) (x4 x5:Int) (x6 x7:Int) (x8 x9:Int) (x10 x11 x12:List UInt8) (x13 x14:List AV):Option qIq:=qaK (qo1 x0 x1 x2 x3 x4 x5 x6 x7 x8 x9 x10 x11 x12 x13 x14).ev
theorem qAI (x0 x1 x2 x3 x4 x5 x6 x7 x8 x9 x10 x11 x12 x13 x14):qp6 x0 x1 x2 x3 x4 x5 x6 x7 x8 x9 x10 x11 x12 x13 x14 = (qo1 x0 x1 x2 x3 x4 x5 x6 x7 x8 x9 x10 x11 x12 x13 x14).ev:=qaa _
theorem qRC:FH IP 79 qLb qMe (k15 qp6):=fh F79 (k15 qo1) qIL
def T20:Tab:=(79,FE qLb qMe (k15 qp6)) :: T19
theorem qIM:qap IP T20:=⟨qas qRC,qIL⟩
abbrev qxQ:Type:=Int
def qCV:PArgs:=⟨[.int .i64],[]⟩
def qDG:List PRes:=[⟨false,.int .i64,[]⟩]
def qje (x0:Int):DT qxQ:=
 .br (decide (x0 > 2100))
 (.at (IntKind.i64.wrap (IntKind.i64.wrap (365 * IntKind.i64.wrap (x0 - 2000)) + IntKind.i64.wrap (IntKind.i64.wrap ((IntKind.i64.wrap (IntKind.i64.wrap (x0 - 2000) + 3)).tdiv 4) - 1))))
 (.at (IntKind.i64.wrap (IntKind.i64.wrap (365 * IntKind.i64.wrap (x0 - 2000)) + IntKind.i64.wrap ((IntKind.i64.wrap (IntKind.i64.wrap (x0 - 2000) + 3)).tdiv 4))))
def qgp (x0:Int):Option qxQ:=qaK (qje x0).ev
theorem qwC (x0):qgp x0 = (qje x0).ev:=qaa _
theorem qM1:FH IP 121 qCV qDG qgp:=fh qVm qje qIM
def T21:Tab:=(121,FE qCV qDG qgp) :: T20
theorem qyP:qap IP T21:=⟨qas qM1,qIM⟩
abbrev qeu:Type:=Int × Int
def qBw:List PSt:=[⟨[(1008000,.junk),(0,.int .i64),(5,.int .i64)],[],0,0⟩]
def qHB (x0 x1:Int):X × St:=(.exit 0,⟨[(0,.int .i64 x0),(5,.int .i64 x1)],[],0,0⟩)
def qUC:List (qeu -> X × St):=[(k2 qHB)]
def qfy (x0 x1:Int):DT (Rd qeu):=
 .bi (qgp (IntKind.i64.wrap (x1 + 1))) (fun y0=>
 .br (decide (y0 <= x0)) (.at (.next ((x0,IntKind.i64.wrap (x1 + 1))))) (.at (.done 0)))
 (.no)
def qoh:qeu -> DT (Rd qeu):=(fun v=>qfy v.1 v.2)
def qBC (v:qeu):Option (Nat × qeu):=qaK (qat (fun v=>(qoh v).ev) v)
theorem qqX (v):qBC v = qat (fun v=>(qoh v).ev) v:=qaa _
def qB4:qdC:=LE (τ:=qeu) (hD qBw) (qBC) qUC
theorem qTZ:Go.Eng.Told IP (qai F80 0).1 (qai F80 0).2 (qB4):=lp (inferInstance:Inhabited qeu) (hs:=qBw) qoh qyP qqX
abbrev qxY:Type:=Bool
def qC2:PArgs:=⟨[.int .i64],[]⟩
def qDN:List PRes:=[⟨false,.bool,[]⟩]
def qjl (x0:Int):DT qxY:=
 .bi (br (x0.tmod 4 == 0) (br (x0.tmod 100 != 0) (some true) (some (x0.tmod 400 == 0))) (some false)) (fun y0=>
 .at (y0))
 (.no)
def qhN (x0:Int):Option qxY:=qaK (qjl x0).ev
theorem qwJ (x0):qhN x0 = (qjl x0).ev:=qaa _
theorem qM8:FH IP 163 qC2 qDN qhN:=fh qVz qjl qyP
def T22:Tab:=(163,FE qC2 qDN qhN) :: T21
theorem qIN:qap IP T22:=⟨qas qM8,qyP⟩
abbrev qxK:Type:=Int
def qCN:PArgs:=⟨[.int .i64,.int .i64],[]⟩
def qDy:List PRes:=[⟨false,.int .i64,[]⟩]
def qi8 (x0 x1:Int):DT qxK:=
 .bi (br (x1 == 2) (br (sm (qhN x0)) (some (gv (qhN x0))) none) (some false)) (fun y0=>
 .br (y0)
 (.at (29))
 (.br (decide (x1 = Int.ofNat 0))
 (.at (0))
 (.br (decide (x1 = Int.ofNat 1))
 (.at (31))
 (.br (decide (x1 = Int.ofNat 2))
 (.at (28))
 (.br (decide (x1 = Int.ofNat 3))
 (.at (31))
 (.br (decide (x1 = Int.ofNat 4))
 (.at (30))
 (.br (decide (x1 = Int.ofNat 5))
 (.at (31))
 (.br (decide (x1 = Int.ofNat 6))
 (.at (30))
 (.br (decide (x1 = Int.ofNat 7))
 (.at (31))
 (.br (decide (x1 = Int.ofNat 8))
 (.at (31))
 (.br (decide (x1 = Int.ofNat 9))
 (.at (30))
 (.br (decide (x1 = Int.ofNat 10))
 (.at (31))
 (.br (decide (x1 = Int.ofNat 11))
 (.at (30))
 (.br (decide (x1 = Int.ofNat 12)) (.at (31)) (.no)))))))))))))))
 (.no)
def qc3 (x0 x1:Int):Option qxK:=qaK (qi8 x0 x1).ev
theorem qww (x0 x1):qc3 x0 x1 = (qi8 x0 x1).ev:=qaa _
theorem qMT:FH IP 122 qCN qDy (k2 qc3):=fh qVn (k2 qi8) qIN
def T23:Tab:=(122,FE qCN qDy (k2 qc3)) :: T22
theorem qyQ:qap IP T23:=⟨qas qMT,qIN⟩
abbrev qev:Type:=Int × Int × Int
def qBx:List PSt:=[⟨[(1008001,.junk),(0,.int .i64),(5,.int .i64),(6,.int .i64)],[],0,0⟩]
def qHC (x0 x1 x2:Int):X × St:=(.exit 2,⟨[(0,.int .i64 x0),(5,.int .i64 x1),(6,.int .i64 x2)],[],0,0⟩)
def qUD:List (qev -> X × St):=[(k3 qHC)]
def qfz (x0 x1 x2:Int):DT (Rd qev):=
 .bi (qc3 x1 x2) (fun y0=>
 .br (decide (x0 >= y0))
 (.bi (qc3 x1 x2) (fun y1=>
 .at (.next ((IntKind.i64.wrap (x0 - y1),x1,IntKind.i64.wrap (x2 + 1)))))
 (.no))
 (.at (.done 0)))
 (.no)
def qoi:qev -> DT (Rd qev):=(fun v=>qfz v.1 v.2.1 v.2.2)
def qBD (v:qev):Option (Nat × qev):=qaK (qat (fun v=>(qoi v).ev) v)
theorem qqY (v):qBD v = qat (fun v=>(qoi v).ev) v:=qaa _
def qB5:qdC:=LE (τ:=qev) (hD qBx) (qBD) qUD
theorem qT0:Go.Eng.Told IP (qai F80 1).1 (qai F80 1).2 (qB5):=lp (inferInstance:Inhabited qev) (hs:=qBx) qoi qyQ qqY
abbrev qxO:Type:=Int × Int × Int
def qCT:PArgs:=⟨[.int .i64],[]⟩
def qDE:List PRes:=[⟨false,.tup [.int .i64,.int .i64,.int .i64],[]⟩]
def qjd (x0:Int):DT qxO:=
 .bi (qbj x0) (fun y0=>
 .br (!y0)
 (.at ((0,0,0)))
 (.bi (pj 0 (qBC (x0,IntKind.i64.wrap (2000 + IntKind.i64.wrap (x0.tdiv 366))))) (fun y1=>
 .bi (qgp y1.2) (fun y2=>
 .bi (pj 0 (qBD (IntKind.i64.wrap (y1.1 - y2),y1.2,1))) (fun y3=>
 .at ((y3.2.1,y3.2.2,IntKind.i64.wrap (y3.1 + 1))))
 (.no))
 (.no))
 (.no)))
 (.no)
def qgn (x0:Int):Option qxO:=qaK (qjd x0).ev
theorem qwB (x0):qgn x0 = (qjd x0).ev:=qaa _
theorem qMZ:FH IP 80 qCT qDE qgn:=qaj (F:=F80) (L:=[(1008000,qB4),(1008001,qB5)]) (t:=qjd) qyQ (qaf (l:=[qai F80 0,qai F80 1]) (by kernel_rfl) ⟨qaG (by kernel_rfl) qTZ,qaG (by kernel_rfl) qT0,trivial⟩) (by kernel_rfl) (fun v=>by kernel_rfl) (fun _=>qaa _)
def T24:Tab:=(80,FE qCT qDE qgn) :: T23
theorem qum:qap IP T24:=⟨qas qMZ,qyQ⟩
abbrev qdK:Type:=Int × Int × Int × Int × Int × Int × Int × Int × Int × Int × Int × Int × List UInt8 × List UInt8 × List UInt8 × List AV × List AV
def qBs:List PSt:=[⟨[(1005000,.junk),(2,.ref 0 0 0),(3,.ref 1 0 0),(9,.int .i64),(10,.nils 1),(11,.int .i64)],[(0,.box [.int .i64,.int .i64,.int .i64,.int .i64,.int .i64,.int .i64,.int .i64,.int .i64,.int .i64,.int .i64,.str,.str] false),(1,.box [.str,.view 1,.view 1] false)],2,0⟩]
def qHq (x0 x1:Int) (x2 x3:Int) (x4 x5:Int) (x6 x7:Int) (x8 x9:Int) (x10 x11:Int) (x12 x13 x14:List UInt8) (x15 x16:List AV):X × St:=(.exit 1000001,
 ⟨[(2,.ref 0 0 0),(3,.ref 1 0 0),(9,.int .i64 x0),(10,.nils ⟨1,.nil⟩),(11,.int .i64 x1)],[(0,
 .box
 [.int .i64 x2,.int .i64 x3,.int .i64 x4,.int .i64 x5,.int .i64 x6,.int .i64 x7,.int .i64 x8,
 .int .i64 x9,.int .i64 x10,.int .i64 x11,.str x12,.str x13]
 false),
 (1,.box [.str x14,.view 1 x15,.view 1 x16] false)],2,0⟩)
def qUy:List (qdK -> X × St):=[(k17 qHq)]
def qEj (x0 x1:Int) (x2 x3:Int) (x4 x5:Int) (x6 x7:Int) (x8 x9:Int) (x10 x11:Int) (x12 x13 x14:List UInt8) (x15 x16:List AV):DT (Rd qdK):=
 .at (.done 0)
def qte:qdK -> DT (Rd qdK):=(fun v=>qEj v.1 v.2.1 v.2.2.1 v.2.2.2.1 v.2.2.2.2.1 v.2.2.2.2.2.1 v.2.2.2.2.2.2.1 v.2.2.2.2.2.2.2.1 v.2.2.2.2.2.2.2.2.1 v.2.2.2.2.2.2.2.2.2.1 v.2.2.2.2.2.2.2.2.2.2.1 v.2.2.2.2.2.2.2.2.2.2.2.1 v.2.2.2.2.2.2.2.2.2.2.2.2.1 v.2.2.2.2.2.2.2.2.2.2.2.2.2.1 v.2.2.2.2.2.2.2.2.2.2.2.2.2.2.1 v.2.2.2.2.2.2.2.2.2.2.2.2.2.2.2.1 v.2.2.2.2.2.2.2.2.2.2.2.2.2.2.2.2)
def qve (v:qdK):Option (Nat × qdK):=qaK (qat (fun v=>(qte v).ev) v)
theorem qqS (v):qve v = qat (fun v=>(qte v).ev) v:=qaa _
def qB0:qdC:=LE (τ:=qdK) (hD qBs) (qve) qUy
theorem qTV:Go.Eng.Told IP (qai F50 0).1 (qai F50 0).2 (qB0):=lp (inferInstance:Inhabited qdK) (hs:=qBs) qte qum qqS
abbrev qcV:Type:=Int × Int × Int × Int
def quY:List PSt:=[⟨[(1012300,.junk),(0,.int .i64),(1,.int .i64),(8,.int .i64),(9,.int .i64)],[],0,0⟩]
def qEZ (x0 x1:Int) (x2 x3:Int):X × St:=(.exit 0,⟨[(8,.int .i64 x2)],[],0,0⟩)
def qO0:List (qcV -> X × St):=[(k4 qEZ)]
def qed (x0 x1:Int) (x2 x3:Int):DT (Rd qcV):=
 .br (decide (x3 < x1))
 (.bi (qc3 x0 x3) (fun y0=>
 .at (.next ((x0,x1,IntKind.i64.wrap (x2 + y0),IntKind.i64.wrap (x3 + 1)))))
 (.no))
 (.at (.done 0))
def qi6:qcV -> DT (Rd qcV):=(fun v=>qed v.1 v.2.1 v.2.2.1 v.2.2.2)
def qsM (v:qcV):Option (Nat × qcV):=qaK (qat (fun v=>(qi6 v).ev) v)
theorem qmx (v):qsM v = qat (fun v=>(qi6 v).ev) v:=qaa _
def qvs:qdC:=LE (τ:=qcV) (hD quY) (qsM) qO0
theorem qOI:Go.Eng.Told IP (qai qO9 0).1 (qai qO9 0).2 (qvs):=lp (inferInstance:Inhabited qcV) (hs:=quY) qi6 qum qmx
abbrev qx9:Type:=Int × Int
def qC8:PArgs:=⟨[.int .i64,.int .i64,.int .i64],[]⟩
def qDT:List PRes:=[⟨false,.tup [.int .i64,.int .i64],[]⟩]
def qjr (x0 x1 x2:Int):DT qx9:=
 .bi (br (decide (x0 < 2000)) (some true) (some (decide (x0 > 2199)))) (fun y0=>
 .bi (br y0 (some true) (some (decide (x1 < 1)))) (fun y1=>
 .bi (br y1 (some true) (some (decide (x1 > 12)))) (fun y2=>
 .bi (br y2 (some true) (some (decide (x2 < 1)))) (fun y3=>
 .bi (br y3 (some true) (br (sm (qc3 x0 x1)) (some (decide (x2 > gv (qc3 x0 x1)))) none)) (fun y4=>
 .br (y4)
 (.at ((0,1)))
 (.bi (qgp x0) (fun y5=>
 .bi (pj 0 (qsM (x0,x1,IntKind.i64.wrap (IntKind.i64.wrap (y5 + x2) - 1),1))) (fun y6=>
 .at ((y6.2.2.1,0)))
 (.no))
 (.no)))
 (.no))
 (.no))
 (.no))
 (.no))
 (.no)
def qjY (x0 x1 x2:Int):Option qx9:=qaK (qjr x0 x1 x2).ev
theorem qwP (x0 x1 x2):qjY x0 x1 x2 = (qjr x0 x1 x2).ev:=qaa _
theorem qNe:FH IP 123 qC8 qDT (k3 qjY):=qaj (F:=qO9) (L:=[(1012300,qvs)]) (t:=(k3 qjr)) qum (qaf (l:=[qai qO9 0]) (by kernel_rfl) ⟨qaG (by kernel_rfl) qOI,trivial⟩) (by kernel_rfl) (fun v=>by kernel_rfl) (fun _=>qaa _)
def T25:Tab:=(123,FE qC8 qDT (k3 qjY)) :: T24
theorem qIO:qap IP T25:=⟨qas qNe,qum⟩
abbrev qIl:Type:=Int × Int
def qK5:PArgs:=⟨[.int .i64,.int .i64,.int .i64],[]⟩
def qL8:List PRes:=[⟨false,.tup [.int .i64,.int .i64],[]⟩]
def qoW (x0 x1 x2:Int):DT qIl:=
 .bi (qbj x0) (fun y0=>
 .bi (br (!y0) (some true) (some (decide (x1 < -2400)))) (fun y1=>
 .bi (br y1 (some true) (some (decide (x1 > 2400)))) (fun y2=>
 .bi (br y2 (some true) (some (decide (x2 < 1)))) (fun y3=>
 .bi (br y3 (some true) (some (decide (x2 > 31)))) (fun y4=>
 .br (y4)
 (.at ((0,1)))
 (.bi (qgn x0) (fun y5=>
 .bi (br (decide (IntKind.i64.wrap (IntKind.i64.wrap (IntKind.i64.wrap (IntKind.i64.wrap (12 * y5.1) + y5.2.1) - 1) + x1) < 24000)) (some true)
 (some (decide (IntKind.i64.wrap (IntKind.i64.wrap (IntKind.i64.wrap (IntKind.i64.wrap (12 * y5.1) + y5.2.1) - 1) + x1) >= 26400)))) (fun y6=>
 .br (y6)
 (.at ((0,1)))
 (.bi (qc3 (IntKind.i64.wrap ((IntKind.i64.wrap (IntKind.i64.wrap (IntKind.i64.wrap (IntKind.i64.wrap (12 * y5.1) + y5.2.1) - 1) + x1)).tdiv 12))
 (IntKind.i64.wrap ((IntKind.i64.wrap (IntKind.i64.wrap (IntKind.i64.wrap (IntKind.i64.wrap (12 * y5.1) + y5.2.1) - 1) + x1)).tmod 12 + 1))) (fun y7=>
 .bi (qjY (IntKind.i64.wrap ((IntKind.i64.wrap (IntKind.i64.wrap (IntKind.i64.wrap (IntKind.i64.wrap (12 * y5.1) + y5.2.1) - 1) + x1)).tdiv 12))
 (IntKind.i64.wrap ((IntKind.i64.wrap (IntKind.i64.wrap (IntKind.i64.wrap (IntKind.i64.wrap (12 * y5.1) + y5.2.1) - 1) + x1)).tmod 12 + 1)) (if y7 < x2 then y7 else x2)) (fun y8=>
 .at ((y8.1,y8.2)))
 (.no))
 (.no)))
 (.no))
 (.no)))
 (.no))
 (.no))
 (.no))
 (.no))
 (.no)
def qb3 (x0 x1 x2:Int):Option qIl:=qaK (qoW x0 x1 x2).ev
theorem qAD (x0 x1 x2):qb3 x0 x1 x2 = (qoW x0 x1 x2).ev:=qaa _
theorem qRw:FH IP 81 qK5 qL8 (k3 qb3):=fh F81 (k3 qoW) qIO
def T26:Tab:=(81,FE qK5 qL8 (k3 qb3)) :: T25
theorem qIP:qap IP T26:=⟨qas qRw,qIO⟩
abbrev qIC:Type:=Int
def qLn:PArgs:=⟨[.int .i64],[]⟩
def qMq:List PRes:=[⟨false,.int .i64,[]⟩]
def qpb (x0:Int):DT qIC:=
 .bi (qbj x0) (fun y0=>
 .br (!y0) (.at (-1)) (.at ((IntKind.i64.wrap (x0 + 5)).tmod 7)))
 (.no)
def qqd (x0:Int):Option qIC:=qaK (qpb x0).ev
theorem qAT (x0):qqd x0 = (qpb x0).ev:=qaa _
theorem qRO:FH IP 199 qLn qMq qqd:=fh qVK qpb qIP
def T27:Tab:=(199,FE qLn qMq qqd) :: T26
theorem qyR:qap IP T27:=⟨qas qRO,qIP⟩
abbrev qel:Type:=List AV × Int × Int × Int
def qBf:List PSt:=[⟨[(1022200,.junk),(0,.view 1),(1,.int .i64),(7,.int .i64),(8,.int .i64)],[],0,0⟩]
def qG1 (x0:List AV) (x1 x2 x3:Int):X × St:=(.ret,⟨[(4,.int .i64 x3)],[],0,0⟩)
def qG2 (x0:List AV) (x1 x2 x3:Int):X × St:=(.exit 0,⟨[(4,.junk)],[],0,0⟩)
def qUl:List (qel -> X × St):=[(k4 qG1),(k4 qG2)]
def qrE (x0:List AV) (x1 x2 x3:Int):DT (Rd qel):=
 .br (decide (x3 < x2))
 (.br (qcO [.int .i64] x0 x3)
 (.br (x1 == intOf (cellAt x0 x3 0)) (.at (.done 0)) (.at (.next ((x0,x1,x2,IntKind.i64.wrap (x3 + 1))))))
 (.no))
 (.at (.done 1))
def qn6:qel -> DT (Rd qel):=(fun v=>qrE v.1 v.2.1 v.2.2.1 v.2.2.2)
def qqz (v:qel):Option (Nat × qel):=qaK (qat (fun v=>(qn6 v).ev) v)
theorem qqA (v):qqz v = qat (fun v=>(qn6 v).ev) v:=qaa _
def qBN:qdC:=LE (τ:=qel) (hD qBf) (qqz) qUl
theorem qTI:Go.Eng.Told IP (qai qPd 0).1 (qai qPd 0).2 (qBN):=lp (inferInstance:Inhabited qel) (hs:=qBf) qn6 qyR qqA
abbrev qHQ:Type:=Int
def qKA:PArgs:=⟨[.view 1,.int .i64],[]⟩
def qLD:List PRes:=[⟨false,.int .i64,[]⟩]
def qox (x0:List AV) (x1:Int):DT qHQ:=
 .bi (pj 0 (qqz (x0,x1,(x0.length:Int),0))) (fun y0=>
 .at (y0.2.2.2))
 (.bi (pj 1 (qqz (x0,x1,(x0.length:Int),0))) (fun y0=>
 .at (-1))
 (.no))
def quM (x0:List AV) (x1:Int):Option qHQ:=qaK (qox x0 x1).ev
theorem qAe (x0 x1):quM x0 x1 = (qox x0 x1).ev:=qaa _
theorem qQ4:FH IP 222 qKA qLD (k2 quM):=qaj (F:=qPd) (L:=[(1022200,qBN)]) (t:=(k2 qox)) qyR (qaf (l:=[qai qPd 0]) (by kernel_rfl) ⟨qaG (by kernel_rfl) qTI,trivial⟩) (by kernel_rfl) (fun v=>by kernel_rfl) (fun _=>qaa _)
def T28:Tab:=(222,FE qKA qLD (k2 quM)) :: T27
theorem qIQ:qap IP T28:=⟨qas qQ4,qyR⟩
abbrev qHL:Type:=Bool
def qKw:PArgs:=⟨[.view 1,.int .i64],[]⟩
def qLz:List PRes:=[⟨false,.bool,[]⟩]
def qos (x0:List AV) (x1:Int):DT qHL:=
 .bi (quM x0 x1) (fun y0=>
 .at (decide (y0 >= 0)))
 (.no)
def ql2 (x0:List AV) (x1:Int):Option qHL:=qaK (qos x0 x1).ev
theorem qz9 (x0 x1):ql2 x0 x1 = (qos x0 x1).ev:=qaa _
theorem qQ0:FH IP 198 qKw qLz (k2 ql2):=fh qVJ (k2 qos) qIQ
def T29:Tab:=(198,FE qKw qLz (k2 ql2)) :: T28
theorem qIR:qap IP T29:=⟨qas qQ0,qIQ⟩
abbrev qIu:Type:=Bool
def qLf:PArgs:=⟨[.agg [.str,.view 1,.view 1],.int .i64],[]⟩
def qMi:List PRes:=[⟨false,.bool,[]⟩]
def qo5 (x0:List UInt8) (x1 x2:List AV) (x3:Int):DT qIu:=
 .bi (qbj x3) (fun y0=>
 .br (y0)
 (.bi (qqd x3) (fun y1=>
 .bi (ql2 x1 y1) (fun y2=>
 .br (!y2)
 (.bi (ql2 x2 x3) (fun y3=>
 .at (!y3))
 (.no))
 (.at (false)))
 (.no))
 (.no))
 (.at (false)))
 (.no)
def qmd (x0:List UInt8) (x1 x2:List AV) (x3:Int):Option qIu:=qaK (qo5 x0 x1 x2 x3).ev
theorem qAM (x0 x1 x2 x3):qmd x0 x1 x2 x3 = (qo5 x0 x1 x2 x3).ev:=qaa _
theorem qRG:FH IP 166 qLf qMi (k4 qmd):=fh qVB (k4 qo5) qIR
def T30:Tab:=(166,FE qLf qMi (k4 qmd)) :: T29
theorem qIS:qap IP T30:=⟨qas qRG,qIR⟩
abbrev qIc:Type:=Bool
def qKW:PArgs:=⟨[.int .i64,.ptr [.str,.view 1,.view 1]],[]⟩
def qLZ:List PRes:=[⟨false,.bool,[]⟩]
def qoP (x0:Int) (x1:List UInt8) (x2 x3:List AV):DT qIc:=
 .bi (qmd x1 x2 x3 x0) (fun y0=>
 .at (y0))
 (.no)
def qpV (x0:Int) (x1:List UInt8) (x2 x3:List AV):Option qIc:=qaK (qoP x0 x1 x2 x3).ev
theorem qAw (x0 x1 x2 x3):qpV x0 x1 x2 x3 = (qoP x0 x1 x2 x3).ev:=qaa _
theorem qRn:FH IP 165 qKW qLZ (k4 qpV):=fh qVA (k4 qoP) qIS
def T31:Tab:=(165,FE qKW qLZ (k4 qpV)) :: T30
theorem qyS:qap IP T31:=⟨qas qRn,qIS⟩
abbrev qdI:Type:=Int × Int × List UInt8 × List AV × List AV
def qBl:List PSt:=[⟨[(1016400,.junk),(0,.int .i64),(1,.int .i64),(2,.fn (.func 165) [.ptr [.str,.view 1,.view 1]])],[],0,0⟩]
def qHb (x0 x1:Int) (x2:List UInt8) (x3 x4:List AV):X × St:=(.ret,⟨[(6,.int .i64 x0),(7,.int .i64 0)],[],0,0⟩)
def qHc (x0 x1:Int) (x2:List UInt8) (x3 x4:List AV):X × St:=(.exit 0,⟨[(6,.junk),(7,.junk)],[],0,0⟩)
def qUr:List (qdI -> X × St):=[(k5 qHb),(k5 qHc)]
def qrJ (x0 x1:Int) (x2:List UInt8) (x3 x4:List AV):DT (Rd qdI):=
 .bi (qbj x0) (fun y0=>
 .br (y0)
 (.bi (qpV x0 x2 x3 x4) (fun y1=>
 .br (y1) (.at (.done 0)) (.at (.next ((IntKind.i64.wrap (x0 + x1),x1,x2,x3,x4)))))
 (.no))
 (.at (.done 1)))
 (.no)
def qob:qdI -> DT (Rd qdI):=(fun v=>qrJ v.1 v.2.1 v.2.2.1 v.2.2.2.1 v.2.2.2.2)
def qqH (v:qdI):Option (Nat × qdI):=qaK (qat (fun v=>(qob v).ev) v)
theorem qqI (v):qqH v = qat (fun v=>(qob v).ev) v:=qaa _
def qBT:qdC:=LE (τ:=qdI) (hD qBl) (qqH) qUr
theorem qTO:Go.Eng.Told IP (qai qE1 0).1 (qai qE1 0).2 (qBT):=lp (inferInstance:Inhabited qdI) (hs:=qBl) qob qyS qqI
abbrev qIe:Type:=Int × Int
def qKY:PArgs:=⟨[.int .i64,.int .i64,.fn (.func 165) [.ptr [.str,.view 1,.view 1]]],[]⟩
def qL1:List PRes:=[⟨false,.tup [.int .i64,.int .i64],[]⟩]
def qoR (x0 x1:Int) (x2:List UInt8) (x3 x4:List AV):DT qIe:=
 .bi (qbj x0) (fun y0=>
 .br (!y0)
 (.at ((0,1)))
 (.bi (pj 0 (qqH (x0,x1,x2,x3,x4))) (fun y1=>
 .at ((y1.1,0)))
 (.bi (pj 1 (qqH (x0,x1,x2,x3,x4))) (fun y1=>
 .at ((0,11)))
 (.no))))
 (.no)
def qpX (x0 x1:Int) (x2:List UInt8) (x3 x4:List AV):Option qIe:=qaK (qoR x0 x1 x2 x3 x4).ev
theorem qAy (x0 x1 x2 x3 x4):qpX x0 x1 x2 x3 x4 = (qoR x0 x1 x2 x3 x4).ev:=qaa _
theorem qRp:FH IP 164 qKY qL1 (k5 qpX):=qaj (F:=qE1) (L:=[(1016400,qBT)]) (t:=(k5 qoR)) qyS (qaf (l:=[qai qE1 0]) (by kernel_rfl) ⟨qaG (by kernel_rfl) qTO,trivial⟩) (by kernel_rfl) (fun v=>by kernel_rfl) (fun _=>qaa _)
def T32:Tab:=(164,FE qKY qL1 (k5 qpX)) :: T31
theorem qIT:qap IP T32:=⟨qas qRp,qyS⟩
abbrev qIt:Type:=Int × Int
def qLe:PArgs:=⟨[.agg [.str,.view 1,.view 1],.int .i64],[]⟩
def qMh:List PRes:=[⟨false,.tup [.int .i64,.int .i64],[]⟩]
def qo4 (x0:List UInt8) (x1 x2:List AV) (x3:Int):DT qIt:=
 .bi (qpX x3 1 x0 x1 x2) (fun y0=>
 .at ((y0.1,y0.2)))
 (.no)
def qmc (x0:List UInt8) (x1 x2:List AV) (x3:Int):Option qIt:=qaK (qo4 x0 x1 x2 x3).ev
theorem qAL (x0 x1 x2 x3):qmc x0 x1 x2 x3 = (qo4 x0 x1 x2 x3).ev:=qaa _
theorem qRF:FH IP 124 qLe qMh (k4 qmc):=fh qVo (k4 qo4) qIT
def T33:Tab:=(124,FE qLe qMh (k4 qmc)) :: T32
theorem qIU:qap IP T33:=⟨qas qRF,qIT⟩
abbrev qId:Type:=Bool
def qKX:PArgs:=⟨[.int .i64,.ptr [.str,.view 1,.view 1]],[]⟩
def qL0:List PRes:=[⟨false,.bool,[]⟩]
def qoQ (x0:Int) (x1:List UInt8) (x2 x3:List AV):DT qId:=
 .bi (qmd x1 x2 x3 x0) (fun y0=>
 .at (y0))
 (.no)
def qpW (x0:Int) (x1:List UInt8) (x2 x3:List AV):Option qId:=qaK (qoQ x0 x1 x2 x3).ev
theorem qAx (x0 x1 x2 x3):qpW x0 x1 x2 x3 = (qoQ x0 x1 x2 x3).ev:=qaa _
theorem qRo:FH IP 167 qKX qL0 (k4 qpW):=fh qVC (k4 qoQ) qIU
def T34:Tab:=(167,FE qKX qL0 (k4 qpW)) :: T33
theorem qyT:qap IP T34:=⟨qas qRo,qIU⟩
abbrev qdG:Type:=Int × Int × List UInt8 × List AV × List AV
def qBi:List PSt:=[⟨[(1016400,.junk),(0,.int .i64),(1,.int .i64),(2,.fn (.func 167) [.ptr [.str,.view 1,.view 1]])],[],0,0⟩]
def qG7 (x0 x1:Int) (x2:List UInt8) (x3 x4:List AV):X × St:=(.ret,⟨[(6,.int .i64 x0),(7,.int .i64 0)],[],0,0⟩)
def qG8 (x0 x1:Int) (x2:List UInt8) (x3 x4:List AV):X × St:=(.exit 0,⟨[(6,.junk),(7,.junk)],[],0,0⟩)
def qUo:List (qdG -> X × St):=[(k5 qG7),(k5 qG8)]
def qrH (x0 x1:Int) (x2:List UInt8) (x3 x4:List AV):DT (Rd qdG):=
 .bi (qbj x0) (fun y0=>
 .br (y0)
 (.bi (qpW x0 x2 x3 x4) (fun y1=>
 .br (y1) (.at (.done 0)) (.at (.next ((IntKind.i64.wrap (x0 + x1),x1,x2,x3,x4)))))
 (.no))
 (.at (.done 1)))
 (.no)
def qn9:qdG -> DT (Rd qdG):=(fun v=>qrH v.1 v.2.1 v.2.2.1 v.2.2.2.1 v.2.2.2.2)
def qqD (v:qdG):Option (Nat × qdG):=qaK (qat (fun v=>(qn9 v).ev) v)
theorem qqE (v):qqD v = qat (fun v=>(qn9 v).ev) v:=qaa _
def qBQ:qdC:=LE (τ:=qdG) (hD qBi) (qqD) qUo
theorem qTL:Go.Eng.Told IP (qai qE1 0).1 (qai qE1 0).2 (qBQ):=lp (inferInstance:Inhabited qdG) (hs:=qBi) qn9 qyT qqE
abbrev qH2:Type:=Int × Int
def qKM:PArgs:=⟨[.int .i64,.int .i64,.fn (.func 167) [.ptr [.str,.view 1,.view 1]]],[]⟩
def qLP:List PRes:=[⟨false,.tup [.int .i64,.int .i64],[]⟩]
def qoH (x0 x1:Int) (x2:List UInt8) (x3 x4:List AV):DT qH2:=
 .bi (qbj x0) (fun y0=>
 .br (!y0)
 (.at ((0,1)))
 (.bi (pj 0 (qqD (x0,x1,x2,x3,x4))) (fun y1=>
 .at ((y1.1,0)))
 (.bi (pj 1 (qqD (x0,x1,x2,x3,x4))) (fun y1=>
 .at ((0,11)))
 (.no))))
 (.no)
def qpP (x0 x1:Int) (x2:List UInt8) (x3 x4:List AV):Option qH2:=qaK (qoH x0 x1 x2 x3 x4).ev
theorem qAo (x0 x1 x2 x3 x4):qpP x0 x1 x2 x3 x4 = (qoH x0 x1 x2 x3 x4).ev:=qaa _
theorem qRd:FH IP 164 qKM qLP (k5 qpP):=qaj (F:=qE1) (L:=[(1016400,qBQ)]) (t:=(k5 qoH)) qyT (qaf (l:=[qai qE1 0]) (by kernel_rfl) ⟨qaG (by kernel_rfl) qTL,trivial⟩) (by kernel_rfl) (fun v=>by kernel_rfl) (fun _=>qaa _)
def T35:Tab:=(164,FE qKM qLP (k5 qpP)) :: T34
theorem qIV:qap IP T35:=⟨qas qRd,qyT⟩
abbrev qIv:Type:=Int × Int
def qLg:PArgs:=⟨[.agg [.str,.view 1,.view 1],.int .i64],[]⟩
def qMj:List PRes:=[⟨false,.tup [.int .i64,.int .i64],[]⟩]
def qo6 (x0:List UInt8) (x1 x2:List AV) (x3:Int):DT qIv:=
 .bi (qpP x3 (-1) x0 x1 x2) (fun y0=>
 .at ((y0.1,y0.2)))
 (.no)
def qme (x0:List UInt8) (x1 x2:List AV) (x3:Int):Option qIv:=qaK (qo6 x0 x1 x2 x3).ev
theorem qAN (x0 x1 x2 x3):qme x0 x1 x2 x3 = (qo6 x0 x1 x2 x3).ev:=qaa _
theorem qRH:FH IP 125 qLg qMj (k4 qme):=fh qVp (k4 qo6) qIV
def T36:Tab:=(125,FE qLg qMj (k4 qme)) :: T35
theorem qIW:qap IP T36:=⟨qas qRH,qIV⟩
abbrev qIx:Type:=Int
def qLi:PArgs:=⟨[.int .i64],[]⟩
def qMl:List PRes:=[⟨false,.int .i64,[]⟩]
def qo8 (x0:Int):DT qIx:=
 .bi (qbj x0) (fun y0=>
 .br (!y0)
 (.at (-1))
 (.bi (qgn x0) (fun y1=>
 .bi (qc3 y1.1 y1.2.1) (fun y2=>
 .at (IntKind.i64.wrap (IntKind.i64.wrap (x0 - y1.2.2) + y2)))
 (.no))
 (.no)))
 (.no)
def qmf (x0:Int):Option qIx:=qaK (qo8 x0).ev
theorem qAP (x0):qmf x0 = (qo8 x0).ev:=qaa _
theorem qRJ:FH IP 126 qLi qMl qmf:=fh qVq qo8 qIW
def T37:Tab:=(126,FE qLi qMl qmf) :: T36
theorem qIX:qap IP T37:=⟨qas qRJ,qIW⟩
abbrev qIb:Type:=Int × Int
def qKV:PArgs:=⟨[.agg [.str,.view 1,.view 1],.int .i64,.int .i64],[]⟩
def qLY:List PRes:=[⟨false,.tup [.int .i64,.int .i64],[]⟩]
def qoO (x0:List UInt8) (x1 x2:List AV) (x3 x4:Int):DT qIb:=
 .bi (qbj x3) (fun y0=>
 .br (!y0)
 (.at ((0,1)))
 (.br (x4 == 0)
 (.at ((x3,0)))
 (.br (x4 == 1)
 (.bi (qmc x0 x1 x2 x3) (fun y1=>
 .at ((y1.1,y1.2)))
 (.no))
 (.br (x4 == 3)
 (.bi (qme x0 x1 x2 x3) (fun y1=>
 .at ((y1.1,y1.2)))
 (.no))
 (.br (x4 == 2)
 (.bi (qmc x0 x1 x2 x3) (fun y1=>
 .bi (br (y1.2 == 0) (br (sm (qmf x3)) (some (decide (y1.1 <= gv (qmf x3)))) none) (some false)) (fun y2=>
 .br (y2)
 (.at ((y1.1,0)))
 (.bi (qme x0 x1 x2 x3) (fun y3=>
 .at ((y3.1,y3.2)))
 (.no)))
 (.no))
 (.no))
 (.at ((0,1))))))))
 (.no)
def qc5 (x0:List UInt8) (x1 x2:List AV) (x3 x4:Int):Option qIb:=qaK (qoO x0 x1 x2 x3 x4).ev
theorem qAv (x0 x1 x2 x3 x4):qc5 x0 x1 x2 x3 x4 = (qoO x0 x1 x2 x3 x4).ev:=qaa _
theorem qRm:FH IP 82 qKV qLY (k5 qc5):=fh F82 (k5 qoO) qIX
def T38:Tab:=(82,FE qKV qLY (k5 qc5)) :: T37
theorem qyU:qap IP T38:=⟨qas qRm,qIX⟩
abbrev qcm:Type:=(Int × Int × Int × Int × Int × Int × Int × Int × Int × Int × Int × Int × Int × Int × List UInt8 × List UInt8 × List UInt8 × List AV × List AV) ⊕ (Int × Int × Int × Int × Int × Int × Int × Int × Int × Int × Int × Int × Int × Int × List UInt8 × List UInt8 × List UInt8 × List AV × List AV × List AV)
def qBt:List PSt:=[⟨[(1005001,.junk),(2,.ref 0 0 0),(3,.ref 1 0 0),(9,.int .i64),(10,.nils 1),(11,.int .i64),(29,.int .i64),(30,.int .i64)],[(0,.box [.int .i64,.int .i64,.int .i64,.int .i64,.int .i64,.int .i64,.int .i64,.int .i64,.int .i64,.int .i64,.str,.str] false),(1,.box [.str,.view 1,.view 1] false)],2,0⟩,⟨[(1005001,.junk),(2,.ref 0 0 0),(3,.ref 1 0 0),(9,.int .i64),(10,.own 2 0),(11,.int .i64),(29,.int .i64),(30,.int .i64)],[(0,.box [.int .i64,.int .i64,.int .i64,.int .i64,.int .i64,.int .i64,.int .i64,.int .i64,.int .i64,.int .i64,.str,.str] false),(1,.box [.str,.view 1,.view 1] false),(2,.arr 1 false)],3,0⟩]
def qHr (x0 x1:Int) (x2 x3:Int) (x4 x5:Int) (x6 x7:Int) (x8 x9:Int) (x10 x11:Int) (x12 x13:Int) (x14 x15 x16:List UInt8) (x17 x18:List AV):X × St:=(.exit 0,
 ⟨[(10,.nils ⟨1,.nil⟩),
 (11,.int .i64 (gv (qc5 x16 x17 x18 (gv (qb3 x7 (IntKind.i64.wrap (IntKind.i64.wrap (x3 + 1) * x8)) x0)).1 2)).2)],[],0,0⟩)
def qHs (x0 x1:Int) (x2 x3:Int) (x4 x5:Int) (x6 x7:Int) (x8 x9:Int) (x10 x11:Int) (x12 x13:Int) (x14 x15 x16:List UInt8) (x17 x18:List AV):X × St:=(.exit 0,
 ⟨[(10,.nils ⟨1,.nil⟩),(11,.int .i64 (gv (qb3 x7 (IntKind.i64.wrap (IntKind.i64.wrap (x3 + 1) * x8)) x0)).2)],[],0,0⟩)
def qHt (x0 x1:Int) (x2 x3:Int) (x4 x5:Int) (x6 x7:Int) (x8 x9:Int) (x10 x11:Int) (x12 x13:Int) (x14 x15 x16:List UInt8) (x17 x18:List AV):X × St:=(.exit 0,⟨[(10,.nils ⟨1,.nil⟩),(11,.int .i64 x1)],[],0,0⟩)
def qHu (x0 x1:Int) (x2 x3:Int) (x4 x5:Int) (x6 x7:Int) (x8 x9:Int) (x10 x11:Int) (x12 x13:Int) (x14 x15 x16:List UInt8) (x17 x18 x19:List AV):X × St:=(.exit 0,
 ⟨[(10,.own 0 0 none),
 (11,.int .i64 (gv (qc5 x16 x17 x18 (gv (qb3 x7 (IntKind.i64.wrap (IntKind.i64.wrap (x3 + 1) * x8)) x0)).1 2)).2)],[(0,.arr 1 x19 false)],1,0⟩)
def qHv (x0 x1:Int) (x2 x3:Int) (x4 x5:Int) (x6 x7:Int) (x8 x9:Int) (x10 x11:Int) (x12 x13:Int) (x14 x15 x16:List UInt8) (x17 x18 x19:List AV):X × St:=(.exit 0,
 ⟨[(10,.own 0 0 none),(11,.int .i64 (gv (qb3 x7 (IntKind.i64.wrap (IntKind.i64.wrap (x3 + 1) * x8)) x0)).2)],[(0,.arr 1 x19 false)],1,0⟩)
def qHw (x0 x1:Int) (x2 x3:Int) (x4 x5:Int) (x6 x7:Int) (x8 x9:Int) (x10 x11:Int) (x12 x13:Int) (x14 x15 x16:List UInt8) (x17 x18 x19:List AV):X × St:=(.exit 0,⟨[(10,.own 0 0 none),(11,.int .i64 x1)],[(0,.arr 1 x19 false)],1,0⟩)
def qUz:List (qcm -> X × St):=[fun w=>(k19 qHr) ((sl w)),fun w=>(k19 qHs) ((sl w)),fun w=>(k19 qHt) ((sl w)),fun w=>(k20 qHu) ((sr w)),fun w=>(k20 qHv) ((sr w)),fun w=>(k20 qHw) ((sr w))]
def qkZ (x0 x1:Int) (x2 x3:Int) (x4 x5:Int) (x6 x7:Int) (x8 x9:Int) (x10 x11:Int) (x12 x13:Int) (x14 x15 x16:List UInt8) (x17 x18:List AV):DT (Rd qcm):=
 .br (decide (x3 < x2))
 (.bi (qb3 x7 (IntKind.i64.wrap (IntKind.i64.wrap (x3 + 1) * x8)) x0) (fun y0=>
 .br (y0.2 == 0)
 (.bi (qc5 x16 x17 x18 y0.1 2) (fun y1=>
 .br (y1.2 == 0)
 (.at (.next ((.inr (x0,x1,x2,IntKind.i64.wrap (x3 + 1),x4,x5,x6,x7,x8,x9,x10,x11,x12,x13,x14,x15,x16,x17,x18,[.int .i64 y1.1])))))
 (.at (.done 0)))
 (.no))
 (.br (y0.2 == 0)
 (.at (.next ((.inr (x0,x1,x2,IntKind.i64.wrap (x3 + 1),x4,x5,x6,x7,x8,x9,x10,x11,x12,x13,x14,x15,x16,x17,x18,[.int .i64 y0.1])))))
 (.at (.done 1))))
 (.no))
 (.at (.done 2))
def qk0 (x0 x1:Int) (x2 x3:Int) (x4 x5:Int) (x6 x7:Int) (x8 x9:Int) (x10 x11:Int) (x12 x13:Int) (x14 x15 x16:List UInt8) (x17 x18 x19:List AV):DT (Rd qcm):=
 .br (decide (x3 < x2))
 (.bi (qb3 x7 (IntKind.i64.wrap (IntKind.i64.wrap (x3 + 1) * x8)) x0) (fun y0=>
 .br (y0.2 == 0)
 (.bi (qc5 x16 x17 x18 y0.1 2) (fun y1=>
 .br (y1.2 == 0)
 (.br (room (x19.length + 1) 8)
 (.at (.next ((.inr (x0,x1,x2,IntKind.i64.wrap (x3 + 1),x4,x5,x6,x7,x8,x9,x10,x11,x12,x13,x14,x15,x16,x17,x18,x19 ++ [AV.int IntKind.i64 y1.1])))))
 (.no))
 (.at (.done 3)))
 (.no))
 (.br (y0.2 == 0)
 (.br (room (x19.length + 1) 8)
 (.at (.next ((.inr (x0,x1,x2,IntKind.i64.wrap (x3 + 1),x4,x5,x6,x7,x8,x9,x10,x11,x12,x13,x14,x15,x16,x17,x18,x19 ++ [AV.int IntKind.i64 y0.1])))))
 (.no))
 (.at (.done 4))))
 (.no))
 (.at (.done 5))
def qtf:qcm -> DT (Rd qcm):=(Sum.elim (fun v=>qkZ v.1 v.2.1 v.2.2.1 v.2.2.2.1 v.2.2.2.2.1 v.2.2.2.2.2.1 v.2.2.2.2.2.2.1 v.2.2.2.2.2.2.2.1 v.2.2.2.2.2.2.2.2.1 v.2.2.2.2.2.2.2.2.2.1 v.2.2.2.2.2.2.2.2.2.2.1 v.2.2.2.2.2.2.2.2.2.2.2.1 v.2.2.2.2.2.2.2.2.2.2.2.2.1 v.2.2.2.2.2.2.2.2.2.2.2.2.2.1 v.2.2.2.2.2.2.2.2.2.2.2.2.2.2.1 v.2.2.2.2.2.2.2.2.2.2.2.2.2.2.2.1 v.2.2.2.2.2.2.2.2.2.2.2.2.2.2.2.2.1 v.2.2.2.2.2.2.2.2.2.2.2.2.2.2.2.2.2.1 v.2.2.2.2.2.2.2.2.2.2.2.2.2.2.2.2.2.2) (fun v=>qk0 v.1 v.2.1 v.2.2.1 v.2.2.2.1 v.2.2.2.2.1 v.2.2.2.2.2.1 v.2.2.2.2.2.2.1 v.2.2.2.2.2.2.2.1 v.2.2.2.2.2.2.2.2.1 v.2.2.2.2.2.2.2.2.2.1 v.2.2.2.2.2.2.2.2.2.2.1 v.2.2.2.2.2.2.2.2.2.2.2.1 v.2.2.2.2.2.2.2.2.2.2.2.2.1 v.2.2.2.2.2.2.2.2.2.2.2.2.2.1 v.2.2.2.2.2.2.2.2.2.2.2.2.2.2.1 v.2.2.2.2.2.2.2.2.2.2.2.2.2.2.2.1 v.2.2.2.2.2.2.2.2.2.2.2.2.2.2.2.2.1 v.2.2.2.2.2.2.2.2.2.2.2.2.2.2.2.2.2.1 v.2.2.2.2.2.2.2.2.2.2.2.2.2.2.2.2.2.2.1 v.2.2.2.2.2.2.2.2.2.2.2.2.2.2.2.2.2.2.2))
def qhb (v:qcm):Option (Nat × qcm):=qaK (qat (fun v=>(qtf v).ev) v)
theorem qqT (v):qhb v = qat (fun v=>(qtf v).ev) v:=qaa _
def qB1:qdC:=LE (τ:=qcm) (hD qBt) (qhb) qUz
theorem qTW:Go.Eng.Told IP (qai F50 1).1 (qai F50 1).2 (qB1):=qaF (inferInstance:Inhabited qcm) (hs:=qBt) (st:=qtf) (L:=[]) qyU (qaf (l:=[]) (by kernel_rfl) trivial) (qqT) (fun v=>match v with | (.inl v)=>by kernel_rfl | (.inr v)=>by kernel_rfl) (fun v=>match v with | (.inl v)=>by kernel_rfl | (.inr v)=>by kernel_rfl)
end
end Go.Proofs.H35

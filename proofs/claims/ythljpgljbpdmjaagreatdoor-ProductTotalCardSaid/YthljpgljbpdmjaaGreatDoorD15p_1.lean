/- Functions over plain data. Printed by a program of mine. -/
import Derived.Test.YthljpgljbpdmjaaGreatDoorE3
import Derived.Test.YthljpgljbpdmjaaGreatDoorIP15p
import Derived.KernelRfl
import Derived.Test.YthljpgljbpdmjaaGreatDoorSpA
set_option linter.unusedVariables false
set_option linter.unusedSimpArgs false
set_option linter.unnecessarySimpa false
namespace Go.Proofs.H15p
open Go Go.Eng
set_option maxRecDepth 100000
noncomputable section
abbrev k2 {a0 a1 r:Type} (f:a0 -> a1 -> r) (v:a0 × a1):r:=f v.1 v.2
abbrev k3 {a0 a1 a2 r:Type} (f:a0 -> a1 -> a2 -> r) (v:a0 × a1 × a2):r:=f v.1 v.2.1 v.2.2
abbrev k4 {a0 a1 a2 a3 r:Type} (f:a0 -> a1 -> a2 -> a3 -> r) (v:a0 × a1 × a2 × a3):r:=f v.1 v.2.1 v.2.2.1 v.2.2.2
abbrev k5 {a0 a1 a2 a3 a4 r:Type} (f:a0 -> a1 -> a2 -> a3 -> a4 -> r) (v:a0 × a1 × a2 × a3 × a4):r:=f v.1 v.2.1 v.2.2.1 v.2.2.2.1 v.2.2.2.2
abbrev k6 {a0 a1 a2 a3 a4 a5 r:Type} (f:a0 -> a1 -> a2 -> a3 -> a4 -> a5 -> r) (v:a0 × a1 × a2 × a3 × a4 × a5):r:=f v.1 v.2.1 v.2.2.1 v.2.2.2.1 v.2.2.2.2.1 v.2.2.2.2.2
abbrev k7 {a0 a1 a2 a3 a4 a5 a6 r:Type} (f:a0 -> a1 -> a2 -> a3 -> a4 -> a5 -> a6 -> r) (v:a0 × a1 × a2 × a3 × a4 × a5 × a6):r:=f v.1 v.2.1 v.2.2.1 v.2.2.2.1 v.2.2.2.2.1 v.2.2.2.2.2.1 v.2.2.2.2.2.2
abbrev k8 {a0 a1 a2 a3 a4 a5 a6 a7 r:Type} (f:a0 -> a1 -> a2 -> a3 -> a4 -> a5 -> a6 -> a7 -> r) (v:a0 × a1 × a2 × a3 × a4 × a5 × a6 × a7):r:=f v.1 v.2.1 v.2.2.1 v.2.2.2.1 v.2.2.2.2.1 v.2.2.2.2.2.1 v.2.2.2.2.2.2.1 v.2.2.2.2.2.2.2
abbrev k9 {a0 a1 a2 a3 a4 a5 a6 a7 a8 r:Type} (f:a0 -> a1 -> a2 -> a3 -> a4 -> a5 -> a6 -> a7 -> a8 -> r) (v:a0 × a1 × a2 × a3 × a4 × a5 × a6 × a7 × a8):r:=f v.1 v.2.1 v.2.2.1 v.2.2.2.1 v.2.2.2.2.1 v.2.2.2.2.2.1 v.2.2.2.2.2.2.1 v.2.2.2.2.2.2.2.1 v.2.2.2.2.2.2.2.2
abbrev k10 {a0 a1 a2 a3 a4 a5 a6 a7 a8 a9 r:Type} (f:a0 -> a1 -> a2 -> a3 -> a4 -> a5 -> a6 -> a7 -> a8 -> a9 -> r) (v:a0 × a1 × a2 × a3 × a4 × a5 × a6 × a7 × a8 × a9):r:=f v.1 v.2.1 v.2.2.1 v.2.2.2.1 v.2.2.2.2.1 v.2.2.2.2.2.1 v.2.2.2.2.2.2.1 v.2.2.2.2.2.2.2.1 v.2.2.2.2.2.2.2.2.1 v.2.2.2.2.2.2.2.2.2
abbrev k11 {a0 a1 a2 a3 a4 a5 a6 a7 a8 a9 a10 r:Type} (f:a0 -> a1 -> a2 -> a3 -> a4 -> a5 -> a6 -> a7 -> a8 -> a9 -> a10 -> r) (v:a0 × a1 × a2 × a3 × a4 × a5 × a6 × a7 × a8 × a9 × a10):r:=f v.1 v.2.1 v.2.2.1 v.2.2.2.1 v.2.2.2.2.1 v.2.2.2.2.2.1 v.2.2.2.2.2.2.1 v.2.2.2.2.2.2.2.1 v.2.2.2.2.2.2.2.2.1 v.2.2.2.2.2.2.2.2.2.1 v.2.2.2.2.2.2.2.2.2.2
abbrev k12 {a0 a1 a2 a3 a4 a5 a6 a7 a8 a9 a10 a11 r:Type} (f:a0 -> a1 -> a2 -> a3 -> a4 -> a5 -> a6 -> a7 -> a8 -> a9 -> a10 -> a11 -> r) (v:a0 × a1 × a2 × a3 × a4 × a5 × a6 × a7 × a8 × a9 × a10 × a11):r:=f v.1 v.2.1 v.2.2.1 v.2.2.2.1 v.2.2.2.2.1 v.2.2.2.2.2.1 v.2.2.2.2.2.2.1 v.2.2.2.2.2.2.2.1 v.2.2.2.2.2.2.2.2.1 v.2.2.2.2.2.2.2.2.2.1 v.2.2.2.2.2.2.2.2.2.2.1 v.2.2.2.2.2.2.2.2.2.2.2
abbrev k19 {a0 a1 a2 a3 a4 a5 a6 a7 a8 a9 a10 a11 a12 a13 a14 a15 a16 a17 a18 r:Type} (f:a0 -> a1 -> a2 -> a3 -> a4 -> a5 -> a6 -> a7 -> a8 -> a9 -> a10 -> a11 -> a12 -> a13 -> a14 -> a15 -> a16 -> a17 -> a18 -> r) (v:a0 × a1 × a2 × a3 × a4 × a5 × a6 × a7 × a8 × a9 × a10 × a11 × a12 × a13 × a14 × a15 × a16 × a17 × a18):r:=f v.1 v.2.1 v.2.2.1 v.2.2.2.1 v.2.2.2.2.1 v.2.2.2.2.2.1 v.2.2.2.2.2.2.1 v.2.2.2.2.2.2.2.1 v.2.2.2.2.2.2.2.2.1 v.2.2.2.2.2.2.2.2.2.1 v.2.2.2.2.2.2.2.2.2.2.1 v.2.2.2.2.2.2.2.2.2.2.2.1 v.2.2.2.2.2.2.2.2.2.2.2.2.1 v.2.2.2.2.2.2.2.2.2.2.2.2.2.1 v.2.2.2.2.2.2.2.2.2.2.2.2.2.2.1 v.2.2.2.2.2.2.2.2.2.2.2.2.2.2.2.1 v.2.2.2.2.2.2.2.2.2.2.2.2.2.2.2.2.1 v.2.2.2.2.2.2.2.2.2.2.2.2.2.2.2.2.2.1 v.2.2.2.2.2.2.2.2.2.2.2.2.2.2.2.2.2.2
abbrev k20 {a0 a1 a2 a3 a4 a5 a6 a7 a8 a9 a10 a11 a12 a13 a14 a15 a16 a17 a18 a19 r:Type} (f:a0 -> a1 -> a2 -> a3 -> a4 -> a5 -> a6 -> a7 -> a8 -> a9 -> a10 -> a11 -> a12 -> a13 -> a14 -> a15 -> a16 -> a17 -> a18 -> a19 -> r) (v:a0 × a1 × a2 × a3 × a4 × a5 × a6 × a7 × a8 × a9 × a10 × a11 × a12 × a13 × a14 × a15 × a16 × a17 × a18 × a19):r:=f v.1 v.2.1 v.2.2.1 v.2.2.2.1 v.2.2.2.2.1 v.2.2.2.2.2.1 v.2.2.2.2.2.2.1 v.2.2.2.2.2.2.2.1 v.2.2.2.2.2.2.2.2.1 v.2.2.2.2.2.2.2.2.2.1 v.2.2.2.2.2.2.2.2.2.2.1 v.2.2.2.2.2.2.2.2.2.2.2.1 v.2.2.2.2.2.2.2.2.2.2.2.2.1 v.2.2.2.2.2.2.2.2.2.2.2.2.2.1 v.2.2.2.2.2.2.2.2.2.2.2.2.2.2.1 v.2.2.2.2.2.2.2.2.2.2.2.2.2.2.2.1 v.2.2.2.2.2.2.2.2.2.2.2.2.2.2.2.2.1 v.2.2.2.2.2.2.2.2.2.2.2.2.2.2.2.2.2.1 v.2.2.2.2.2.2.2.2.2.2.2.2.2.2.2.2.2.2.1 v.2.2.2.2.2.2.2.2.2.2.2.2.2.2.2.2.2.2.2
abbrev k21 {a0 a1 a2 a3 a4 a5 a6 a7 a8 a9 a10 a11 a12 a13 a14 a15 a16 a17 a18 a19 a20 r:Type} (f:a0 -> a1 -> a2 -> a3 -> a4 -> a5 -> a6 -> a7 -> a8 -> a9 -> a10 -> a11 -> a12 -> a13 -> a14 -> a15 -> a16 -> a17 -> a18 -> a19 -> a20 -> r) (v:a0 × a1 × a2 × a3 × a4 × a5 × a6 × a7 × a8 × a9 × a10 × a11 × a12 × a13 × a14 × a15 × a16 × a17 × a18 × a19 × a20):r:=f v.1 v.2.1 v.2.2.1 v.2.2.2.1 v.2.2.2.2.1 v.2.2.2.2.2.1 v.2.2.2.2.2.2.1 v.2.2.2.2.2.2.2.1 v.2.2.2.2.2.2.2.2.1 v.2.2.2.2.2.2.2.2.2.1 v.2.2.2.2.2.2.2.2.2.2.1 v.2.2.2.2.2.2.2.2.2.2.2.1 v.2.2.2.2.2.2.2.2.2.2.2.2.1 v.2.2.2.2.2.2.2.2.2.2.2.2.2.1 v.2.2.2.2.2.2.2.2.2.2.2.2.2.2.1 v.2.2.2.2.2.2.2.2.2.2.2.2.2.2.2.1 v.2.2.2.2.2.2.2.2.2.2.2.2.2.2.2.2.1 v.2.2.2.2.2.2.2.2.2.2.2.2.2.2.2.2.2.1 v.2.2.2.2.2.2.2.2.2.2.2.2.2.2.2.2.2.2.1 v.2.2.2.2.2.2.2.2.2.2.2.2.2.2.2.2.2.2.2.1 v.2.2.2.2.2.2.2.2.2.2.2.2.2.2.2.2.2.2.2.2
abbrev k22 {a0 a1 a2 a3 a4 a5 a6 a7 a8 a9 a10 a11 a12 a13 a14 a15 a16 a17 a18 a19 a20 a21 r:Type} (f:a0 -> a1 -> a2 -> a3 -> a4 -> a5 -> a6 -> a7 -> a8 -> a9 -> a10 -> a11 -> a12 -> a13 -> a14 -> a15 -> a16 -> a17 -> a18 -> a19 -> a20 -> a21 -> r) (v:a0 × a1 × a2 × a3 × a4 × a5 × a6 × a7 × a8 × a9 × a10 × a11 × a12 × a13 × a14 × a15 × a16 × a17 × a18 × a19 × a20 × a21):r:=f v.1 v.2.1 v.2.2.1 v.2.2.2.1 v.2.2.2.2.1 v.2.2.2.2.2.1 v.2.2.2.2.2.2.1 v.2.2.2.2.2.2.2.1 v.2.2.2.2.2.2.2.2.1 v.2.2.2.2.2.2.2.2.2.1 v.2.2.2.2.2.2.2.2.2.2.1 v.2.2.2.2.2.2.2.2.2.2.2.1 v.2.2.2.2.2.2.2.2.2.2.2.2.1 v.2.2.2.2.2.2.2.2.2.2.2.2.2.1 v.2.2.2.2.2.2.2.2.2.2.2.2.2.2.1 v.2.2.2.2.2.2.2.2.2.2.2.2.2.2.2.1 v.2.2.2.2.2.2.2.2.2.2.2.2.2.2.2.2.1 v.2.2.2.2.2.2.2.2.2.2.2.2.2.2.2.2.2.1 v.2.2.2.2.2.2.2.2.2.2.2.2.2.2.2.2.2.2.1 v.2.2.2.2.2.2.2.2.2.2.2.2.2.2.2.2.2.2.2.1 v.2.2.2.2.2.2.2.2.2.2.2.2.2.2.2.2.2.2.2.2.1 v.2.2.2.2.2.2.2.2.2.2.2.2.2.2.2.2.2.2.2.2.2
abbrev k26 {a0 a1 a2 a3 a4 a5 a6 a7 a8 a9 a10 a11 a12 a13 a14 a15 a16 a17 a18 a19 a20 a21 a22 a23 a24 a25 r:Type} (f:a0 -> a1 -> a2 -> a3 -> a4 -> a5 -> a6 -> a7 -> a8 -> a9 -> a10 -> a11 -> a12 -> a13 -> a14 -> a15 -> a16 -> a17 -> a18 -> a19 -> a20 -> a21 -> a22 -> a23 -> a24 -> a25 -> r) (v:a0 × a1 × a2 × a3 × a4 × a5 × a6 × a7 × a8 × a9 × a10 × a11 × a12 × a13 × a14 × a15 × a16 × a17 × a18 × a19 × a20 × a21 × a22 × a23 × a24 × a25):r:=f v.1 v.2.1 v.2.2.1 v.2.2.2.1 v.2.2.2.2.1 v.2.2.2.2.2.1 v.2.2.2.2.2.2.1 v.2.2.2.2.2.2.2.1 v.2.2.2.2.2.2.2.2.1 v.2.2.2.2.2.2.2.2.2.1 v.2.2.2.2.2.2.2.2.2.2.1 v.2.2.2.2.2.2.2.2.2.2.2.1 v.2.2.2.2.2.2.2.2.2.2.2.2.1 v.2.2.2.2.2.2.2.2.2.2.2.2.2.1 v.2.2.2.2.2.2.2.2.2.2.2.2.2.2.1 v.2.2.2.2.2.2.2.2.2.2.2.2.2.2.2.1 v.2.2.2.2.2.2.2.2.2.2.2.2.2.2.2.2.1 v.2.2.2.2.2.2.2.2.2.2.2.2.2.2.2.2.2.1 v.2.2.2.2.2.2.2.2.2.2.2.2.2.2.2.2.2.2.1 v.2.2.2.2.2.2.2.2.2.2.2.2.2.2.2.2.2.2.2.1 v.2.2.2.2.2.2.2.2.2.2.2.2.2.2.2.2.2.2.2.2.1 v.2.2.2.2.2.2.2.2.2.2.2.2.2.2.2.2.2.2.2.2.2.1 v.2.2.2.2.2.2.2.2.2.2.2.2.2.2.2.2.2.2.2.2.2.2.1 v.2.2.2.2.2.2.2.2.2.2.2.2.2.2.2.2.2.2.2.2.2.2.2.1 v.2.2.2.2.2.2.2.2.2.2.2.2.2.2.2.2.2.2.2.2.2.2.2.2.1 v.2.2.2.2.2.2.2.2.2.2.2.2.2.2.2.2.2.2.2.2.2.2.2.2.2
abbrev k27 {a0 a1 a2 a3 a4 a5 a6 a7 a8 a9 a10 a11 a12 a13 a14 a15 a16 a17 a18 a19 a20 a21 a22 a23 a24 a25 a26 r:Type} (f:a0 -> a1 -> a2 -> a3 -> a4 -> a5 -> a6 -> a7 -> a8 -> a9 -> a10 -> a11 -> a12 -> a13 -> a14 -> a15 -> a16 -> a17 -> a18 -> a19 -> a20 -> a21 -> a22 -> a23 -> a24 -> a25 -> a26 -> r) (v:a0 × a1 × a2 × a3 × a4 × a5 × a6 × a7 × a8 × a9 × a10 × a11 × a12 × a13 × a14 × a15 × a16 × a17 × a18 × a19 × a20 × a21 × a22 × a23 × a24 × a25 × a26):r:=f v.1 v.2.1 v.2.2.1 v.2.2.2.1 v.2.2.2.2.1 v.2.2.2.2.2.1 v.2.2.2.2.2.2.1 v.2.2.2.2.2.2.2.1 v.2.2.2.2.2.2.2.2.1 v.2.2.2.2.2.2.2.2.2.1 v.2.2.2.2.2.2.2.2.2.2.1 v.2.2.2.2.2.2.2.2.2.2.2.1 v.2.2.2.2.2.2.2.2.2.2.2.2.1 v.2.2.2.2.2.2.2.2.2.2.2.2.2.1 v.2.2.2.2.2.2.2.2.2.2.2.2.2.2.1 v.2.2.2.2.2.2.2.2.2.2.2.2.2.2.2.1 v.2.2.2.2.2.2.2.2.2.2.2.2.2.2.2.2.1 v.2.2.2.2.2.2.2.2.2.2.2.2.2.2.2.2.2.1 v.2.2.2.2.2.2.2.2.2.2.2.2.2.2.2.2.2.2.1 v.2.2.2.2.2.2.2.2.2.2.2.2.2.2.2.2.2.2.2.1 v.2.2.2.2.2.2.2.2.2.2.2.2.2.2.2.2.2.2.2.2.1 v.2.2.2.2.2.2.2.2.2.2.2.2.2.2.2.2.2.2.2.2.2.1 v.2.2.2.2.2.2.2.2.2.2.2.2.2.2.2.2.2.2.2.2.2.2.1 v.2.2.2.2.2.2.2.2.2.2.2.2.2.2.2.2.2.2.2.2.2.2.2.1 v.2.2.2.2.2.2.2.2.2.2.2.2.2.2.2.2.2.2.2.2.2.2.2.2.1 v.2.2.2.2.2.2.2.2.2.2.2.2.2.2.2.2.2.2.2.2.2.2.2.2.2.1 v.2.2.2.2.2.2.2.2.2.2.2.2.2.2.2.2.2.2.2.2.2.2.2.2.2.2
abbrev k30 {a0 a1 a2 a3 a4 a5 a6 a7 a8 a9 a10 a11 a12 a13 a14 a15 a16 a17 a18 a19 a20 a21 a22 a23 a24 a25 a26 a27 a28 a29 r:Type} (f:a0 -> a1 -> a2 -> a3 -> a4 -> a5 -> a6 -> a7 -> a8 -> a9 -> a10 -> a11 -> a12 -> a13 -> a14 -> a15 -> a16 -> a17 -> a18 -> a19 -> a20 -> a21 -> a22 -> a23 -> a24 -> a25 -> a26 -> a27 -> a28 -> a29 -> r) (v:a0 × a1 × a2 × a3 × a4 × a5 × a6 × a7 × a8 × a9 × a10 × a11 × a12 × a13 × a14 × a15 × a16 × a17 × a18 × a19 × a20 × a21 × a22 × a23 × a24 × a25 × a26 × a27 × a28 × a29):r:=f v.1 v.2.1 v.2.2.1 v.2.2.2.1 v.2.2.2.2.1 v.2.2.2.2.2.1 v.2.2.2.2.2.2.1 v.2.2.2.2.2.2.2.1 v.2.2.2.2.2.2.2.2.1 v.2.2.2.2.2.2.2.2.2.1 v.2.2.2.2.2.2.2.2.2.2.1 v.2.2.2.2.2.2.2.2.2.2.2.1 v.2.2.2.2.2.2.2.2.2.2.2.2.1 v.2.2.2.2.2.2.2.2.2.2.2.2.2.1 v.2.2.2.2.2.2.2.2.2.2.2.2.2.2.1 v.2.2.2.2.2.2.2.2.2.2.2.2.2.2.2.1 v.2.2.2.2.2.2.2.2.2.2.2.2.2.2.2.2.1 v.2.2.2.2.2.2.2.2.2.2.2.2.2.2.2.2.2.1 v.2.2.2.2.2.2.2.2.2.2.2.2.2.2.2.2.2.2.1 v.2.2.2.2.2.2.2.2.2.2.2.2.2.2.2.2.2.2.2.1 v.2.2.2.2.2.2.2.2.2.2.2.2.2.2.2.2.2.2.2.2.1 v.2.2.2.2.2.2.2.2.2.2.2.2.2.2.2.2.2.2.2.2.2.1 v.2.2.2.2.2.2.2.2.2.2.2.2.2.2.2.2.2.2.2.2.2.2.1 v.2.2.2.2.2.2.2.2.2.2.2.2.2.2.2.2.2.2.2.2.2.2.2.1 v.2.2.2.2.2.2.2.2.2.2.2.2.2.2.2.2.2.2.2.2.2.2.2.2.1 v.2.2.2.2.2.2.2.2.2.2.2.2.2.2.2.2.2.2.2.2.2.2.2.2.2.1 v.2.2.2.2.2.2.2.2.2.2.2.2.2.2.2.2.2.2.2.2.2.2.2.2.2.2.1 v.2.2.2.2.2.2.2.2.2.2.2.2.2.2.2.2.2.2.2.2.2.2.2.2.2.2.2.1 v.2.2.2.2.2.2.2.2.2.2.2.2.2.2.2.2.2.2.2.2.2.2.2.2.2.2.2.2.1 v.2.2.2.2.2.2.2.2.2.2.2.2.2.2.2.2.2.2.2.2.2.2.2.2.2.2.2.2.2
abbrev k38 {a0 a1 a2 a3 a4 a5 a6 a7 a8 a9 a10 a11 a12 a13 a14 a15 a16 a17 a18 a19 a20 a21 a22 a23 a24 a25 a26 a27 a28 a29 a30 a31 a32 a33 a34 a35 a36 a37 r:Type} (f:a0 -> a1 -> a2 -> a3 -> a4 -> a5 -> a6 -> a7 -> a8 -> a9 -> a10 -> a11 -> a12 -> a13 -> a14 -> a15 -> a16 -> a17 -> a18 -> a19 -> a20 -> a21 -> a22 -> a23 -> a24 -> a25 -> a26 -> a27 -> a28 -> a29 -> a30 -> a31 -> a32 -> a33 -> a34 -> a35 -> a36 -> a37 -> r) (v:a0 × a1 × a2 × a3 × a4 × a5 × a6 × a7 × a8 × a9 × a10 × a11 × a12 × a13 × a14 × a15 × a16 × a17 × a18 × a19 × a20 × a21 × a22 × a23 × a24 × a25 × a26 × a27 × a28 × a29 × a30 × a31 × a32 × a33 × a34 × a35 × a36 × a37):r:=f v.1 v.2.1 v.2.2.1 v.2.2.2.1 v.2.2.2.2.1 v.2.2.2.2.2.1 v.2.2.2.2.2.2.1 v.2.2.2.2.2.2.2.1 v.2.2.2.2.2.2.2.2.1 v.2.2.2.2.2.2.2.2.2.1 v.2.2.2.2.2.2.2.2.2.2.1 v.2.2.2.2.2.2.2.2.2.2.2.1 v.2.2.2.2.2.2.2.2.2.2.2.2.1 v.2.2.2.2.2.2.2.2.2.2.2.2.2.1 v.2.2.2.2.2.2.2.2.2.2.2.2.2.2.1 v.2.2.2.2.2.2.2.2.2.2.2.2.2.2.2.1 v.2.2.2.2.2.2.2.2.2.2.2.2.2.2.2.2.1 v.2.2.2.2.2.2.2.2.2.2.2.2.2.2.2.2.2.1 v.2.2.2.2.2.2.2.2.2.2.2.2.2.2.2.2.2.2.1 v.2.2.2.2.2.2.2.2.2.2.2.2.2.2.2.2.2.2.2.1 v.2.2.2.2.2.2.2.2.2.2.2.2.2.2.2.2.2.2.2.2.1 v.2.2.2.2.2.2.2.2.2.2.2.2.2.2.2.2.2.2.2.2.2.1 v.2.2.2.2.2.2.2.2.2.2.2.2.2.2.2.2.2.2.2.2.2.2.1 v.2.2.2.2.2.2.2.2.2.2.2.2.2.2.2.2.2.2.2.2.2.2.2.1 v.2.2.2.2.2.2.2.2.2.2.2.2.2.2.2.2.2.2.2.2.2.2.2.2.1 v.2.2.2.2.2.2.2.2.2.2.2.2.2.2.2.2.2.2.2.2.2.2.2.2.2.1 v.2.2.2.2.2.2.2.2.2.2.2.2.2.2.2.2.2.2.2.2.2.2.2.2.2.2.1 v.2.2.2.2.2.2.2.2.2.2.2.2.2.2.2.2.2.2.2.2.2.2.2.2.2.2.2.1 v.2.2.2.2.2.2.2.2.2.2.2.2.2.2.2.2.2.2.2.2.2.2.2.2.2.2.2.2.1 v.2.2.2.2.2.2.2.2.2.2.2.2.2.2.2.2.2.2.2.2.2.2.2.2.2.2.2.2.2.1 v.2.2.2.2.2.2.2.2.2.2.2.2.2.2.2.2.2.2.2.2.2.2.2.2.2.2.2.2.2.2.1 v.2.2.2.2.2.2.2.2.2.2.2.2.2.2.2.2.2.2.2.2.2.2.2.2.2.2.2.2.2.2.2.1 v.2.2.2.2.2.2.2.2.2.2.2.2.2.2.2.2.2.2.2.2.2.2.2.2.2.2.2.2.2.2.2.2.1 v.2.2.2.2.2.2.2.2.2.2.2.2.2.2.2.2.2.2.2.2.2.2.2.2.2.2.2.2.2.2.2.2.2.1 v.2.2.2.2.2.2.2.2.2.2.2.2.2.2.2.2.2.2.2.2.2.2.2.2.2.2.2.2.2.2.2.2.2.2.1 v.2.2.2.2.2.2.2.2.2.2.2.2.2.2.2.2.2.2.2.2.2.2.2.2.2.2.2.2.2.2.2.2.2.2.2.1 v.2.2.2.2.2.2.2.2.2.2.2.2.2.2.2.2.2.2.2.2.2.2.2.2.2.2.2.2.2.2.2.2.2.2.2.2.1 v.2.2.2.2.2.2.2.2.2.2.2.2.2.2.2.2.2.2.2.2.2.2.2.2.2.2.2.2.2.2.2.2.2.2.2.2.2
def T0:Tab:=[(152,qnx),(188,qh9),(191,qZH),(186,qlc 223),(200,qvP 223),(220,qoQ),(154,qpg),(203,qAh),(138,qnl),(137,qqU),(38,qkX 2 16),(58,qkX 4 56),(70,qkX 1 8)]
theorem q1N:qai IP T0:=⟨q9r,q9u,q9v,q9t,q9w,q9y,q9s,q9x,q9q,q9p,zco,zcp,zcq,trivial⟩
abbrev qyt:Type:=Bool
def qpy:PArgs:=⟨[.agg [.int .i64,.int .i64,.str,.view 4],.int .i64],[]⟩
def qpO:List PRes:=[⟨false,.bool,[]⟩]
abbrev qch:Type:=Int -> Int -> (List UInt8) -> (List AV) -> Int -> Option qyt
def qtj (G_u201q:qch):Prop:=FH IP 26 qpy qpO (k5 G_u201q)
def qQ7 (G_u201q:qch):Tab:=(26,FE qpy qpO (k5 G_u201q)) :: T0
theorem qni (G_u201q:qch) (hG:qtj G_u201q):qai IP (qQ7 G_u201q):=⟨qaj (hG),q1N⟩
abbrev qdr:Type:=Int × Int × Int × Int × List UInt8 × List AV
def qBj:List PSt:=[⟨[(1002600,.junk),(1,.int .i64),(2,.ref 0 0 0),(5,.int .i64)],[(0,.box [.int .i64,.int .i64,.str,.view 4] false)],1,0⟩]
def qQn (x0 x1:Int) (x2 x3:Int) (x4:List UInt8) (x5:List AV):X × St:=(.ret,⟨[(4,.bool true)],[],0,0⟩)
def qQo (x0 x1:Int) (x2 x3:Int) (x4:List UInt8) (x5:List AV):X × St:=(.exit 0,⟨[(4,.junk)],[],0,0⟩)
def q02:List (qdr -> X × St):=[(k6 qQn),(k6 qQo)]
def qky (G_u201q:qch) (x0 x1:Int) (x2 x3:Int) (x4:List UInt8) (x5:List AV):DT (Rd qdr):=
 .br (decide (x1 < (x5.length:Int)))
 (.br (qaD [.int .i64,.int .i64,.str,.slice 4] x5 x1)
 (.bi (G_u201q (intOf (cellAt x5 x1 0)) (intOf (cellAt x5 x1 1)) (strOf (cellAt x5 x1 2)) (qaq (cellAt x5 x1 3)) (IntKind.i64.wrap (x0 - 1))) (fun y0=>
 .br (y0) (.at (.done 0)) (.at (.next ((x0,IntKind.i64.wrap (x1 + 1),x2,x3,x4,x5)))))
 (.no))
 (.no))
 (.at (.done 1))
def qhg (G_u201q:qch):qdr -> DT (Rd qdr):=(fun v=>qky G_u201q v.1 v.2.1 v.2.2.1 v.2.2.2.1 v.2.2.2.2.1 v.2.2.2.2.2)
def qoY (G_u201q:qch) (v:qdr):Option (Nat × qdr):=qay (qap (fun v=>(qhg G_u201q v).ev) v)
theorem qsr (G_u201q v):qoY G_u201q v = qap (fun v=>(qhg G_u201q v).ev) v:=qaa _
def qBZ (G_u201q:qch):qbz:=LE (τ:=qdr) (hD qBj) (qoY G_u201q) q02
theorem q0v (G_u201q:qch) (hG:qtj G_u201q):Go.Eng.Told IP (qae F26 0).1 (qae F26 0).2 (qBZ G_u201q):=qar (inferInstance:Inhabited qdr) (hs:=qBj) (st:=qhg G_u201q) (L:=[]) (qni G_u201q hG) (qab (l:=[]) (by kernel_rfl) trivial) (qsr G_u201q) (fun v=>by kernel_rfl) (fun v=>by kernel_rfl)
def qmB (G_u201q:qch) (x0 x1:Int) (x2:List UInt8) (x3:List AV) (x4:Int):DT qyt:=
 .bi (br (x4 == 0) (some true) (some (decide ((x3.length:Int) > 8)))) (fun y0=>
 .bi (br y0 (some true) (some (decide ((x2.length:Int) > 40)))) (fun y1=>
 .br (y1)
 (.at (true))
 (.bi (pj 0 (qoY G_u201q (x4,0,x0,x1,x2,x3))) (fun y2=>
 .at (true))
 (.bi (pj 1 (qoY G_u201q (x4,0,x0,x1,x2,x3))) (fun y2=>
 .at (false))
 (.no))))
 (.no))
 (.no)
def qc5:Nat -> qch
 | 0=>fun _ _ _ _ _=>none
 | n + 1=>fun x0 x1 x2 x3 x4=>(qmB ((qc5 n)) x0 x1 x2 x3 x4).ev
def qh0 (x0 x1:Int) (x2:List UInt8) (x3:List AV) (x4:Int):Option qyt:=qka fun n=>(qc5 n) x0 x1 x2 x3 x4
theorem qry:∀ n,qtj ((qc5 n))
 | 0=>(fun v y h=>nomatch h)
 | n + 1=>have hG:=qry n
 qag (F:=F26) (L:=[(1002600,qBZ ((qc5 n)))]) (t:=(k5 (qmB ((qc5 n))))) (qni ((qc5 n)) hG) (qab (l:=[qae F26 0]) (by kernel_rfl) ⟨qas (by kernel_rfl) (q0v ((qc5 n)) hG),trivial⟩) (by kernel_rfl) (fun v=>by kernel_rfl) (fun v=>rfl)
theorem qYS:FH IP 26 qpy qpO (k5 qh0):=qbK (p:=qpy) (rs:=qpO) (s:=fun n=>(k5 ((qc5 n)))) fun n=>(qry n)
def T1:Tab:=(26,FE qpy qpO (k5 qh0)) :: T0
theorem qQT:qai IP T1:=⟨qaj qYS,q1N⟩
abbrev qcM:Type:=Int × List UInt8 × List UInt8 × List UInt8 × Int × Int × Int × Int × List AV × Bool × Int × Int × Bool × List AV × Bool × Int × Int × Bool × List AV × List AV
def qBp:List PSt:=[⟨[(1001100,.junk),(1,.ref 0 0 0),(3,.int .i64)],[(0,.box [.str,.str,.str,.int .i64,.int .i64,.int .i64,.int .i64,.view 2,.bool,.int .i64,.int .i64,.bool,.view 2,.bool,.int .i64,.int .i64,.bool,.view 10,.view 6] false)],1,0⟩]
def qQB (x0:Int) (x1 x2 x3:List UInt8) (x4 x5:Int) (x6 x7:Int) (x8:List AV) (x9:Bool) (x10 x11:Int) (x12:Bool) (x13:List AV) (x14:Bool) (x15 x16:Int) (x17:Bool) (x18 x19:List AV):X × St:=(.ret,
 ⟨[(1,.ref 0 0 0),(2,.bool false)],[(0,
 .box
 [.str x1,.str x2,.str x3,.int .i64 x4,.int .i64 x5,.int .i64 x6,.int .i64 x7,.view 2 x8,.bool x9,
 .int .i64 x10,.int .i64 x11,.bool x12,.view 2 x13,.bool x14,.int .i64 x15,.int .i64 x16,.bool x17,.view 10 x18,
 .view 6 x19]
 false)],1,0⟩)
def qQC (x0:Int) (x1 x2 x3:List UInt8) (x4 x5:Int) (x6 x7:Int) (x8:List AV) (x9:Bool) (x10 x11:Int) (x12:Bool) (x13:List AV) (x14:Bool) (x15 x16:Int) (x17:Bool) (x18 x19:List AV):X × St:=(.exit 0,
 ⟨[(1,.ref 0 0 0),(2,.junk)],[(0,
 .box
 [.str x1,.str x2,.str x3,.int .i64 x4,.int .i64 x5,.int .i64 x6,.int .i64 x7,.view 2 x8,.bool x9,
 .int .i64 x10,.int .i64 x11,.bool x12,.view 2 x13,.bool x14,.int .i64 x15,.int .i64 x16,.bool x17,.view 10 x18,
 .view 6 x19]
 false)],1,0⟩)
def q08:List (qcM -> X × St):=[(k20 qQB),(k20 qQC)]
def qkE (x0:Int) (x1 x2 x3:List UInt8) (x4 x5:Int) (x6 x7:Int) (x8:List AV) (x9:Bool) (x10 x11:Int) (x12:Bool) (x13:List AV) (x14:Bool) (x15 x16:Int) (x17:Bool) (x18 x19:List AV):DT (Rd qcM):=
 .br (decide (x0 < (x18.length:Int)))
 (.br (qaD [.str,.int .i64,.int .i64,.int .i64,.str,.slice 4,.int .i64,.int .i64,.str,.slice 4] x18 x0)
 (.bi (qh0 (intOf (cellAt x18 x0 2)) (intOf (cellAt x18 x0 3)) (strOf (cellAt x18 x0 4)) (qaq (cellAt x18 x0 5)) 12) (fun y0=>
 .bi (br y0 (some true)
 (br (qaD [.str,.int .i64,.int .i64,.int .i64,.str,.slice 4,.int .i64,.int .i64,.str,.slice 4] x18 x0)
 (br (sm (qh0 (intOf (cellAt x18 x0 6)) (intOf (cellAt x18 x0 7)) (strOf (cellAt x18 x0 8)) (qaq (cellAt x18 x0 9)) 12))
 (some (gv (qh0 (intOf (cellAt x18 x0 6)) (intOf (cellAt x18 x0 7)) (strOf (cellAt x18 x0 8)) (qaq (cellAt x18 x0 9)) 12))) none)
 none)) (fun y1=>
 .br (y1) (.at (.done 0)) (.at (.next ((IntKind.i64.wrap (x0 + 1),x1,x2,x3,x4,x5,x6,x7,x8,x9,x10,x11,x12,x13,x14,x15,x16,x17,x18,x19)))))
 (.no))
 (.no))
 (.no))
 (.at (.done 1))
def qhh:qcM -> DT (Rd qcM):=(fun v=>qkE v.1 v.2.1 v.2.2.1 v.2.2.2.1 v.2.2.2.2.1 v.2.2.2.2.2.1 v.2.2.2.2.2.2.1 v.2.2.2.2.2.2.2.1 v.2.2.2.2.2.2.2.2.1 v.2.2.2.2.2.2.2.2.2.1 v.2.2.2.2.2.2.2.2.2.2.1 v.2.2.2.2.2.2.2.2.2.2.2.1 v.2.2.2.2.2.2.2.2.2.2.2.2.1 v.2.2.2.2.2.2.2.2.2.2.2.2.2.1 v.2.2.2.2.2.2.2.2.2.2.2.2.2.2.1 v.2.2.2.2.2.2.2.2.2.2.2.2.2.2.2.1 v.2.2.2.2.2.2.2.2.2.2.2.2.2.2.2.2.1 v.2.2.2.2.2.2.2.2.2.2.2.2.2.2.2.2.2.1 v.2.2.2.2.2.2.2.2.2.2.2.2.2.2.2.2.2.2.1 v.2.2.2.2.2.2.2.2.2.2.2.2.2.2.2.2.2.2.2)
def qo3 (v:qcM):Option (Nat × qcM):=qay (qap (fun v=>(qhh v).ev) v)
theorem qsx (v):qo3 v = qap (fun v=>(qhh v).ev) v:=qaa _
def qB5:qbz:=LE (τ:=qcM) (hD qBp) (qo3) q08
theorem q0B:Go.Eng.Told IP (qae F11 0).1 (qae F11 0).2 (qB5):=lp (inferInstance:Inhabited qcM) (hs:=qBp) qhh qQT qsx
abbrev qdx:Type:=Int × List UInt8 × List UInt8 × List UInt8 × Int × Int × Int × Int × List AV × Bool × Int × Int × Bool × List AV × Bool × Int × Int × Bool × List AV × List AV
def qBq:List PSt:=[⟨[(1001101,.junk),(1,.ref 0 0 0),(4,.int .i64)],[(0,.box [.str,.str,.str,.int .i64,.int .i64,.int .i64,.int .i64,.view 2,.bool,.int .i64,.int .i64,.bool,.view 2,.bool,.int .i64,.int .i64,.bool,.view 10,.view 6] false)],1,0⟩]
def qQD (x0:Int) (x1 x2 x3:List UInt8) (x4 x5:Int) (x6 x7:Int) (x8:List AV) (x9:Bool) (x10 x11:Int) (x12:Bool) (x13:List AV) (x14:Bool) (x15 x16:Int) (x17:Bool) (x18 x19:List AV):X × St:=(.ret,⟨[(2,.bool false)],[],0,0⟩)
def qQE (x0:Int) (x1 x2 x3:List UInt8) (x4 x5:Int) (x6 x7:Int) (x8:List AV) (x9:Bool) (x10 x11:Int) (x12:Bool) (x13:List AV) (x14:Bool) (x15 x16:Int) (x17:Bool) (x18 x19:List AV):X × St:=(.exit 2,⟨[(2,.junk)],[],0,0⟩)
def q09:List (qdx -> X × St):=[(k20 qQD),(k20 qQE)]
def qkF (x0:Int) (x1 x2 x3:List UInt8) (x4 x5:Int) (x6 x7:Int) (x8:List AV) (x9:Bool) (x10 x11:Int) (x12:Bool) (x13:List AV) (x14:Bool) (x15 x16:Int) (x17:Bool) (x18 x19:List AV):DT (Rd qdx):=
 .br (decide (x0 < (x19.length:Int)))
 (.br (qaD [.str,.int .i64,.int .i64,.int .i64,.str,.slice 4] x19 x0)
 (.bi (qh0 (intOf (cellAt x19 x0 2)) (intOf (cellAt x19 x0 3)) (strOf (cellAt x19 x0 4)) (qaq (cellAt x19 x0 5)) 12) (fun y0=>
 .br (y0) (.at (.done 0)) (.at (.next ((IntKind.i64.wrap (x0 + 1),x1,x2,x3,x4,x5,x6,x7,x8,x9,x10,x11,x12,x13,x14,x15,x16,x17,x18,x19)))))
 (.no))
 (.no))
 (.at (.done 1))
def qhi:qdx -> DT (Rd qdx):=(fun v=>qkF v.1 v.2.1 v.2.2.1 v.2.2.2.1 v.2.2.2.2.1 v.2.2.2.2.2.1 v.2.2.2.2.2.2.1 v.2.2.2.2.2.2.2.1 v.2.2.2.2.2.2.2.2.1 v.2.2.2.2.2.2.2.2.2.1 v.2.2.2.2.2.2.2.2.2.2.1 v.2.2.2.2.2.2.2.2.2.2.2.1 v.2.2.2.2.2.2.2.2.2.2.2.2.1 v.2.2.2.2.2.2.2.2.2.2.2.2.2.1 v.2.2.2.2.2.2.2.2.2.2.2.2.2.2.1 v.2.2.2.2.2.2.2.2.2.2.2.2.2.2.2.1 v.2.2.2.2.2.2.2.2.2.2.2.2.2.2.2.2.1 v.2.2.2.2.2.2.2.2.2.2.2.2.2.2.2.2.2.1 v.2.2.2.2.2.2.2.2.2.2.2.2.2.2.2.2.2.2.1 v.2.2.2.2.2.2.2.2.2.2.2.2.2.2.2.2.2.2.2)
def qo4 (v:qdx):Option (Nat × qdx):=qay (qap (fun v=>(qhi v).ev) v)
theorem qsy (v):qo4 v = qap (fun v=>(qhi v).ev) v:=qaa _
def qB6:qbz:=LE (τ:=qdx) (hD qBq) (qo4) q09
theorem q0C:Go.Eng.Told IP (qae F11 1).1 (qae F11 1).2 (qB6):=lp (inferInstance:Inhabited qdx) (hs:=qBq) qhi qQT qsy
abbrev qG6:Type:=Bool
def qNf:PArgs:=⟨[.agg [.str,.str,.str,.int .i64,.int .i64,.int .i64,.int .i64,.view 2,.bool,.int .i64,.int .i64,.bool,.view 2,.bool,.int .i64,.int .i64,.bool,.view 10,.view 6]],[]⟩
def qOW:List PRes:=[⟨false,.bool,[]⟩]
def qmT (x0 x1 x2:List UInt8) (x3 x4:Int) (x5 x6:Int) (x7:List AV) (x8:Bool) (x9 x10:Int) (x11:Bool) (x12:List AV) (x13:Bool) (x14 x15:Int) (x16:Bool) (x17 x18:List AV):DT qG6:=
 .bi (br (decide ((x17.length:Int) > 12)) (some true) (some (decide ((x18.length:Int) > 12)))) (fun y0=>
 .bi (br y0 (some true) (some (decide ((x7.length:Int) > 12)))) (fun y1=>
 .bi (br y1 (some true) (some (decide ((x12.length:Int) > 12)))) (fun y2=>
 .br (y2)
 (.at (false))
 (.bi (pj 0 (qo3 (0,x0,x1,x2,x3,x4,x5,x6,x7,x8,x9,x10,x11,x12,x13,x14,x15,x16,x17,x18))) (fun y3=>
 .at (false))
 (.bi (pj 1 (qo3 (0,x0,x1,x2,x3,x4,x5,x6,x7,x8,x9,x10,x11,x12,x13,x14,x15,x16,x17,x18))) (fun y3=>
 .bi (pj 0
 (qo4
 (0,y3.2.1,y3.2.2.1,y3.2.2.2.1,y3.2.2.2.2.1,y3.2.2.2.2.2.1,y3.2.2.2.2.2.2.1,y3.2.2.2.2.2.2.2.1,
 y3.2.2.2.2.2.2.2.2.1,y3.2.2.2.2.2.2.2.2.2.1,y3.2.2.2.2.2.2.2.2.2.2.1,
 y3.2.2.2.2.2.2.2.2.2.2.2.1,y3.2.2.2.2.2.2.2.2.2.2.2.2.1,y3.2.2.2.2.2.2.2.2.2.2.2.2.2.1,
 y3.2.2.2.2.2.2.2.2.2.2.2.2.2.2.1,y3.2.2.2.2.2.2.2.2.2.2.2.2.2.2.2.1,
 y3.2.2.2.2.2.2.2.2.2.2.2.2.2.2.2.2.1,y3.2.2.2.2.2.2.2.2.2.2.2.2.2.2.2.2.2.1,
 y3.2.2.2.2.2.2.2.2.2.2.2.2.2.2.2.2.2.2.1,y3.2.2.2.2.2.2.2.2.2.2.2.2.2.2.2.2.2.2.2))) (fun y4=>
 .at (false))
 (.bi (pj 1
 (qo4
 (0,y3.2.1,y3.2.2.1,y3.2.2.2.1,y3.2.2.2.2.1,y3.2.2.2.2.2.1,y3.2.2.2.2.2.2.1,y3.2.2.2.2.2.2.2.1,
 y3.2.2.2.2.2.2.2.2.1,y3.2.2.2.2.2.2.2.2.2.1,y3.2.2.2.2.2.2.2.2.2.2.1,
 y3.2.2.2.2.2.2.2.2.2.2.2.1,y3.2.2.2.2.2.2.2.2.2.2.2.2.1,y3.2.2.2.2.2.2.2.2.2.2.2.2.2.1,
 y3.2.2.2.2.2.2.2.2.2.2.2.2.2.2.1,y3.2.2.2.2.2.2.2.2.2.2.2.2.2.2.2.1,
 y3.2.2.2.2.2.2.2.2.2.2.2.2.2.2.2.2.1,y3.2.2.2.2.2.2.2.2.2.2.2.2.2.2.2.2.2.1,
 y3.2.2.2.2.2.2.2.2.2.2.2.2.2.2.2.2.2.2.1,y3.2.2.2.2.2.2.2.2.2.2.2.2.2.2.2.2.2.2.2))) (fun y4=>
 .at (true))
 (.no)))
 (.no))))
 (.no))
 (.no))
 (.no)
def qor (x0 x1 x2:List UInt8) (x3 x4:Int) (x5 x6:Int) (x7:List AV) (x8:Bool) (x9 x10:Int) (x11:Bool) (x12:List AV) (x13:Bool) (x14 x15:Int) (x16:Bool) (x17 x18:List AV):Option qG6:=qay (qmT x0 x1 x2 x3 x4 x5 x6 x7 x8 x9 x10 x11 x12 x13 x14 x15 x16 x17 x18).ev
theorem qEg (x0 x1 x2 x3 x4 x5 x6 x7 x8 x9 x10 x11 x12 x13 x14 x15 x16 x17 x18):qor x0 x1 x2 x3 x4 x5 x6 x7 x8 x9 x10 x11 x12 x13 x14 x15 x16 x17 x18 = (qmT x0 x1 x2 x3 x4 x5 x6 x7 x8 x9 x10 x11 x12 x13 x14 x15 x16 x17 x18).ev:=qaa _
theorem qZb:FH IP 11 qNf qOW (k19 qor):=qag (F:=F11) (L:=[(1001100,qB5),(1001101,qB6)]) (t:=(k19 qmT)) qQT (qab (l:=[qae F11 0,qae F11 1]) (by kernel_rfl) ⟨qas (by kernel_rfl) q0B,qas (by kernel_rfl) q0C,trivial⟩) (by kernel_rfl) (fun v=>by kernel_rfl) (fun _=>qaa _)
def T2:Tab:=(11,FE qNf qOW (k19 qor)) :: T1
theorem q1R:qai IP T2:=⟨qaj qZb,qQT⟩
abbrev qGN:Type:=List UInt8 × List UInt8 × List UInt8 × Int × Int × Int × Int × List AV × Bool × Int × Int × Bool × List AV × Bool × Int × Int × Bool × List AV × List AV
def qMW:PArgs:=⟨[],[]⟩
def qOD:List PRes:=[⟨false,.agg [.str,.str,.str,.int .i64,.int .i64,.int .i64,.int .i64,.view 2,.bool,.int .i64,.int .i64,.bool,.view 2,.bool,.int .i64,.int .i64,.bool,.view 10,.view 6],[]⟩]
def qmA:DT qGN:=
 .at (([103,105,114,111],[69,85,82],[104,111,109,101],0,1,0,0,[],false,2,6,false,[],false,2,6,false,[AV.agg
 [AV.str [108,111,119],.int .i64 1,.int .i64 12,.int .i64 0,AV.str [],
 AV.view 4
 [AV.agg [.int .i64 4,.int .i64 0,AV.str [98,97,108,97,110,99,101],AV.view 4 []],
 AV.agg [.int .i64 2,.int .i64 100,AV.str [],AV.view 4 []]],
 .int .i64 2,.int .i64 5,AV.str [],AV.view 4 []]],[]))
def qod:Option qGN:=qay (qmA).ev
theorem qDY:qod = (qmA).ev:=qaa _
theorem qYR:FH IP 25 qMW qOD (fun _=>qod):=qag (F:=F25) (L:=[]) (t:=(fun _=>qmA)) q1R (qab (l:=[]) (by kernel_rfl) trivial) (by kernel_rfl) (fun v=>by kernel_rfl) (fun _=>qaa _)
def T3:Tab:=(25,FE qMW qOD (fun _=>qod)) :: T2
theorem qQU:qai IP T3:=⟨qaj qYR,q1R⟩
abbrev qes:Type:=(List UInt8 × List UInt8 × List UInt8 × List UInt8 × Int) ⊕ (List UInt8 × List UInt8 × List UInt8 × List UInt8 × Int × List AV)
def qKt:List PSt:=[⟨[(1000800,.junk),(1,.nils 2),(6,.agg [.str,.str,.str,.str]),(7,.int .i64)],[],0,0⟩,⟨[(1000800,.junk),(1,.own 0 0),(6,.agg [.str,.str,.str,.str]),(7,.int .i64)],[(0,.arr 2 false)],1,0⟩]
def qS1 (x0 x1:List UInt8) (x2 x3:List UInt8) (x4:Int):X × St:=(.exit 0,⟨[(1,.nils ⟨2,.nil⟩)],[],0,0⟩)
def qS2 (x0 x1:List UInt8) (x2 x3:List UInt8) (x4:Int) (x5:List AV):X × St:=(.exit 0,⟨[(1,.own 0 0 none)],[(0,.arr 2 x5 false)],1,0⟩)
def q42:List (qes -> X × St):=[fun w=>(k5 qS1) ((sl w)),fun w=>(k6 qS2) ((sr w))]
def qPr (x0 x1:List UInt8) (x2 x3:List UInt8) (x4:Int):DT (Rd qes):=
 .br (decide (x4 < 4))
 (.br (decide (x4 = Int.ofNat 0))
 (.at (.next ((.inr (x0,x1,x2,x3,IntKind.i64.wrap (x4 + 1),[AV.agg [AV.str x0,.int .i64 2]])))))
 (.br (decide (x4 = Int.ofNat 1))
 (.at (.next ((.inr (x0,x1,x2,x3,IntKind.i64.wrap (x4 + 1),[AV.agg [AV.str x1,.int .i64 2]])))))
 (.br (decide (x4 = Int.ofNat 2))
 (.at (.next ((.inr (x0,x1,x2,x3,IntKind.i64.wrap (x4 + 1),[AV.agg [AV.str x2,.int .i64 2]])))))
 (.br (decide (x4 = Int.ofNat 3)) (.at (.next ((.inr (x0,x1,x2,x3,IntKind.i64.wrap (x4 + 1),[AV.agg [AV.str x3,.int .i64 2]]))))) (.no)))))
 (.at (.done 0))
def qPs (x0 x1:List UInt8) (x2 x3:List UInt8) (x4:Int) (x5:List AV):DT (Rd qes):=
 .br (decide (x4 < 4))
 (.br (decide (x4 = Int.ofNat 0))
 (.br (room (x5.length + 1) 24) (.at (.next ((.inr (x0,x1,x2,x3,IntKind.i64.wrap (x4 + 1),x5 ++ [AV.agg [AV.str x0,.int .i64 2]]))))) (.no))
 (.br (decide (x4 = Int.ofNat 1))
 (.br (room (x5.length + 1) 24) (.at (.next ((.inr (x0,x1,x2,x3,IntKind.i64.wrap (x4 + 1),x5 ++ [AV.agg [AV.str x1,.int .i64 2]]))))) (.no))
 (.br (decide (x4 = Int.ofNat 2))
 (.br (room (x5.length + 1) 24) (.at (.next ((.inr (x0,x1,x2,x3,IntKind.i64.wrap (x4 + 1),x5 ++ [AV.agg [AV.str x2,.int .i64 2]]))))) (.no))
 (.br (decide (x4 = Int.ofNat 3))
 (.br (room (x5.length + 1) 24) (.at (.next ((.inr (x0,x1,x2,x3,IntKind.i64.wrap (x4 + 1),x5 ++ [AV.agg [AV.str x3,.int .i64 2]]))))) (.no))
 (.no)))))
 (.at (.done 1))
def qip:qes -> DT (Rd qes):=(Sum.elim (fun v=>qPr v.1 v.2.1 v.2.2.1 v.2.2.2.1 v.2.2.2.2) (fun v=>qPs v.1 v.2.1 v.2.2.1 v.2.2.2.1 v.2.2.2.2.1 v.2.2.2.2.2))
def qw0 (v:qes):Option (Nat × qes):=qay (qap (fun v=>(qip v).ev) v)
theorem qw1 (v):qw0 v = qap (fun v=>(qip v).ev) v:=qaa _
def qLd:qbz:=LE (τ:=qes) (hD qKt) (qw0) q42
theorem q4o:Go.Eng.Told IP (qae F8 0).1 (qae F8 0).2 (qLd):=qar (inferInstance:Inhabited qes) (hs:=qKt) (st:=qip) (L:=[]) qQU (qab (l:=[]) (by kernel_rfl) trivial) (qw1) (fun v=>match v with | (.inl v)=>by kernel_rfl | (.inr v)=>by kernel_rfl) (fun v=>match v with | (.inl v)=>by kernel_rfl | (.inr v)=>by kernel_rfl)
abbrev qet:Type:=(List UInt8 × List UInt8 × Int) ⊕ (List UInt8 × List UInt8 × Int × List AV)
def qKu:List PSt:=[⟨[(1000801,.junk),(1,.nils 2),(16,.agg [.str,.str]),(17,.int .i64)],[],0,0⟩,⟨[(1000801,.junk),(1,.own 0 0),(16,.agg [.str,.str]),(17,.int .i64)],[(0,.arr 2 false)],1,0⟩]
def qS3 (x0 x1:List UInt8) (x2:Int):X × St:=(.exit 2,⟨[(1,.nils ⟨2,.nil⟩)],[],0,0⟩)
def qS4 (x0 x1:List UInt8) (x2:Int) (x3:List AV):X × St:=(.exit 2,⟨[(1,.own 0 0 none)],[(0,.arr 2 x3 false)],1,0⟩)
def q43:List (qet -> X × St):=[fun w=>(k3 qS3) ((sl w)),fun w=>(k4 qS4) ((sr w))]
def qPt (x0 x1:List UInt8) (x2:Int):DT (Rd qet):=
 .br (decide (x2 < 2))
 (.br (decide (x2 = Int.ofNat 0))
 (.at (.next ((.inr (x0,x1,IntKind.i64.wrap (x2 + 1),[AV.agg [AV.str x0,.int .i64 1]])))))
 (.br (decide (x2 = Int.ofNat 1)) (.at (.next ((.inr (x0,x1,IntKind.i64.wrap (x2 + 1),[AV.agg [AV.str x1,.int .i64 1]]))))) (.no)))
 (.at (.done 0))
def qPu (x0 x1:List UInt8) (x2:Int) (x3:List AV):DT (Rd qet):=
 .br (decide (x2 < 2))
 (.br (decide (x2 = Int.ofNat 0))
 (.br (room (x3.length + 1) 24) (.at (.next ((.inr (x0,x1,IntKind.i64.wrap (x2 + 1),x3 ++ [AV.agg [AV.str x0,.int .i64 1]]))))) (.no))
 (.br (decide (x2 = Int.ofNat 1))
 (.br (room (x3.length + 1) 24) (.at (.next ((.inr (x0,x1,IntKind.i64.wrap (x2 + 1),x3 ++ [AV.agg [AV.str x1,.int .i64 1]]))))) (.no))
 (.no)))
 (.at (.done 1))
def qqy:qet -> DT (Rd qet):=(Sum.elim (fun v=>qPt v.1 v.2.1 v.2.2) (fun v=>qPu v.1 v.2.1 v.2.2.1 v.2.2.2))
def qo8 (v:qet):Option (Nat × qet):=qay (qap (fun v=>(qqy v).ev) v)
theorem qw2 (v):qo8 v = qap (fun v=>(qqy v).ev) v:=qaa _
def qLe:qbz:=LE (τ:=qet) (hD qKu) (qo8) q43
theorem q4p:Go.Eng.Told IP (qae F8 1).1 (qae F8 1).2 (qLe):=qar (inferInstance:Inhabited qet) (hs:=qKu) (st:=qqy) (L:=[]) qQU (qab (l:=[]) (by kernel_rfl) trivial) (qw2) (fun v=>match v with | (.inl v)=>by kernel_rfl | (.inr v)=>by kernel_rfl) (fun v=>match v with | (.inl v)=>by kernel_rfl | (.inr v)=>by kernel_rfl)
abbrev qFM:Type:=List AV
def qLW:PArgs:=⟨[],[]⟩
def qNC:List PRes:=[⟨false,.view 2,[]⟩]
def qlE:DT qFM:=
 .bi (pj 0 (qw0 (Sum.inl ([98,97,108,97,110,99,101],[108,111,119,101,115,116],[118,111,108,117,109,101],[97,109,111,117,110,116],0)))) (fun y0=>
 .bi (pj 0 (qo8 (Sum.inl ([99,111,117,110,116],[97,103,101],0)))) (fun y1=>
 .at ([AV.agg [AV.str [100,97,121],.int .i64 4]]))
 (.bi (pj 1 (qo8 (Sum.inl ([99,111,117,110,116],[97,103,101],0)))) (fun y1=>
 .br (room ((sr y1).2.2.2.length + 1) 24) (.at ((sr y1).2.2.2 ++ [AV.agg [AV.str [100,97,121],.int .i64 4]])) (.no))
 (.no)))
 (.bi (pj 1 (qw0 (Sum.inl ([98,97,108,97,110,99,101],[108,111,119,101,115,116],[118,111,108,117,109,101],[97,109,111,117,110,116],0)))) (fun y0=>
 .bi (pj 0 (qo8 (Sum.inr ([99,111,117,110,116],[97,103,101],0,(sr y0).2.2.2.2.2)))) (fun y1=>
 .at ([AV.agg [AV.str [100,97,121],.int .i64 4]]))
 (.bi (pj 1 (qo8 (Sum.inr ([99,111,117,110,116],[97,103,101],0,(sr y0).2.2.2.2.2)))) (fun y1=>
 .br (room ((sr y1).2.2.2.length + 1) 24) (.at ((sr y1).2.2.2 ++ [AV.agg [AV.str [100,97,121],.int .i64 4]])) (.no))
 (.no)))
 (.no))
def qfx:Option qFM:=qay (qlE).ev
theorem qC3:qfx = (qlE).ev:=qaa _
theorem qXF:FH IP 8 qLW qNC (fun _=>qfx):=qag (F:=F8) (L:=[(1000800,qLd),(1000801,qLe)]) (t:=(fun _=>qlE)) qQU (qab (l:=[qae F8 0,qae F8 1]) (by kernel_rfl) ⟨qas (by kernel_rfl) q4o,qas (by kernel_rfl) q4p,trivial⟩) (by kernel_rfl) (fun v=>by kernel_rfl) (fun _=>qaa _)
def T4:Tab:=(8,FE qLW qNC (fun _=>qfx)) :: T3
theorem qXs:qai IP T4:=⟨qaj qXF,qQU⟩
abbrev qfq:Type:=List UInt8 × List AV × Int × Int × List UInt8 × Int
def qKH:List PSt:=[⟨[(1005000,.junk),(1,.str),(4,.ref 0 0 0),(8,.view 2),(9,.int .i64),(10,.int .i64)],[(0,.box [.str,.int .i64] false)],1,0⟩]
def qTr (x0:List UInt8) (x1:List AV) (x2 x3:Int) (x4:List UInt8) (x5:Int):X × St:=(.ret,
 ⟨[(4,.ref 0 0 0),(5,.bool true)],[(0,.box [.str (strOf (cellAt x1 x3 0)),.int .i64 (intOf (cellAt x1 x3 1))] false)],1,0⟩)
def qTs (x0:List UInt8) (x1:List AV) (x2 x3:Int) (x4:List UInt8) (x5:Int):X × St:=(.exit 0,⟨[(4,.ref 0 0 0),(5,.junk)],[(0,.box [.str x4,.int .i64 x5] false)],1,0⟩)
def q5g:List (qfq -> X × St):=[(k6 qTr),(k6 qTs)]
def qqS (x0:List UInt8) (x1:List AV) (x2 x3:Int) (x4:List UInt8) (x5:Int):DT (Rd qfq):=
 .br (decide (x3 < x2))
 (.br (qaD [.str,.int .i64] x1 x3)
 (.br (strOf (cellAt x1 x3 0) == x0) (.at (.done 0)) (.at (.next ((x0,x1,x2,IntKind.i64.wrap (x3 + 1),x4,x5)))))
 (.no))
 (.at (.done 1))
def qqR:qfq -> DT (Rd qfq):=(fun v=>qqS v.1 v.2.1 v.2.2.1 v.2.2.2.1 v.2.2.2.2.1 v.2.2.2.2.2)
def qxh (v:qfq):Option (Nat × qfq):=qay (qap (fun v=>(qqR v).ev) v)
theorem qxi (v):qxh v = qap (fun v=>(qqR v).ev) v:=qaa _
def qLr:qbz:=LE (τ:=qfq) (hD qKH) (qxh) q5g
theorem q4C:Go.Eng.Told IP (qae F50 0).1 (qae F50 0).2 (qLr):=lp (inferInstance:Inhabited qfq) (hs:=qKH) qqR qXs qxi
abbrev qGs:Type:=List UInt8 × Int × Bool
def qMA:PArgs:=⟨[.view 2,.str],[]⟩
def qOg:List PRes:=[⟨false,.tup [.agg [.str,.int .i64],.bool],[]⟩]
def qmf (x0:List AV) (x1:List UInt8):DT qGs:=
 .bi (pj 0 (qxh (x1,x0,(x0.length:Int),0,[],0))) (fun y0=>
 .at ((strOf (cellAt y0.2.1 y0.2.2.2.1 0),intOf (cellAt y0.2.1 y0.2.2.2.1 1),true)))
 (.bi (pj 1 (qxh (x1,x0,(x0.length:Int),0,[],0))) (fun y0=>
 .at (([],0,false)))
 (.no))
def qnZ (x0:List AV) (x1:List UInt8):Option qGs:=qay (qmf x0 x1).ev
theorem qDC (x0 x1):qnZ x0 x1 = (qmf x0 x1).ev:=qaa _
theorem qYn:FH IP 50 qMA qOg (k2 qnZ):=qag (F:=F50) (L:=[(1005000,qLr)]) (t:=(k2 qmf)) qXs (qab (l:=[qae F50 0]) (by kernel_rfl) ⟨qas (by kernel_rfl) q4C,trivial⟩) (by kernel_rfl) (fun v=>by kernel_rfl) (fun _=>qaa _)
def T5:Tab:=(50,FE qMA qOg (k2 qnZ)) :: T4
theorem q1V:qai IP T5:=⟨qaj qYn,qXs⟩
abbrev qTK:Type:=Bool
def qVZ:PArgs:=⟨[.agg [.str,.view 1,.view 1],.ptr [.str]],[]⟩
def qWL:List PRes:=[⟨false,.bool,[]⟩]
def qu4 (x0:List UInt8) (x1 x2:List AV) (x3:List UInt8):DT qTK:=
 .at (x0 == x3)
def qwa (x0:List UInt8) (x1 x2:List AV) (x3:List UInt8):Option qTK:=qay (qu4 x0 x1 x2 x3).ev
theorem qJr (x0 x1 x2 x3):qwa x0 x1 x2 x3 = (qu4 x0 x1 x2 x3).ev:=qaa _
theorem q2r:FH IP 69 qVZ qWL (k4 qwa):=fh F69 (k4 qu4) q1V
def T6:Tab:=(69,FE qVZ qWL (k4 qwa)) :: T5
theorem qXt:qai IP T6:=⟨qaj q2r,q1V⟩
abbrev qiA:Type:=List AV × List UInt8 × Int × Int
def qVv:List PSt:=[⟨[(1006800,.junk),(0,.view 3),(1,.fn (.func 69) [.ptr [.str]]),(7,.int .i64),(8,.int .i64)],[],0,0⟩]
def q1g (x0:List AV) (x1:List UInt8) (x2 x3:Int):X × St:=(.ret,⟨[(4,.int .i64 x3)],[],0,0⟩)
def q1h (x0:List AV) (x1:List UInt8) (x2 x3:Int):X × St:=(.exit 0,⟨[(4,.junk)],[],0,0⟩)
def q9Q:List (qiA -> X × St):=[(k4 q1g),(k4 q1h)]
def quA (x0:List AV) (x1:List UInt8) (x2 x3:Int):DT (Rd qiA):=
 .br (decide (x3 < x2))
 (.br (qaD [.str,.slice 1,.slice 1] x0 x3)
 (.bi (qwa (strOf (cellAt x0 x3 0)) (qaq (cellAt x0 x3 1)) (qaq (cellAt x0 x3 2)) x1) (fun y0=>
 .br (y0) (.at (.done 0)) (.at (.next ((x0,x1,x2,IntKind.i64.wrap (x3 + 1))))))
 (.no))
 (.no))
 (.at (.done 1))
def qxX:qiA -> DT (Rd qiA):=(fun v=>quA v.1 v.2.1 v.2.2.1 v.2.2.2)
def qKN (v:qiA):Option (Nat × qiA):=qay (qap (fun v=>(qxX v).ev) v)
theorem qBD (v):qKN v = qap (fun v=>(qxX v).ev) v:=qaa _
def qVD:qbz:=LE (τ:=qiA) (hD qVv) (qKN) q9Q
theorem q9F:Go.Eng.Told IP (qae F68 0).1 (qae F68 0).2 (qVD):=lp (inferInstance:Inhabited qiA) (hs:=qVv) qxX qXt qBD
abbrev q1L:Type:=Int
def q3O:PArgs:=⟨[.view 3,.fn (.func 69) [.ptr [.str]]],[]⟩
def q3V:List PRes:=[⟨false,.int .i64,[]⟩]
def qCz (x0:List AV) (x1:List UInt8):DT q1L:=
 .bi (pj 0 (qKN (x0,x1,(x0.length:Int),0))) (fun y0=>
 .at (y0.2.2.2))
 (.bi (pj 1 (qKN (x0,x1,(x0.length:Int),0))) (fun y0=>
 .at (-1))
 (.no))
def qJN (x0:List AV) (x1:List UInt8):Option q1L:=qay (qCz x0 x1).ev
theorem qRw (x0 x1):qJN x0 x1 = (qCz x0 x1).ev:=qaa _
theorem q67:FH IP 68 q3O q3V (k2 qJN):=qag (F:=F68) (L:=[(1006800,qVD)]) (t:=(k2 qCz)) qXt (qab (l:=[qae F68 0]) (by kernel_rfl) ⟨qas (by kernel_rfl) q9F,trivial⟩) (by kernel_rfl) (fun v=>by kernel_rfl) (fun _=>qaa _)
def T7:Tab:=(68,FE q3O q3V (k2 qJN)) :: T6
theorem q1Y:qai IP T7:=⟨qaj q67,qXt⟩
abbrev qTV:Type:=List UInt8 × List AV × List AV × Bool
def qWb:PArgs:=⟨[.view 3,.str],[]⟩
def qWX:List PRes:=[⟨false,.tup [.agg [.str,.view 1,.view 1],.bool],[]⟩]
def qve (x0:List AV) (x1:List UInt8):DT qTV:=
 .bi (qJN x0 x1) (fun y0=>
 .br (decide (y0 < 0))
 (.at (([],[],[],false)))
 (.br (qaD [.str,.slice 1,.slice 1] x0 y0)
 (.br (decide ((qaq (cellAt x0 y0 1)).length = 0))
 (.br (decide ((qaq (cellAt x0 y0 2)).length = 0))
 (.at ((strOf (cellAt x0 y0 0),[],[],true)))
 (.br (decide ((qaq (cellAt x0 y0 2)).length ≠ 0) && decide ((qaq (cellAt x0 y0 2)).length * 8 <= lim))
 (.at ((strOf (cellAt x0 y0 0),[],qaq (cellAt x0 y0 2),true)))
 (.no)))
 (.br (decide ((qaq (cellAt x0 y0 1)).length ≠ 0) && decide ((qaq (cellAt x0 y0 1)).length * 8 <= lim))
 (.br (decide ((qaq (cellAt x0 y0 2)).length = 0))
 (.at ((strOf (cellAt x0 y0 0),qaq (cellAt x0 y0 1),[],true)))
 (.br (decide ((qaq (cellAt x0 y0 2)).length ≠ 0) && decide ((qaq (cellAt x0 y0 2)).length * 8 <= lim))
 (.at ((strOf (cellAt x0 y0 0),qaq (cellAt x0 y0 1),qaq (cellAt x0 y0 2),true)))
 (.no)))
 (.no)))
 (.no)))
 (.no)
def qwh (x0:List AV) (x1:List UInt8):Option qTV:=qay (qve x0 x1).ev
theorem qJC (x0 x1):qwh x0 x1 = (qve x0 x1).ev:=qaa _
theorem q2E:FH IP 51 qWb qWX (k2 qwh):=fh F51 (k2 qve) q1Y
def T8:Tab:=(51,FE qWb qWX (k2 qwh)) :: T7
theorem qXu:qai IP T8:=⟨qaj q2E,q1Y⟩
abbrev qff:Type:=List UInt8 × Int × Int
def qKv:List PSt:=[⟨[(1005200,.junk),(0,.str),(7,.int .i64),(8,.int .i64)],[],0,0⟩]
def qS5 (x0:List UInt8) (x1 x2:Int):X × St:=(.ret,⟨[(0,.str x0),(2,.bool false)],[],0,0⟩)
def qS6 (x0:List UInt8) (x1 x2:Int):X × St:=(.exit 0,⟨[(0,.str x0),(2,.junk)],[],0,0⟩)
def q44:List (qff -> X × St):=[(k3 qS5),(k3 qS6)]
def qqz (x0:List UInt8) (x1 x2:Int):DT (Rd qff):=
 .br (decide (x2 < x1))
 (.br (inB x0.length x2)
 (.bi (br (decide (qaO x0 x2 >= 97)) (some (decide (qaO x0 x2 <= 122))) (some false)) (fun y0=>
 .bi (br (!y0) (br (x2 == 0) (some true) (br (qaO x0 x2 != 95) (br (decide (qaO x0 x2 < 48)) (some true) (some (decide (qaO x0 x2 > 57)))) (some false))) (some false)) (fun y1=>
 .br (y1) (.at (.done 0)) (.at (.next ((x0,x1,IntKind.i64.wrap (x2 + 1))))))
 (.no))
 (.no))
 (.no))
 (.at (.done 1))
def qkL:qff -> DT (Rd qff):=(fun v=>qqz v.1 v.2.1 v.2.2)
def qw3 (v:qff):Option (Nat × qff):=qay (qap (fun v=>(qkL v).ev) v)
theorem qw4 (v):qw3 v = qap (fun v=>(qkL v).ev) v:=qaa _
def qLf:qbz:=LE (τ:=qff) (hD qKv) (qw3) q44
theorem q4q:Go.Eng.Told IP (qae F52 0).1 (qae F52 0).2 (qLf):=lp (inferInstance:Inhabited qff) (hs:=qKv) qkL qXu qw4
abbrev qFO:Type:=Bool
def qLY:PArgs:=⟨[.str],[]⟩
def qNE:List PRes:=[⟨false,.bool,[]⟩]
def qlG (x0:List UInt8):DT qFO:=
 .bi (pj 0 (qw3 (x0,(x0.length:Int),0))) (fun y0=>
 .at (false))
 (.bi (pj 1 (qw3 (x0,(x0.length:Int),0))) (fun y0=>
 .bi (br (decide ((y0.1.length:Int) >= 1)) (some (decide ((y0.1.length:Int) <= 16))) (some false)) (fun y1=>
 .at (y1))
 (.no))
 (.no))
def qhJ (x0:List UInt8):Option qFO:=qay (qlG x0).ev
theorem qC5 (x0):qhJ x0 = (qlG x0).ev:=qaa _
theorem qXH:FH IP 52 qLY qNE qhJ:=qag (F:=F52) (L:=[(1005200,qLf)]) (t:=qlG) qXu (qab (l:=[qae F52 0]) (by kernel_rfl) ⟨qas (by kernel_rfl) q4q,trivial⟩) (by kernel_rfl) (fun v=>by kernel_rfl) (fun _=>qaa _)
def T9:Tab:=(52,FE qLY qNE qhJ) :: T8
theorem q1Z:qai IP T9:=⟨qaj qXH,qXu⟩
abbrev qGm:Type:=Bool
def qMu:PArgs:=⟨[.int .i64],[]⟩
def qOa:List PRes:=[⟨false,.bool,[]⟩]
def qma (x0:Int):DT qGm:=
 .bi (br (decide (x0 >= 0)) (some (decide (x0 <= 73048))) (some false)) (fun y0=>
 .at (y0))
 (.no)
def qnV (x0:Int):Option qGm:=qay (qma x0).ev
theorem qDx (x0):qnV x0 = (qma x0).ev:=qaa _
theorem qYe:FH IP 53 qMu qOa qnV:=fh F53 qma q1Z
def T10:Tab:=(53,FE qMu qOa qnV) :: T9
theorem qUf:qai IP T10:=⟨qaj qYe,q1Z⟩
abbrev qFN:Type:=Int
def qLX:PArgs:=⟨[.agg [.str,.str,.str,.int .i64,.int .i64,.int .i64,.int .i64,.view 2,.bool,.int .i64,.int .i64,.bool,.view 2,.bool,.int .i64,.int .i64,.bool,.view 10,.view 6],.view 2,.view 3],[]⟩
def qND:List PRes:=[⟨false,.int .i64,[]⟩]
def qlF (x0 x1 x2:List UInt8) (x3 x4:Int) (x5 x6:Int) (x7:List AV) (x8:Bool) (x9 x10:Int) (x11:Bool) (x12:List AV) (x13:Bool) (x14 x15:Int) (x16:Bool) (x17 x18:List AV) (x19 x20:List AV):DT qFN:=
 .bi (qnZ x19 x1) (fun y0=>
 .bi (qwh x20 x2) (fun y1=>
 .bi (br (x4 == 1) (some true) (some (x4 == 3))) (fun y2=>
 .bi (br y2 (some true) (some (x4 == 6))) (fun y3=>
 .bi (br y3 (some true) (some (x4 == 12))) (fun y4=>
 .bi (qhJ x0) (fun y5=>
 .br (!y5)
 (.at (4))
 (.br (!y0.2.2)
 (.at (14))
 (.br (!y1.2.2.2)
 (.at (11))
 (.bi (qnV x3) (fun y6=>
 .bi (br (!y6) (some true) (some !y4)) (fun y7=>
 .bi (br y7 (some true) (some (decide (x5 < 0)))) (fun y8=>
 .bi (br y8 (some true) (some (decide (x5 > 1000000000000)))) (fun y9=>
 .bi (br y9 (some true) (some (decide (x6 < 0)))) (fun y10=>
 .bi (br y10 (some true) (some (decide (x6 > 1000000)))) (fun y11=>
 .br (y11) (.at (1)) (.at (0)))
 (.no))
 (.no))
 (.no))
 (.no))
 (.no))
 (.no)))))
 (.no))
 (.no))
 (.no))
 (.no))
 (.no))
 (.no)
def qnG (x0 x1 x2:List UInt8) (x3 x4:Int) (x5 x6:Int) (x7:List AV) (x8:Bool) (x9 x10:Int) (x11:Bool) (x12:List AV) (x13:Bool) (x14 x15:Int) (x16:Bool) (x17 x18:List AV) (x19 x20:List AV):Option qFN:=qay (qlF x0 x1 x2 x3 x4 x5 x6 x7 x8 x9 x10 x11 x12 x13 x14 x15 x16 x17 x18 x19 x20).ev
theorem qC4 (x0 x1 x2 x3 x4 x5 x6 x7 x8 x9 x10 x11 x12 x13 x14 x15 x16 x17 x18 x19 x20):qnG x0 x1 x2 x3 x4 x5 x6 x7 x8 x9 x10 x11 x12 x13 x14 x15 x16 x17 x18 x19 x20 = (qlF x0 x1 x2 x3 x4 x5 x6 x7 x8 x9 x10 x11 x12 x13 x14 x15 x16 x17 x18 x19 x20).ev:=qaa _
theorem qXG:FH IP 27 qLX qND (k21 qnG):=fh F27 (k21 qlF) qUf
def T11:Tab:=(27,FE qLX qND (k21 qnG)) :: T10
theorem qHG:qai IP T11:=⟨qaj qXG,qUf⟩
end
end Go.Proofs.H15p

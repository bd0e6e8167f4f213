/- Functions over plain data. Printed by a program of mine. -/
import Derived.Test.YthljpgljbpdmjaaGreatDoorE3
import Derived.Test.YthljpgljbpdmjaaGreatDoorIP15c
import Derived.KernelRfl
set_option linter.unusedVariables false
set_option linter.unusedSimpArgs false
set_option linter.unnecessarySimpa false
namespace Go.Proofs.H15c
open Go Go.Eng
set_option maxRecDepth 100000
noncomputable section
abbrev k2 {a0 a1 r : Type} (f : a0 → a1 → r) (v : a0 × a1) : r := f v.1 v.2
abbrev k3 {a0 a1 a2 r : Type} (f : a0 → a1 → a2 → r) (v : a0 × a1 × a2) : r := f v.1 v.2.1 v.2.2
abbrev k4 {a0 a1 a2 a3 r : Type} (f : a0 → a1 → a2 → a3 → r) (v : a0 × a1 × a2 × a3) : r := f v.1 v.2.1 v.2.2.1 v.2.2.2
abbrev k5 {a0 a1 a2 a3 a4 r : Type} (f : a0 → a1 → a2 → a3 → a4 → r) (v : a0 × a1 × a2 × a3 × a4) : r := f v.1 v.2.1 v.2.2.1 v.2.2.2.1 v.2.2.2.2
abbrev k6 {a0 a1 a2 a3 a4 a5 r : Type} (f : a0 → a1 → a2 → a3 → a4 → a5 → r) (v : a0 × a1 × a2 × a3 × a4 × a5) : r := f v.1 v.2.1 v.2.2.1 v.2.2.2.1 v.2.2.2.2.1 v.2.2.2.2.2
abbrev k7 {a0 a1 a2 a3 a4 a5 a6 r : Type} (f : a0 → a1 → a2 → a3 → a4 → a5 → a6 → r) (v : a0 × a1 × a2 × a3 × a4 × a5 × a6) : r := f v.1 v.2.1 v.2.2.1 v.2.2.2.1 v.2.2.2.2.1 v.2.2.2.2.2.1 v.2.2.2.2.2.2
abbrev k8 {a0 a1 a2 a3 a4 a5 a6 a7 r : Type} (f : a0 → a1 → a2 → a3 → a4 → a5 → a6 → a7 → r) (v : a0 × a1 × a2 × a3 × a4 × a5 × a6 × a7) : r := f v.1 v.2.1 v.2.2.1 v.2.2.2.1 v.2.2.2.2.1 v.2.2.2.2.2.1 v.2.2.2.2.2.2.1 v.2.2.2.2.2.2.2
abbrev k9 {a0 a1 a2 a3 a4 a5 a6 a7 a8 r : Type} (f : a0 → a1 → a2 → a3 → a4 → a5 → a6 → a7 → a8 → r) (v : a0 × a1 × a2 × a3 × a4 × a5 × a6 × a7 × a8) : r := f v.1 v.2.1 v.2.2.1 v.2.2.2.1 v.2.2.2.2.1 v.2.2.2.2.2.1 v.2.2.2.2.2.2.1 v.2.2.2.2.2.2.2.1 v.2.2.2.2.2.2.2.2
abbrev k10 {a0 a1 a2 a3 a4 a5 a6 a7 a8 a9 r : Type} (f : a0 → a1 → a2 → a3 → a4 → a5 → a6 → a7 → a8 → a9 → r) (v : a0 × a1 × a2 × a3 × a4 × a5 × a6 × a7 × a8 × a9) : r := f v.1 v.2.1 v.2.2.1 v.2.2.2.1 v.2.2.2.2.1 v.2.2.2.2.2.1 v.2.2.2.2.2.2.1 v.2.2.2.2.2.2.2.1 v.2.2.2.2.2.2.2.2.1 v.2.2.2.2.2.2.2.2.2
abbrev k12 {a0 a1 a2 a3 a4 a5 a6 a7 a8 a9 a10 a11 r : Type} (f : a0 → a1 → a2 → a3 → a4 → a5 → a6 → a7 → a8 → a9 → a10 → a11 → r) (v : a0 × a1 × a2 × a3 × a4 × a5 × a6 × a7 × a8 × a9 × a10 × a11) : r := f v.1 v.2.1 v.2.2.1 v.2.2.2.1 v.2.2.2.2.1 v.2.2.2.2.2.1 v.2.2.2.2.2.2.1 v.2.2.2.2.2.2.2.1 v.2.2.2.2.2.2.2.2.1 v.2.2.2.2.2.2.2.2.2.1 v.2.2.2.2.2.2.2.2.2.2.1 v.2.2.2.2.2.2.2.2.2.2.2
abbrev k19 {a0 a1 a2 a3 a4 a5 a6 a7 a8 a9 a10 a11 a12 a13 a14 a15 a16 a17 a18 r : Type} (f : a0 → a1 → a2 → a3 → a4 → a5 → a6 → a7 → a8 → a9 → a10 → a11 → a12 → a13 → a14 → a15 → a16 → a17 → a18 → r) (v : a0 × a1 × a2 × a3 × a4 × a5 × a6 × a7 × a8 × a9 × a10 × a11 × a12 × a13 × a14 × a15 × a16 × a17 × a18) : r := f v.1 v.2.1 v.2.2.1 v.2.2.2.1 v.2.2.2.2.1 v.2.2.2.2.2.1 v.2.2.2.2.2.2.1 v.2.2.2.2.2.2.2.1 v.2.2.2.2.2.2.2.2.1 v.2.2.2.2.2.2.2.2.2.1 v.2.2.2.2.2.2.2.2.2.2.1 v.2.2.2.2.2.2.2.2.2.2.2.1 v.2.2.2.2.2.2.2.2.2.2.2.2.1 v.2.2.2.2.2.2.2.2.2.2.2.2.2.1 v.2.2.2.2.2.2.2.2.2.2.2.2.2.2.1 v.2.2.2.2.2.2.2.2.2.2.2.2.2.2.2.1 v.2.2.2.2.2.2.2.2.2.2.2.2.2.2.2.2.1 v.2.2.2.2.2.2.2.2.2.2.2.2.2.2.2.2.2.1 v.2.2.2.2.2.2.2.2.2.2.2.2.2.2.2.2.2.2
abbrev k20 {a0 a1 a2 a3 a4 a5 a6 a7 a8 a9 a10 a11 a12 a13 a14 a15 a16 a17 a18 a19 r : Type} (f : a0 → a1 → a2 → a3 → a4 → a5 → a6 → a7 → a8 → a9 → a10 → a11 → a12 → a13 → a14 → a15 → a16 → a17 → a18 → a19 → r) (v : a0 × a1 × a2 × a3 × a4 × a5 × a6 × a7 × a8 × a9 × a10 × a11 × a12 × a13 × a14 × a15 × a16 × a17 × a18 × a19) : r := f v.1 v.2.1 v.2.2.1 v.2.2.2.1 v.2.2.2.2.1 v.2.2.2.2.2.1 v.2.2.2.2.2.2.1 v.2.2.2.2.2.2.2.1 v.2.2.2.2.2.2.2.2.1 v.2.2.2.2.2.2.2.2.2.1 v.2.2.2.2.2.2.2.2.2.2.1 v.2.2.2.2.2.2.2.2.2.2.2.1 v.2.2.2.2.2.2.2.2.2.2.2.2.1 v.2.2.2.2.2.2.2.2.2.2.2.2.2.1 v.2.2.2.2.2.2.2.2.2.2.2.2.2.2.1 v.2.2.2.2.2.2.2.2.2.2.2.2.2.2.2.1 v.2.2.2.2.2.2.2.2.2.2.2.2.2.2.2.2.1 v.2.2.2.2.2.2.2.2.2.2.2.2.2.2.2.2.2.1 v.2.2.2.2.2.2.2.2.2.2.2.2.2.2.2.2.2.2.1 v.2.2.2.2.2.2.2.2.2.2.2.2.2.2.2.2.2.2.2
abbrev k21 {a0 a1 a2 a3 a4 a5 a6 a7 a8 a9 a10 a11 a12 a13 a14 a15 a16 a17 a18 a19 a20 r : Type} (f : a0 → a1 → a2 → a3 → a4 → a5 → a6 → a7 → a8 → a9 → a10 → a11 → a12 → a13 → a14 → a15 → a16 → a17 → a18 → a19 → a20 → r) (v : a0 × a1 × a2 × a3 × a4 × a5 × a6 × a7 × a8 × a9 × a10 × a11 × a12 × a13 × a14 × a15 × a16 × a17 × a18 × a19 × a20) : r := f v.1 v.2.1 v.2.2.1 v.2.2.2.1 v.2.2.2.2.1 v.2.2.2.2.2.1 v.2.2.2.2.2.2.1 v.2.2.2.2.2.2.2.1 v.2.2.2.2.2.2.2.2.1 v.2.2.2.2.2.2.2.2.2.1 v.2.2.2.2.2.2.2.2.2.2.1 v.2.2.2.2.2.2.2.2.2.2.2.1 v.2.2.2.2.2.2.2.2.2.2.2.2.1 v.2.2.2.2.2.2.2.2.2.2.2.2.2.1 v.2.2.2.2.2.2.2.2.2.2.2.2.2.2.1 v.2.2.2.2.2.2.2.2.2.2.2.2.2.2.2.1 v.2.2.2.2.2.2.2.2.2.2.2.2.2.2.2.2.1 v.2.2.2.2.2.2.2.2.2.2.2.2.2.2.2.2.2.1 v.2.2.2.2.2.2.2.2.2.2.2.2.2.2.2.2.2.2.1 v.2.2.2.2.2.2.2.2.2.2.2.2.2.2.2.2.2.2.2.1 v.2.2.2.2.2.2.2.2.2.2.2.2.2.2.2.2.2.2.2.2
abbrev k22 {a0 a1 a2 a3 a4 a5 a6 a7 a8 a9 a10 a11 a12 a13 a14 a15 a16 a17 a18 a19 a20 a21 r : Type} (f : a0 → a1 → a2 → a3 → a4 → a5 → a6 → a7 → a8 → a9 → a10 → a11 → a12 → a13 → a14 → a15 → a16 → a17 → a18 → a19 → a20 → a21 → r) (v : a0 × a1 × a2 × a3 × a4 × a5 × a6 × a7 × a8 × a9 × a10 × a11 × a12 × a13 × a14 × a15 × a16 × a17 × a18 × a19 × a20 × a21) : r := f v.1 v.2.1 v.2.2.1 v.2.2.2.1 v.2.2.2.2.1 v.2.2.2.2.2.1 v.2.2.2.2.2.2.1 v.2.2.2.2.2.2.2.1 v.2.2.2.2.2.2.2.2.1 v.2.2.2.2.2.2.2.2.2.1 v.2.2.2.2.2.2.2.2.2.2.1 v.2.2.2.2.2.2.2.2.2.2.2.1 v.2.2.2.2.2.2.2.2.2.2.2.2.1 v.2.2.2.2.2.2.2.2.2.2.2.2.2.1 v.2.2.2.2.2.2.2.2.2.2.2.2.2.2.1 v.2.2.2.2.2.2.2.2.2.2.2.2.2.2.2.1 v.2.2.2.2.2.2.2.2.2.2.2.2.2.2.2.2.1 v.2.2.2.2.2.2.2.2.2.2.2.2.2.2.2.2.2.1 v.2.2.2.2.2.2.2.2.2.2.2.2.2.2.2.2.2.2.1 v.2.2.2.2.2.2.2.2.2.2.2.2.2.2.2.2.2.2.2.1 v.2.2.2.2.2.2.2.2.2.2.2.2.2.2.2.2.2.2.2.2.1 v.2.2.2.2.2.2.2.2.2.2.2.2.2.2.2.2.2.2.2.2.2
abbrev k30 {a0 a1 a2 a3 a4 a5 a6 a7 a8 a9 a10 a11 a12 a13 a14 a15 a16 a17 a18 a19 a20 a21 a22 a23 a24 a25 a26 a27 a28 a29 r : Type} (f : a0 → a1 → a2 → a3 → a4 → a5 → a6 → a7 → a8 → a9 → a10 → a11 → a12 → a13 → a14 → a15 → a16 → a17 → a18 → a19 → a20 → a21 → a22 → a23 → a24 → a25 → a26 → a27 → a28 → a29 → r) (v : a0 × a1 × a2 × a3 × a4 × a5 × a6 × a7 × a8 × a9 × a10 × a11 × a12 × a13 × a14 × a15 × a16 × a17 × a18 × a19 × a20 × a21 × a22 × a23 × a24 × a25 × a26 × a27 × a28 × a29) : r := f v.1 v.2.1 v.2.2.1 v.2.2.2.1 v.2.2.2.2.1 v.2.2.2.2.2.1 v.2.2.2.2.2.2.1 v.2.2.2.2.2.2.2.1 v.2.2.2.2.2.2.2.2.1 v.2.2.2.2.2.2.2.2.2.1 v.2.2.2.2.2.2.2.2.2.2.1 v.2.2.2.2.2.2.2.2.2.2.2.1 v.2.2.2.2.2.2.2.2.2.2.2.2.1 v.2.2.2.2.2.2.2.2.2.2.2.2.2.1 v.2.2.2.2.2.2.2.2.2.2.2.2.2.2.1 v.2.2.2.2.2.2.2.2.2.2.2.2.2.2.2.1 v.2.2.2.2.2.2.2.2.2.2.2.2.2.2.2.2.1 v.2.2.2.2.2.2.2.2.2.2.2.2.2.2.2.2.2.1 v.2.2.2.2.2.2.2.2.2.2.2.2.2.2.2.2.2.2.1 v.2.2.2.2.2.2.2.2.2.2.2.2.2.2.2.2.2.2.2.1 v.2.2.2.2.2.2.2.2.2.2.2.2.2.2.2.2.2.2.2.2.1 v.2.2.2.2.2.2.2.2.2.2.2.2.2.2.2.2.2.2.2.2.2.1 v.2.2.2.2.2.2.2.2.2.2.2.2.2.2.2.2.2.2.2.2.2.2.1 v.2.2.2.2.2.2.2.2.2.2.2.2.2.2.2.2.2.2.2.2.2.2.2.1 v.2.2.2.2.2.2.2.2.2.2.2.2.2.2.2.2.2.2.2.2.2.2.2.2.1 v.2.2.2.2.2.2.2.2.2.2.2.2.2.2.2.2.2.2.2.2.2.2.2.2.2.1 v.2.2.2.2.2.2.2.2.2.2.2.2.2.2.2.2.2.2.2.2.2.2.2.2.2.2.1 v.2.2.2.2.2.2.2.2.2.2.2.2.2.2.2.2.2.2.2.2.2.2.2.2.2.2.2.1 v.2.2.2.2.2.2.2.2.2.2.2.2.2.2.2.2.2.2.2.2.2.2.2.2.2.2.2.2.1 v.2.2.2.2.2.2.2.2.2.2.2.2.2.2.2.2.2.2.2.2.2.2.2.2.2.2.2.2.2
abbrev k38 {a0 a1 a2 a3 a4 a5 a6 a7 a8 a9 a10 a11 a12 a13 a14 a15 a16 a17 a18 a19 a20 a21 a22 a23 a24 a25 a26 a27 a28 a29 a30 a31 a32 a33 a34 a35 a36 a37 r : Type} (f : a0 → a1 → a2 → a3 → a4 → a5 → a6 → a7 → a8 → a9 → a10 → a11 → a12 → a13 → a14 → a15 → a16 → a17 → a18 → a19 → a20 → a21 → a22 → a23 → a24 → a25 → a26 → a27 → a28 → a29 → a30 → a31 → a32 → a33 → a34 → a35 → a36 → a37 → r) (v : a0 × a1 × a2 × a3 × a4 × a5 × a6 × a7 × a8 × a9 × a10 × a11 × a12 × a13 × a14 × a15 × a16 × a17 × a18 × a19 × a20 × a21 × a22 × a23 × a24 × a25 × a26 × a27 × a28 × a29 × a30 × a31 × a32 × a33 × a34 × a35 × a36 × a37) : r := f v.1 v.2.1 v.2.2.1 v.2.2.2.1 v.2.2.2.2.1 v.2.2.2.2.2.1 v.2.2.2.2.2.2.1 v.2.2.2.2.2.2.2.1 v.2.2.2.2.2.2.2.2.1 v.2.2.2.2.2.2.2.2.2.1 v.2.2.2.2.2.2.2.2.2.2.1 v.2.2.2.2.2.2.2.2.2.2.2.1 v.2.2.2.2.2.2.2.2.2.2.2.2.1 v.2.2.2.2.2.2.2.2.2.2.2.2.2.1 v.2.2.2.2.2.2.2.2.2.2.2.2.2.2.1 v.2.2.2.2.2.2.2.2.2.2.2.2.2.2.2.1 v.2.2.2.2.2.2.2.2.2.2.2.2.2.2.2.2.1 v.2.2.2.2.2.2.2.2.2.2.2.2.2.2.2.2.2.1 v.2.2.2.2.2.2.2.2.2.2.2.2.2.2.2.2.2.2.1 v.2.2.2.2.2.2.2.2.2.2.2.2.2.2.2.2.2.2.2.1 v.2.2.2.2.2.2.2.2.2.2.2.2.2.2.2.2.2.2.2.2.1 v.2.2.2.2.2.2.2.2.2.2.2.2.2.2.2.2.2.2.2.2.2.1 v.2.2.2.2.2.2.2.2.2.2.2.2.2.2.2.2.2.2.2.2.2.2.1 v.2.2.2.2.2.2.2.2.2.2.2.2.2.2.2.2.2.2.2.2.2.2.2.1 v.2.2.2.2.2.2.2.2.2.2.2.2.2.2.2.2.2.2.2.2.2.2.2.2.1 v.2.2.2.2.2.2.2.2.2.2.2.2.2.2.2.2.2.2.2.2.2.2.2.2.2.1 v.2.2.2.2.2.2.2.2.2.2.2.2.2.2.2.2.2.2.2.2.2.2.2.2.2.2.1 v.2.2.2.2.2.2.2.2.2.2.2.2.2.2.2.2.2.2.2.2.2.2.2.2.2.2.2.1 v.2.2.2.2.2.2.2.2.2.2.2.2.2.2.2.2.2.2.2.2.2.2.2.2.2.2.2.2.1 v.2.2.2.2.2.2.2.2.2.2.2.2.2.2.2.2.2.2.2.2.2.2.2.2.2.2.2.2.2.1 v.2.2.2.2.2.2.2.2.2.2.2.2.2.2.2.2.2.2.2.2.2.2.2.2.2.2.2.2.2.2.1 v.2.2.2.2.2.2.2.2.2.2.2.2.2.2.2.2.2.2.2.2.2.2.2.2.2.2.2.2.2.2.2.1 v.2.2.2.2.2.2.2.2.2.2.2.2.2.2.2.2.2.2.2.2.2.2.2.2.2.2.2.2.2.2.2.2.1 v.2.2.2.2.2.2.2.2.2.2.2.2.2.2.2.2.2.2.2.2.2.2.2.2.2.2.2.2.2.2.2.2.2.1 v.2.2.2.2.2.2.2.2.2.2.2.2.2.2.2.2.2.2.2.2.2.2.2.2.2.2.2.2.2.2.2.2.2.2.1 v.2.2.2.2.2.2.2.2.2.2.2.2.2.2.2.2.2.2.2.2.2.2.2.2.2.2.2.2.2.2.2.2.2.2.2.1 v.2.2.2.2.2.2.2.2.2.2.2.2.2.2.2.2.2.2.2.2.2.2.2.2.2.2.2.2.2.2.2.2.2.2.2.2.1 v.2.2.2.2.2.2.2.2.2.2.2.2.2.2.2.2.2.2.2.2.2.2.2.2.2.2.2.2.2.2.2.2.2.2.2.2.2
def T0 : Tab := [(152, qjT), (188, qgo), (191, qMV), (186, qiv 223), (200, qqE 223), (38, qim 2 16), (58, qim 4 56), (70, qim 1 8)]
theorem qOr : qan IP T0 := ⟨qUh, qUj, qUk, qUi, qUl, qV9, qWa, qWb, trivial⟩
abbrev qsY : Type := Bool
def qls : PArgs := ⟨[.agg [.int .i64, .int .i64, .str, .view 4], .int .i64], []⟩
def qlG : List PRes := [⟨false, .bool, []⟩]
abbrev qbV : Type := Int → Int → (List UInt8) → (List AV) → Int → Option qsY
def qoA (G_u152q : qbV) : Prop := FH IP 26 qls qlG (k5 G_u152q)
def qFL (G_u152q : qbV) : Tab := (26, FE qls qlG (k5 G_u152q)) :: T0
theorem qjG (G_u152q : qbV) (hG : qoA G_u152q) : qan IP (qFL G_u152q) := ⟨qam (hG), qOr⟩
abbrev qcK : Type := Int × Int × Int × Int × List UInt8 × List AV
def quX : List PSt := [⟨[(1002600, .junk), (1, .int .i64), (2, .ref 0 0 0), (5, .int .i64)], [(0, .box [.int .i64, .int .i64, .str, .view 4] false)], 1, 0⟩]
def qE3 (x0 x1 : Int) (x2 x3 : Int) (x4 : List UInt8) (x5 : List AV) : X × St := (X.ret, ⟨[(4, AV.bool true)], [], 0, 0⟩)
def qE4 (x0 x1 : Int) (x2 x3 : Int) (x4 : List UInt8) (x5 : List AV) : X × St := (X.exit 0, ⟨[(4, AV.junk)], [], 0, 0⟩)
def qNI : List (qcK → X × St) := [(k6 qE3), (k6 qE4)]
def qhZ (G_u152q : qbV) (x0 x1 : Int) (x2 x3 : Int) (x4 : List UInt8) (x5 : List AV) : DT (Rd qcK) :=
 .br (decide (x1 < (x5.length : Int)))
 (.br (qaS [CS.int IntKind.i64, CS.int IntKind.i64, CS.str, CS.slice 4] x5 x1)
 (.bi (G_u152q (intOf (cellAt x5 x1 0)) (intOf (cellAt x5 x1 1)) (strOf (cellAt x5 x1 2)) (qal (cellAt x5 x1 3)) (IntKind.i64.wrap (x0 - 1))) (fun y0 =>
 .br (y0) (.at (.done 0)) (.at (.next ((x0, IntKind.i64.wrap (x1 + 1), x2, x3, x4, x5)))))
 (.no))
 (.no))
 (.at (.done 1))
def qfB (G_u152q : qbV) : qcK → DT (Rd qcK) := (fun v => qhZ G_u152q v.1 v.2.1 v.2.2.1 v.2.2.2.1 v.2.2.2.2.1 v.2.2.2.2.2)
def qkT (G_u152q : qbV) (v : qcK) : Option (Nat × qcK) := qaF (qao (fun v => (qfB G_u152q v).ev) v)
theorem qnP (G_u152q : qbV) (v : qcK) : qkT G_u152q v = qao (fun v => (qfB G_u152q v).ev) v := qaa _
def qvt (G_u152q : qbV) : qb3 := LE (τ := qcK) (hD quX) (qkT G_u152q) qNI
theorem qNo (G_u152q : qbV) (hG : qoA G_u152q) : Go.Eng.Told IP (qae F26 0).1 (qae F26 0).2 (qvt G_u152q) := qaw (inferInstance : Inhabited qcK) (hs := quX) (st := qfB G_u152q) (L := []) (qjG G_u152q hG) (qad (l := []) (by kernel_rfl) trivial) (qnP G_u152q) (fun v => by kernel_rfl) (fun v => by kernel_rfl)
def qjk (G_u152q : qbV) (x0 x1 : Int) (x2 : List UInt8) (x3 : List AV) (x4 : Int) : DT qsY :=
 .bi (br (x4 == 0) (some true) (some (decide ((x3.length : Int) > 8)))) (fun y0 =>
 .bi (br y0 (some true) (some (decide ((x2.length : Int) > 40)))) (fun y1 =>
 .br (y1)
 (.at (true))
 (.bi (pj 0 (qkT G_u152q (x4, 0, x0, x1, x2, x3))) (fun y2 =>
 .at (true))
 (.bi (pj 1 (qkT G_u152q (x4, 0, x0, x1, x2, x3))) (fun y2 =>
 .at (false))
 (.no))))
 (.no))
 (.no)
def qcu : Nat → qbV
 | 0 => fun _ _ _ _ _ => none
 | n + 1 => fun x0 x1 x2 x3 x4 => (qjk ((qcu n)) x0 x1 x2 x3 x4).ev
def qgi (x0 x1 : Int) (x2 : List UInt8) (x3 : List AV) (x4 : Int) : Option qsY := qiE fun n => (qcu n) x0 x1 x2 x3 x4
theorem qnb : ∀ n, qoA ((qcu n))
 | 0 => (fun v y h => nomatch h)
 | n + 1 => have hG := qnb n
 qah (F := F26) (L := [(1002600, qvt ((qcu n)))]) (t := (k5 (qjk ((qcu n))))) (qjG ((qcu n)) hG) (qad (l := [qae F26 0]) (by kernel_rfl) ⟨qax (by kernel_rfl) (qNo ((qcu n)) hG), trivial⟩) (by kernel_rfl) (fun v => by kernel_rfl) (fun v => rfl)
theorem qMt : FH IP 26 qls qlG (k5 qgi) := qbL (p := qls) (rs := qlG) (s := fun n => (k5 ((qcu n)))) fun n => (qnb n)
def T1 : Tab := (26, FE qls qlG (k5 qgi)) :: T0
theorem qFz : qan IP T1 := ⟨qam qMt, qOr⟩
abbrev qck : Type := Int × List UInt8 × List UInt8 × List UInt8 × Int × Int × Int × Int × List AV × Bool × Int × Int × Bool × List AV × Bool × Int × Int × Bool × List AV × List AV
def qu3 : List PSt := [⟨[(1001100, .junk), (1, .ref 0 0 0), (3, .int .i64)], [(0, .box [.str, .str, .str, .int .i64, .int .i64, .int .i64, .int .i64, .view 2, .bool, .int .i64, .int .i64, .bool, .view 2, .bool, .int .i64, .int .i64, .bool, .view 10, .view 6] false)], 1, 0⟩]
def qFf (x0 : Int) (x1 x2 x3 : List UInt8) (x4 x5 : Int) (x6 x7 : Int) (x8 : List AV) (x9 : Bool) (x10 x11 : Int) (x12 : Bool) (x13 : List AV) (x14 : Bool) (x15 x16 : Int) (x17 : Bool) (x18 x19 : List AV) : X × St := (X.ret,
 ⟨[(1, AV.ref 0 0 0), (2, AV.bool false)], [(0,
 Blk.box
 [AV.str x1, AV.str x2, AV.str x3, AV.int IntKind.i64 x4, AV.int IntKind.i64 x5, AV.int IntKind.i64 x6, AV.int IntKind.i64 x7, AV.view 2 x8, AV.bool x9,
 AV.int IntKind.i64 x10, AV.int IntKind.i64 x11, AV.bool x12, AV.view 2 x13, AV.bool x14, AV.int IntKind.i64 x15, AV.int IntKind.i64 x16, AV.bool x17, AV.view 10 x18,
 AV.view 6 x19]
 false)], 1, 0⟩)
def qFg (x0 : Int) (x1 x2 x3 : List UInt8) (x4 x5 : Int) (x6 x7 : Int) (x8 : List AV) (x9 : Bool) (x10 x11 : Int) (x12 : Bool) (x13 : List AV) (x14 : Bool) (x15 x16 : Int) (x17 : Bool) (x18 x19 : List AV) : X × St := (X.exit 0,
 ⟨[(1, AV.ref 0 0 0), (2, AV.junk)], [(0,
 Blk.box
 [AV.str x1, AV.str x2, AV.str x3, AV.int IntKind.i64 x4, AV.int IntKind.i64 x5, AV.int IntKind.i64 x6, AV.int IntKind.i64 x7, AV.view 2 x8, AV.bool x9,
 AV.int IntKind.i64 x10, AV.int IntKind.i64 x11, AV.bool x12, AV.view 2 x13, AV.bool x14, AV.int IntKind.i64 x15, AV.int IntKind.i64 x16, AV.bool x17, AV.view 10 x18,
 AV.view 6 x19]
 false)], 1, 0⟩)
def qNO : List (qck → X × St) := [(k20 qFf), (k20 qFg)]
def qh5 (x0 : Int) (x1 x2 x3 : List UInt8) (x4 x5 : Int) (x6 x7 : Int) (x8 : List AV) (x9 : Bool) (x10 x11 : Int) (x12 : Bool) (x13 : List AV) (x14 : Bool) (x15 x16 : Int) (x17 : Bool) (x18 x19 : List AV) : DT (Rd qck) :=
 .br (decide (x0 < (x18.length : Int)))
 (.br (qaS [CS.str, CS.int IntKind.i64, CS.int IntKind.i64, CS.int IntKind.i64, CS.str, CS.slice 4, CS.int IntKind.i64, CS.int IntKind.i64, CS.str, CS.slice 4] x18 x0)
 (.bi (qgi (intOf (cellAt x18 x0 2)) (intOf (cellAt x18 x0 3)) (strOf (cellAt x18 x0 4)) (qal (cellAt x18 x0 5)) 12) (fun y0 =>
 .bi (br y0 (some true)
 (br (qaS [CS.str, CS.int IntKind.i64, CS.int IntKind.i64, CS.int IntKind.i64, CS.str, CS.slice 4, CS.int IntKind.i64, CS.int IntKind.i64, CS.str, CS.slice 4] x18 x0)
 (br (sm (qgi (intOf (cellAt x18 x0 6)) (intOf (cellAt x18 x0 7)) (strOf (cellAt x18 x0 8)) (qal (cellAt x18 x0 9)) 12))
 (some (gv (qgi (intOf (cellAt x18 x0 6)) (intOf (cellAt x18 x0 7)) (strOf (cellAt x18 x0 8)) (qal (cellAt x18 x0 9)) 12))) none)
 none)) (fun y1 =>
 .br (y1) (.at (.done 0)) (.at (.next ((IntKind.i64.wrap (x0 + 1), x1, x2, x3, x4, x5, x6, x7, x8, x9, x10, x11, x12, x13, x14, x15, x16, x17, x18, x19)))))
 (.no))
 (.no))
 (.no))
 (.at (.done 1))
def qfD : qck → DT (Rd qck) := (fun v => qh5 v.1 v.2.1 v.2.2.1 v.2.2.2.1 v.2.2.2.2.1 v.2.2.2.2.2.1 v.2.2.2.2.2.2.1 v.2.2.2.2.2.2.2.1 v.2.2.2.2.2.2.2.2.1 v.2.2.2.2.2.2.2.2.2.1 v.2.2.2.2.2.2.2.2.2.2.1 v.2.2.2.2.2.2.2.2.2.2.2.1 v.2.2.2.2.2.2.2.2.2.2.2.2.1 v.2.2.2.2.2.2.2.2.2.2.2.2.2.1 v.2.2.2.2.2.2.2.2.2.2.2.2.2.2.1 v.2.2.2.2.2.2.2.2.2.2.2.2.2.2.2.1 v.2.2.2.2.2.2.2.2.2.2.2.2.2.2.2.2.1 v.2.2.2.2.2.2.2.2.2.2.2.2.2.2.2.2.2.1 v.2.2.2.2.2.2.2.2.2.2.2.2.2.2.2.2.2.2.1 v.2.2.2.2.2.2.2.2.2.2.2.2.2.2.2.2.2.2.2)
def qkZ (v : qck) : Option (Nat × qck) := qaF (qao (fun v => (qfD v).ev) v)
theorem qnV (v : qck) : qkZ v = qao (fun v => (qfD v).ev) v := qaa _
def qvz : qb3 := LE (τ := qck) (hD qu3) (qkZ) qNO
theorem qNu : Go.Eng.Told IP (qae F11 0).1 (qae F11 0).2 (qvz) := qaw (inferInstance : Inhabited qck) (hs := qu3) (st := qfD) (L := []) qFz (qad (l := []) (by kernel_rfl) trivial) (qnV) (fun v => by kernel_rfl) (fun v => by kernel_rfl)
abbrev qcQ : Type := Int × List UInt8 × List UInt8 × List UInt8 × Int × Int × Int × Int × List AV × Bool × Int × Int × Bool × List AV × Bool × Int × Int × Bool × List AV × List AV
def qu4 : List PSt := [⟨[(1001101, .junk), (1, .ref 0 0 0), (4, .int .i64)], [(0, .box [.str, .str, .str, .int .i64, .int .i64, .int .i64, .int .i64, .view 2, .bool, .int .i64, .int .i64, .bool, .view 2, .bool, .int .i64, .int .i64, .bool, .view 10, .view 6] false)], 1, 0⟩]
def qFh (x0 : Int) (x1 x2 x3 : List UInt8) (x4 x5 : Int) (x6 x7 : Int) (x8 : List AV) (x9 : Bool) (x10 x11 : Int) (x12 : Bool) (x13 : List AV) (x14 : Bool) (x15 x16 : Int) (x17 : Bool) (x18 x19 : List AV) : X × St := (X.ret, ⟨[(2, AV.bool false)], [], 0, 0⟩)
def qFi (x0 : Int) (x1 x2 x3 : List UInt8) (x4 x5 : Int) (x6 x7 : Int) (x8 : List AV) (x9 : Bool) (x10 x11 : Int) (x12 : Bool) (x13 : List AV) (x14 : Bool) (x15 x16 : Int) (x17 : Bool) (x18 x19 : List AV) : X × St := (X.exit 2, ⟨[(2, AV.junk)], [], 0, 0⟩)
def qNP : List (qcQ → X × St) := [(k20 qFh), (k20 qFi)]
def qh6 (x0 : Int) (x1 x2 x3 : List UInt8) (x4 x5 : Int) (x6 x7 : Int) (x8 : List AV) (x9 : Bool) (x10 x11 : Int) (x12 : Bool) (x13 : List AV) (x14 : Bool) (x15 x16 : Int) (x17 : Bool) (x18 x19 : List AV) : DT (Rd qcQ) :=
 .br (decide (x0 < (x19.length : Int)))
 (.br (qaS [CS.str, CS.int IntKind.i64, CS.int IntKind.i64, CS.int IntKind.i64, CS.str, CS.slice 4] x19 x0)
 (.bi (qgi (intOf (cellAt x19 x0 2)) (intOf (cellAt x19 x0 3)) (strOf (cellAt x19 x0 4)) (qal (cellAt x19 x0 5)) 12) (fun y0 =>
 .br (y0) (.at (.done 0)) (.at (.next ((IntKind.i64.wrap (x0 + 1), x1, x2, x3, x4, x5, x6, x7, x8, x9, x10, x11, x12, x13, x14, x15, x16, x17, x18, x19)))))
 (.no))
 (.no))
 (.at (.done 1))
def qfE : qcQ → DT (Rd qcQ) := (fun v => qh6 v.1 v.2.1 v.2.2.1 v.2.2.2.1 v.2.2.2.2.1 v.2.2.2.2.2.1 v.2.2.2.2.2.2.1 v.2.2.2.2.2.2.2.1 v.2.2.2.2.2.2.2.2.1 v.2.2.2.2.2.2.2.2.2.1 v.2.2.2.2.2.2.2.2.2.2.1 v.2.2.2.2.2.2.2.2.2.2.2.1 v.2.2.2.2.2.2.2.2.2.2.2.2.1 v.2.2.2.2.2.2.2.2.2.2.2.2.2.1 v.2.2.2.2.2.2.2.2.2.2.2.2.2.2.1 v.2.2.2.2.2.2.2.2.2.2.2.2.2.2.2.1 v.2.2.2.2.2.2.2.2.2.2.2.2.2.2.2.2.1 v.2.2.2.2.2.2.2.2.2.2.2.2.2.2.2.2.2.1 v.2.2.2.2.2.2.2.2.2.2.2.2.2.2.2.2.2.2.1 v.2.2.2.2.2.2.2.2.2.2.2.2.2.2.2.2.2.2.2)
def qk3 (v : qcQ) : Option (Nat × qcQ) := qaF (qao (fun v => (qfE v).ev) v)
theorem qnW (v : qcQ) : qk3 v = qao (fun v => (qfE v).ev) v := qaa _
def qvA : qb3 := LE (τ := qcQ) (hD qu4) (qk3) qNP
theorem qNv : Go.Eng.Told IP (qae F11 1).1 (qae F11 1).2 (qvA) := qaw (inferInstance : Inhabited qcQ) (hs := qu4) (st := qfE) (L := []) qFz (qad (l := []) (by kernel_rfl) trivial) (qnW) (fun v => by kernel_rfl) (fun v => by kernel_rfl)
abbrev qy0 : Type := Bool
def qDv : PArgs := ⟨[.agg [.str, .str, .str, .int .i64, .int .i64, .int .i64, .int .i64, .view 2, .bool, .int .i64, .int .i64, .bool, .view 2, .bool, .int .i64, .int .i64, .bool, .view 10, .view 6]], []⟩
def qEh : List PRes := [⟨false, .bool, []⟩]
def qju (x0 x1 x2 : List UInt8) (x3 x4 : Int) (x5 x6 : Int) (x7 : List AV) (x8 : Bool) (x9 x10 : Int) (x11 : Bool) (x12 : List AV) (x13 : Bool) (x14 x15 : Int) (x16 : Bool) (x17 x18 : List AV) : DT qy0 :=
 .bi (br (decide ((x17.length : Int) > 12)) (some true) (some (decide ((x18.length : Int) > 12)))) (fun y0 =>
 .bi (br y0 (some true) (some (decide ((x7.length : Int) > 12)))) (fun y1 =>
 .bi (br y1 (some true) (some (decide ((x12.length : Int) > 12)))) (fun y2 =>
 .br (y2)
 (.at (false))
 (.bi (pj 0 (qkZ (0, x0, x1, x2, x3, x4, x5, x6, x7, x8, x9, x10, x11, x12, x13, x14, x15, x16, x17, x18))) (fun y3 =>
 .at (false))
 (.bi (pj 1 (qkZ (0, x0, x1, x2, x3, x4, x5, x6, x7, x8, x9, x10, x11, x12, x13, x14, x15, x16, x17, x18))) (fun y3 =>
 .bi (pj 0
 (qk3
 (0, y3.2.1, y3.2.2.1, y3.2.2.2.1, y3.2.2.2.2.1, y3.2.2.2.2.2.1, y3.2.2.2.2.2.2.1, y3.2.2.2.2.2.2.2.1,
 y3.2.2.2.2.2.2.2.2.1, y3.2.2.2.2.2.2.2.2.2.1, y3.2.2.2.2.2.2.2.2.2.2.1,
 y3.2.2.2.2.2.2.2.2.2.2.2.1, y3.2.2.2.2.2.2.2.2.2.2.2.2.1, y3.2.2.2.2.2.2.2.2.2.2.2.2.2.1,
 y3.2.2.2.2.2.2.2.2.2.2.2.2.2.2.1, y3.2.2.2.2.2.2.2.2.2.2.2.2.2.2.2.1,
 y3.2.2.2.2.2.2.2.2.2.2.2.2.2.2.2.2.1, y3.2.2.2.2.2.2.2.2.2.2.2.2.2.2.2.2.2.1,
 y3.2.2.2.2.2.2.2.2.2.2.2.2.2.2.2.2.2.2.1, y3.2.2.2.2.2.2.2.2.2.2.2.2.2.2.2.2.2.2.2))) (fun y4 =>
 .at (false))
 (.bi (pj 1
 (qk3
 (0, y3.2.1, y3.2.2.1, y3.2.2.2.1, y3.2.2.2.2.1, y3.2.2.2.2.2.1, y3.2.2.2.2.2.2.1, y3.2.2.2.2.2.2.2.1,
 y3.2.2.2.2.2.2.2.2.1, y3.2.2.2.2.2.2.2.2.2.1, y3.2.2.2.2.2.2.2.2.2.2.1,
 y3.2.2.2.2.2.2.2.2.2.2.2.1, y3.2.2.2.2.2.2.2.2.2.2.2.2.1, y3.2.2.2.2.2.2.2.2.2.2.2.2.2.1,
 y3.2.2.2.2.2.2.2.2.2.2.2.2.2.2.1, y3.2.2.2.2.2.2.2.2.2.2.2.2.2.2.2.1,
 y3.2.2.2.2.2.2.2.2.2.2.2.2.2.2.2.2.1, y3.2.2.2.2.2.2.2.2.2.2.2.2.2.2.2.2.2.1,
 y3.2.2.2.2.2.2.2.2.2.2.2.2.2.2.2.2.2.2.1, y3.2.2.2.2.2.2.2.2.2.2.2.2.2.2.2.2.2.2.2))) (fun y4 =>
 .at (true))
 (.no)))
 (.no))))
 (.no))
 (.no))
 (.no)
def qkr (x0 x1 x2 : List UInt8) (x3 x4 : Int) (x5 x6 : Int) (x7 : List AV) (x8 : Bool) (x9 x10 : Int) (x11 : Bool) (x12 : List AV) (x13 : Bool) (x14 x15 : Int) (x16 : Bool) (x17 x18 : List AV) : Option qy0 := qaF (qju x0 x1 x2 x3 x4 x5 x6 x7 x8 x9 x10 x11 x12 x13 x14 x15 x16 x17 x18).ev
theorem qw0 (x0 x1 x2 : List UInt8) (x3 x4 : Int) (x5 x6 : Int) (x7 : List AV) (x8 : Bool) (x9 x10 : Int) (x11 : Bool) (x12 : List AV) (x13 : Bool) (x14 x15 : Int) (x16 : Bool) (x17 x18 : List AV) : qkr x0 x1 x2 x3 x4 x5 x6 x7 x8 x9 x10 x11 x12 x13 x14 x15 x16 x17 x18 = (qju x0 x1 x2 x3 x4 x5 x6 x7 x8 x9 x10 x11 x12 x13 x14 x15 x16 x17 x18).ev := qaa _
theorem qMD : FH IP 11 qDv qEh (k19 qkr) := qah (F := F11) (L := [(1001100, qvz), (1001101, qvA)]) (t := (k19 qju)) qFz (qad (l := [qae F11 0, qae F11 1]) (by kernel_rfl) ⟨qax (by kernel_rfl) qNu, qax (by kernel_rfl) qNv, trivial⟩) (by kernel_rfl) (fun v => by kernel_rfl) (fun _ => qaa _)
def T2 : Tab := (11, FE qDv qEh (k19 qkr)) :: T1
theorem qOv : qan IP T2 := ⟨qam qMD, qFz⟩
abbrev qyQ : Type := List UInt8 × List UInt8 × List UInt8 × Int × Int × Int × Int × List AV × Bool × Int × Int × Bool × List AV × Bool × Int × Int × Bool × List AV × List AV
def qDl : PArgs := ⟨[], []⟩
def qD7 : List PRes := [⟨false, .agg [.str, .str, .str, .int .i64, .int .i64, .int .i64, .int .i64, .view 2, .bool, .int .i64, .int .i64, .bool, .view 2, .bool, .int .i64, .int .i64, .bool, .view 10, .view 6], []⟩]
def qjj : DT qyQ :=
 .at (([103, 105, 114, 111], [69, 85, 82], [104, 111, 109, 101], 0, 1, 0, 0, [], false, 2, 6, false, [], false, 2, 6, false, [AV.agg
 [AV.str [108, 111, 119], AV.int IntKind.i64 1, AV.int IntKind.i64 12, AV.int IntKind.i64 0, AV.str [],
 AV.view 4
 [AV.agg [AV.int IntKind.i64 4, AV.int IntKind.i64 0, AV.str [98, 97, 108, 97, 110, 99, 101], AV.view 4 []],
 AV.agg [AV.int IntKind.i64 2, AV.int IntKind.i64 100, AV.str [], AV.view 4 []]],
 AV.int IntKind.i64 2, AV.int IntKind.i64 5, AV.str [], AV.view 4 []]], []))
def qki : Option qyQ := qaF (qjj).ev
theorem qwQ : qki = (qjj).ev := qaa _
theorem qMs : FH IP 25 qDl qD7 (fun _ => qki) := qah (F := F25) (L := []) (t := (fun _ => qjj)) qOv (qad (l := []) (by kernel_rfl) trivial) (by kernel_rfl) (fun v => by kernel_rfl) (fun _ => qaa _)
def T3 : Tab := (25, FE qDl qD7 (fun _ => qki)) :: T2
theorem qFA : qan IP T3 := ⟨qam qMs, qOv⟩
abbrev qdv : Type := (List UInt8 × List UInt8 × List UInt8 × List UInt8 × Int) ⊕ (List UInt8 × List UInt8 × List UInt8 × List UInt8 × Int × List AV)
def qBw : List PSt := [⟨[(1000800, .junk), (1, .nils 2), (6, .agg [.str, .str, .str, .str]), (7, .int .i64)], [], 0, 0⟩, ⟨[(1000800, .junk), (1, .own 0 0), (6, .agg [.str, .str, .str, .str]), (7, .int .i64)], [(0, .arr 2 false)], 1, 0⟩]
def qHf (x0 x1 : List UInt8) (x2 x3 : List UInt8) (x4 : Int) : X × St := (X.exit 0, ⟨[(1, AV.nils ⟨2, NKd.nil⟩)], [], 0, 0⟩)
def qHg (x0 x1 : List UInt8) (x2 x3 : List UInt8) (x4 : Int) (x5 : List AV) : X × St := (X.exit 0, ⟨[(1, AV.own 0 0 none)], [(0, Blk.arr 2 x5 false)], 1, 0⟩)
def qRq : List (qdv → X × St) := [fun w => (k5 qHf) ((sl w)), fun w => (k6 qHg) ((sr w))]
def qEy (x0 x1 : List UInt8) (x2 x3 : List UInt8) (x4 : Int) : DT (Rd qdv) :=
 .br (decide (x4 < 4))
 (.br (decide (x4 = Int.ofNat 0))
 (.at (.next ((.inr (x0, x1, x2, x3, IntKind.i64.wrap (x4 + 1), [AV.agg [AV.str x0, AV.int IntKind.i64 2]])))))
 (.br (decide (x4 = Int.ofNat 1))
 (.at (.next ((.inr (x0, x1, x2, x3, IntKind.i64.wrap (x4 + 1), [AV.agg [AV.str x1, AV.int IntKind.i64 2]])))))
 (.br (decide (x4 = Int.ofNat 2))
 (.at (.next ((.inr (x0, x1, x2, x3, IntKind.i64.wrap (x4 + 1), [AV.agg [AV.str x2, AV.int IntKind.i64 2]])))))
 (.br (decide (x4 = Int.ofNat 3)) (.at (.next ((.inr (x0, x1, x2, x3, IntKind.i64.wrap (x4 + 1), [AV.agg [AV.str x3, AV.int IntKind.i64 2]]))))) (.no)))))
 (.at (.done 0))
def qEz (x0 x1 : List UInt8) (x2 x3 : List UInt8) (x4 : Int) (x5 : List AV) : DT (Rd qdv) :=
 .br (decide (x4 < 4))
 (.br (decide (x4 = Int.ofNat 0))
 (.br (room (x5.length + 1) 24) (.at (.next ((.inr (x0, x1, x2, x3, IntKind.i64.wrap (x4 + 1), x5 ++ [AV.agg [AV.str x0, AV.int IntKind.i64 2]]))))) (.no))
 (.br (decide (x4 = Int.ofNat 1))
 (.br (room (x5.length + 1) 24) (.at (.next ((.inr (x0, x1, x2, x3, IntKind.i64.wrap (x4 + 1), x5 ++ [AV.agg [AV.str x1, AV.int IntKind.i64 2]]))))) (.no))
 (.br (decide (x4 = Int.ofNat 2))
 (.br (room (x5.length + 1) 24) (.at (.next ((.inr (x0, x1, x2, x3, IntKind.i64.wrap (x4 + 1), x5 ++ [AV.agg [AV.str x2, AV.int IntKind.i64 2]]))))) (.no))
 (.br (decide (x4 = Int.ofNat 3))
 (.br (room (x5.length + 1) 24) (.at (.next ((.inr (x0, x1, x2, x3, IntKind.i64.wrap (x4 + 1), x5 ++ [AV.agg [AV.str x3, AV.int IntKind.i64 2]]))))) (.no))
 (.no)))))
 (.at (.done 1))
def qgA : qdv → DT (Rd qdv) := (Sum.elim (fun v => qEy v.1 v.2.1 v.2.2.1 v.2.2.2.1 v.2.2.2.2) (fun v => qEz v.1 v.2.1 v.2.2.1 v.2.2.2.1 v.2.2.2.2.1 v.2.2.2.2.2))
def qrz (v : qdv) : Option (Nat × qdv) := qaF (qao (fun v => (qgA v).ev) v)
theorem qrA (v : qdv) : qrz v = qao (fun v => (qgA v).ev) v := qaa _
def qCe : qb3 := LE (τ := qdv) (hD qBw) (qrz) qRq
theorem qQQ : Go.Eng.Told IP (qae F8 0).1 (qae F8 0).2 (qCe) := qaw (inferInstance : Inhabited qdv) (hs := qBw) (st := qgA) (L := []) qFA (qad (l := []) (by kernel_rfl) trivial) (qrA) (fun v => match v with | (.inl v) => by kernel_rfl | (.inr v) => by kernel_rfl) (fun v => match v with | (.inl v) => by kernel_rfl | (.inr v) => by kernel_rfl)
abbrev qdw : Type := (List UInt8 × List UInt8 × Int) ⊕ (List UInt8 × List UInt8 × Int × List AV)
def qBx : List PSt := [⟨[(1000801, .junk), (1, .nils 2), (16, .agg [.str, .str]), (17, .int .i64)], [], 0, 0⟩, ⟨[(1000801, .junk), (1, .own 0 0), (16, .agg [.str, .str]), (17, .int .i64)], [(0, .arr 2 false)], 1, 0⟩]
def qHh (x0 x1 : List UInt8) (x2 : Int) : X × St := (X.exit 2, ⟨[(1, AV.nils ⟨2, NKd.nil⟩)], [], 0, 0⟩)
def qHi (x0 x1 : List UInt8) (x2 : Int) (x3 : List AV) : X × St := (X.exit 2, ⟨[(1, AV.own 0 0 none)], [(0, Blk.arr 2 x3 false)], 1, 0⟩)
def qRr : List (qdw → X × St) := [fun w => (k3 qHh) ((sl w)), fun w => (k4 qHi) ((sr w))]
def qEA (x0 x1 : List UInt8) (x2 : Int) : DT (Rd qdw) :=
 .br (decide (x2 < 2))
 (.br (decide (x2 = Int.ofNat 0))
 (.at (.next ((.inr (x0, x1, IntKind.i64.wrap (x2 + 1), [AV.agg [AV.str x0, AV.int IntKind.i64 1]])))))
 (.br (decide (x2 = Int.ofNat 1)) (.at (.next ((.inr (x0, x1, IntKind.i64.wrap (x2 + 1), [AV.agg [AV.str x1, AV.int IntKind.i64 1]]))))) (.no)))
 (.at (.done 0))
def qEB (x0 x1 : List UInt8) (x2 : Int) (x3 : List AV) : DT (Rd qdw) :=
 .br (decide (x2 < 2))
 (.br (decide (x2 = Int.ofNat 0))
 (.br (room (x3.length + 1) 24) (.at (.next ((.inr (x0, x1, IntKind.i64.wrap (x2 + 1), x3 ++ [AV.agg [AV.str x0, AV.int IntKind.i64 1]]))))) (.no))
 (.br (decide (x2 = Int.ofNat 1))
 (.br (room (x3.length + 1) 24) (.at (.next ((.inr (x0, x1, IntKind.i64.wrap (x2 + 1), x3 ++ [AV.agg [AV.str x1, AV.int IntKind.i64 1]]))))) (.no))
 (.no)))
 (.at (.done 1))
def qml : qdw → DT (Rd qdw) := (Sum.elim (fun v => qEA v.1 v.2.1 v.2.2) (fun v => qEB v.1 v.2.1 v.2.2.1 v.2.2.2))
def qk6 (v : qdw) : Option (Nat × qdw) := qaF (qao (fun v => (qml v).ev) v)
theorem qrB (v : qdw) : qk6 v = qao (fun v => (qml v).ev) v := qaa _
def qCf : qb3 := LE (τ := qdw) (hD qBx) (qk6) qRr
theorem qQR : Go.Eng.Told IP (qae F8 1).1 (qae F8 1).2 (qCf) := qaw (inferInstance : Inhabited qdw) (hs := qBx) (st := qml) (L := []) qFA (qad (l := []) (by kernel_rfl) trivial) (qrB) (fun v => match v with | (.inl v) => by kernel_rfl | (.inr v) => by kernel_rfl) (fun v => match v with | (.inl v) => by kernel_rfl | (.inr v) => by kernel_rfl)
abbrev qIm : Type := List AV
def qKx : PArgs := ⟨[], []⟩
def qLm : List PRes := [⟨false, .view 2, []⟩]
def qqf : DT qIm :=
 .bi (pj 0 (qrz (Sum.inl ([98, 97, 108, 97, 110, 99, 101], [108, 111, 119, 101, 115, 116], [118, 111, 108, 117, 109, 101], [97, 109, 111, 117, 110, 116], 0)))) (fun y0 =>
 .bi (pj 0 (qk6 (Sum.inl ([99, 111, 117, 110, 116], [97, 103, 101], 0)))) (fun y1 =>
 .at ([AV.agg [AV.str [100, 97, 121], AV.int IntKind.i64 4]]))
 (.bi (pj 1 (qk6 (Sum.inl ([99, 111, 117, 110, 116], [97, 103, 101], 0)))) (fun y1 =>
 .br (room ((sr y1).2.2.2.length + 1) 24) (.at ((sr y1).2.2.2 ++ [AV.agg [AV.str [100, 97, 121], AV.int IntKind.i64 4]])) (.no))
 (.no)))
 (.bi (pj 1 (qrz (Sum.inl ([98, 97, 108, 97, 110, 99, 101], [108, 111, 119, 101, 115, 116], [118, 111, 108, 117, 109, 101], [97, 109, 111, 117, 110, 116], 0)))) (fun y0 =>
 .bi (pj 0 (qk6 (Sum.inr ([99, 111, 117, 110, 116], [97, 103, 101], 0, (sr y0).2.2.2.2.2)))) (fun y1 =>
 .at ([AV.agg [AV.str [100, 97, 121], AV.int IntKind.i64 4]]))
 (.bi (pj 1 (qk6 (Sum.inr ([99, 111, 117, 110, 116], [97, 103, 101], 0, (sr y0).2.2.2.2.2)))) (fun y1 =>
 .br (room ((sr y1).2.2.2.length + 1) 24) (.at ((sr y1).2.2.2 ++ [AV.agg [AV.str [100, 97, 121], AV.int IntKind.i64 4]])) (.no))
 (.no)))
 (.no))
def qip : Option qIm := qaF (qqf).ev
theorem qAW : qip = (qqf).ev := qaa _
theorem qPt : FH IP 8 qKx qLm (fun _ => qip) := qah (F := F8) (L := [(1000800, qCe), (1000801, qCf)]) (t := (fun _ => qqf)) qFA (qad (l := [qae F8 0, qae F8 1]) (by kernel_rfl) ⟨qax (by kernel_rfl) qQQ, qax (by kernel_rfl) qQR, trivial⟩) (by kernel_rfl) (fun v => by kernel_rfl) (fun _ => qaa _)
def T4 : Tab := (8, FE qKx qLm (fun _ => qip)) :: T3
theorem qLH : qan IP T4 := ⟨qam qPt, qFA⟩
abbrev qef : Type := List UInt8 × List AV × Int × Int × List UInt8 × Int
def qBF : List PSt := [⟨[(1005000, .junk), (1, .str), (4, .ref 0 0 0), (8, .view 2), (9, .int .i64), (10, .int .i64)], [(0, .box [.str, .int .i64] false)], 1, 0⟩]
def qHt (x0 : List UInt8) (x1 : List AV) (x2 x3 : Int) (x4 : List UInt8) (x5 : Int) : X × St := (X.ret,
 ⟨[(4, AV.ref 0 0 0), (5, AV.bool true)], [(0, Blk.box [AV.str (strOf (cellAt x1 x3 0)), AV.int IntKind.i64 (intOf (cellAt x1 x3 1))] false)], 1, 0⟩)
def qHu (x0 : List UInt8) (x1 : List AV) (x2 x3 : Int) (x4 : List UInt8) (x5 : Int) : X × St := (X.exit 0, ⟨[(4, AV.ref 0 0 0), (5, AV.junk)], [(0, Blk.box [AV.str x4, AV.int IntKind.i64 x5] false)], 1, 0⟩)
def qRz : List (qef → X × St) := [(k6 qHt), (k6 qHu)]
def qmx (x0 : List UInt8) (x1 : List AV) (x2 x3 : Int) (x4 : List UInt8) (x5 : Int) : DT (Rd qef) :=
 .br (decide (x3 < x2))
 (.br (qaS [CS.str, CS.int IntKind.i64] x1 x3)
 (.br (strOf (cellAt x1 x3 0) == x0) (.at (.done 0)) (.at (.next ((x0, x1, x2, IntKind.i64.wrap (x3 + 1), x4, x5)))))
 (.no))
 (.at (.done 1))
def qmw : qef → DT (Rd qef) := (fun v => qmx v.1 v.2.1 v.2.2.1 v.2.2.2.1 v.2.2.2.2.1 v.2.2.2.2.2)
def qrL (v : qef) : Option (Nat × qef) := qaF (qao (fun v => (qmw v).ev) v)
theorem qrM (v : qef) : qrL v = qao (fun v => (qmw v).ev) v := qaa _
def qCn : qb3 := LE (τ := qef) (hD qBF) (qrL) qRz
theorem qQZ : Go.Eng.Told IP (qae F50 0).1 (qae F50 0).2 (qCn) := qaw (inferInstance : Inhabited qef) (hs := qBF) (st := qmw) (L := []) qLH (qad (l := []) (by kernel_rfl) trivial) (qrM) (fun v => by kernel_rfl) (fun v => by kernel_rfl)
abbrev qyz : Type := List UInt8 × Int × Bool
def qC6 : PArgs := ⟨[.view 2, .str], []⟩
def qDS : List PRes := [⟨false, .tup [.agg [.str, .int .i64], .bool], []⟩]
def qi3 (x0 : List AV) (x1 : List UInt8) : DT qyz :=
 .bi (pj 0 (qrL (x1, x0, (x0.length : Int), 0, [], 0))) (fun y0 =>
 .at ((strOf (cellAt y0.2.1 y0.2.2.2.1 0), intOf (cellAt y0.2.1 y0.2.2.2.1 1), true)))
 (.bi (pj 1 (qrL (x1, x0, (x0.length : Int), 0, [], 0))) (fun y0 =>
 .at (([], 0, false)))
 (.no))
def qj5 (x0 : List AV) (x1 : List UInt8) : Option qyz := qaF (qi3 x0 x1).ev
theorem qwB (x0 : List AV) (x1 : List UInt8) : qj5 x0 x1 = (qi3 x0 x1).ev := qaa _
theorem qL7 : FH IP 50 qC6 qDS (k2 qj5) := qah (F := F50) (L := [(1005000, qCn)]) (t := (k2 qi3)) qLH (qad (l := [qae F50 0]) (by kernel_rfl) ⟨qax (by kernel_rfl) qQZ, trivial⟩) (by kernel_rfl) (fun v => by kernel_rfl) (fun _ => qaa _)
def T5 : Tab := (50, FE qC6 qDS (k2 qj5)) :: T4
theorem qOz : qan IP T5 := ⟨qam qL7, qLH⟩
abbrev qHZ : Type := Bool
def qJ9 : PArgs := ⟨[.agg [.str, .view 1, .view 1], .ptr [.str]], []⟩
def qKY : List PRes := [⟨false, .bool, []⟩]
def qpR (x0 : List UInt8) (x1 x2 : List AV) (x3 : List UInt8) : DT qHZ :=
 .at (x0 == x3)
def qqS (x0 : List UInt8) (x1 x2 : List AV) (x3 : List UInt8) : Option qHZ := qaF (qpR x0 x1 x2 x3).ev
theorem qAw (x0 : List UInt8) (x1 x2 : List AV) (x3 : List UInt8) : qqS x0 x1 x2 x3 = (qpR x0 x1 x2 x3).ev := qaa _
theorem qO2 : FH IP 69 qJ9 qKY (k4 qqS) := qah (F := F69) (L := []) (t := (k4 qpR)) qOz (qad (l := []) (by kernel_rfl) trivial) (by kernel_rfl) (fun v => by kernel_rfl) (fun _ => qaa _)
def T6 : Tab := (69, FE qJ9 qKY (k4 qqS)) :: T5
theorem qLI : qan IP T6 := ⟨qam qO2, qOz⟩
abbrev qgM : Type := List AV × List UInt8 × Int × Int
def qJJ : List PSt := [⟨[(1006800, .junk), (0, .view 3), (1, .fn (.func 69) [.ptr [.str]]), (7, .int .i64), (8, .int .i64)], [], 0, 0⟩]
def qNW (x0 : List AV) (x1 : List UInt8) (x2 x3 : Int) : X × St := (X.ret, ⟨[(4, AV.int IntKind.i64 x3)], [], 0, 0⟩)
def qNX (x0 : List AV) (x1 : List UInt8) (x2 x3 : Int) : X × St := (X.exit 0, ⟨[(4, AV.junk)], [], 0, 0⟩)
def qUA : List (qgM → X × St) := [(k4 qNW), (k4 qNX)]
def qpp (x0 : List AV) (x1 : List UInt8) (x2 x3 : Int) : DT (Rd qgM) :=
 .br (decide (x3 < x2))
 (.br (qaS [CS.str, CS.slice 1, CS.slice 1] x0 x3)
 (.bi (qqS (strOf (cellAt x0 x3 0)) (qal (cellAt x0 x3 1)) (qal (cellAt x0 x3 2)) x1) (fun y0 =>
 .br (y0) (.at (.done 0)) (.at (.next ((x0, x1, x2, IntKind.i64.wrap (x3 + 1))))))
 (.no))
 (.no))
 (.at (.done 1))
def qsB : qgM → DT (Rd qgM) := (fun v => qpp v.1 v.2.1 v.2.2.1 v.2.2.2)
def qBT (v : qgM) : Option (Nat × qgM) := qaF (qao (fun v => (qsB v).ev) v)
theorem qvg (v : qgM) : qBT v = qao (fun v => (qsB v).ev) v := qaa _
def qJQ : qb3 := LE (τ := qgM) (hD qJJ) (qBT) qUA
theorem qUq : Go.Eng.Told IP (qae F68 0).1 (qae F68 0).2 (qJQ) := qaw (inferInstance : Inhabited qgM) (hs := qJJ) (st := qsB) (L := []) qLI (qad (l := []) (by kernel_rfl) trivial) (qvg) (fun v => by kernel_rfl) (fun v => by kernel_rfl)
abbrev qOo : Type := Int
def qQo : PArgs := ⟨[.view 3, .fn (.func 69) [.ptr [.str]]], []⟩
def qQu : List PRes := [⟨false, .int .i64, []⟩]
def qv3 (x0 : List AV) (x1 : List UInt8) : DT qOo :=
 .bi (pj 0 (qBT (x0, x1, (x0.length : Int), 0))) (fun y0 =>
 .at (y0.2.2.2))
 (.bi (pj 1 (qBT (x0, x1, (x0.length : Int), 0))) (fun y0 =>
 .at (-1))
 (.no))
def qAV (x0 : List AV) (x1 : List UInt8) : Option qOo := qaF (qv3 x0 x1).ev
theorem qF7 (x0 : List AV) (x1 : List UInt8) : qAV x0 x1 = (qv3 x0 x1).ev := qaa _
theorem qSK : FH IP 68 qQo qQu (k2 qAV) := qah (F := F68) (L := [(1006800, qJQ)]) (t := (k2 qv3)) qLI (qad (l := [qae F68 0]) (by kernel_rfl) ⟨qax (by kernel_rfl) qUq, trivial⟩) (by kernel_rfl) (fun v => by kernel_rfl) (fun _ => qaa _)
def T7 : Tab := (68, FE qQo qQu (k2 qAV)) :: T6
theorem qOC : qan IP T7 := ⟨qam qSK, qLI⟩
abbrev qH5 : Type := List UInt8 × List AV × List AV × Bool
def qKg : PArgs := ⟨[.view 3, .str], []⟩
def qK5 : List PRes := [⟨false, .tup [.agg [.str, .view 1, .view 1], .bool], []⟩]
def qpY (x0 : List AV) (x1 : List UInt8) : DT qH5 :=
 .bi (qAV x0 x1) (fun y0 =>
 .br (decide (y0 < 0))
 (.at (([], [], [], false)))
 (.br (qaS [CS.str, CS.slice 1, CS.slice 1] x0 y0)
 (.br (decide ((qal (cellAt x0 y0 1)).length = 0))
 (.br (decide ((qal (cellAt x0 y0 2)).length = 0))
 (.at ((strOf (cellAt x0 y0 0), [], [], true)))
 (.br (decide ((qal (cellAt x0 y0 2)).length ≠ 0) && decide ((qal (cellAt x0 y0 2)).length * 8 ≤ lim))
 (.at ((strOf (cellAt x0 y0 0), [], qal (cellAt x0 y0 2), true)))
 (.no)))
 (.br (decide ((qal (cellAt x0 y0 1)).length ≠ 0) && decide ((qal (cellAt x0 y0 1)).length * 8 ≤ lim))
 (.br (decide ((qal (cellAt x0 y0 2)).length = 0))
 (.at ((strOf (cellAt x0 y0 0), qal (cellAt x0 y0 1), [], true)))
 (.br (decide ((qal (cellAt x0 y0 2)).length ≠ 0) && decide ((qal (cellAt x0 y0 2)).length * 8 ≤ lim))
 (.at ((strOf (cellAt x0 y0 0), qal (cellAt x0 y0 1), qal (cellAt x0 y0 2), true)))
 (.no)))
 (.no)))
 (.no)))
 (.no)
def qqW (x0 : List AV) (x1 : List UInt8) : Option qH5 := qaF (qpY x0 x1).ev
theorem qAD (x0 : List AV) (x1 : List UInt8) : qqW x0 x1 = (qpY x0 x1).ev := qaa _
theorem qPa : FH IP 51 qKg qK5 (k2 qqW) := qah (F := F51) (L := []) (t := (k2 qpY)) qOC (qad (l := []) (by kernel_rfl) trivial) (by kernel_rfl) (fun v => by kernel_rfl) (fun _ => qaa _)
def T8 : Tab := (51, FE qKg qK5 (k2 qqW)) :: T7
theorem qLJ : qan IP T8 := ⟨qam qPa, qOC⟩
abbrev qd8 : Type := List UInt8 × Int × Int
def qBy : List PSt := [⟨[(1005200, .junk), (0, .str), (7, .int .i64), (8, .int .i64)], [], 0, 0⟩]
def qHj (x0 : List UInt8) (x1 x2 : Int) : X × St := (X.ret, ⟨[(0, AV.str x0), (2, AV.bool false)], [], 0, 0⟩)
def qHk (x0 : List UInt8) (x1 x2 : Int) : X × St := (X.exit 0, ⟨[(0, AV.str x0), (2, AV.junk)], [], 0, 0⟩)
def qRs : List (qd8 → X × St) := [(k3 qHj), (k3 qHk)]
def qmm (x0 : List UInt8) (x1 x2 : Int) : DT (Rd qd8) :=
 .br (decide (x2 < x1))
 (.br (inB x0.length x2)
 (.bi (br (decide (qaC x0 x2 ≥ 97)) (some (decide (qaC x0 x2 ≤ 122))) (some false)) (fun y0 =>
 .bi (br (!y0) (br (x2 == 0) (some true) (br (qaC x0 x2 != 95) (br (decide (qaC x0 x2 < 48)) (some true) (some (decide (qaC x0 x2 > 57)))) (some false))) (some false)) (fun y1 =>
 .br (y1) (.at (.done 0)) (.at (.next ((x0, x1, IntKind.i64.wrap (x2 + 1))))))
 (.no))
 (.no))
 (.no))
 (.at (.done 1))
def qic : qd8 → DT (Rd qd8) := (fun v => qmm v.1 v.2.1 v.2.2)
def qrC (v : qd8) : Option (Nat × qd8) := qaF (qao (fun v => (qic v).ev) v)
theorem qrD (v : qd8) : qrC v = qao (fun v => (qic v).ev) v := qaa _
def qCg : qb3 := LE (τ := qd8) (hD qBy) (qrC) qRs
theorem qQS : Go.Eng.Told IP (qae F52 0).1 (qae F52 0).2 (qCg) := qaw (inferInstance : Inhabited qd8) (hs := qBy) (st := qic) (L := []) qLJ (qad (l := []) (by kernel_rfl) trivial) (qrD) (fun v => by kernel_rfl) (fun v => by kernel_rfl)
abbrev qIo : Type := Bool
def qKz : PArgs := ⟨[.str], []⟩
def qLo : List PRes := [⟨false, .bool, []⟩]
def qqh (x0 : List UInt8) : DT qIo :=
 .bi (pj 0 (qrC (x0, (x0.length : Int), 0))) (fun y0 =>
 .at (false))
 (.bi (pj 1 (qrC (x0, (x0.length : Int), 0))) (fun y0 =>
 .bi (br (decide ((y0.1.length : Int) ≥ 1)) (some (decide ((y0.1.length : Int) ≤ 16))) (some false)) (fun y1 =>
 .at (y1))
 (.no))
 (.no))
def qky (x0 : List UInt8) : Option qIo := qaF (qqh x0).ev
theorem qAY (x0 : List UInt8) : qky x0 = (qqh x0).ev := qaa _
theorem qPv : FH IP 52 qKz qLo qky := qah (F := F52) (L := [(1005200, qCg)]) (t := qqh) qLJ (qad (l := [qae F52 0]) (by kernel_rfl) ⟨qax (by kernel_rfl) qQS, trivial⟩) (by kernel_rfl) (fun v => by kernel_rfl) (fun _ => qaa _)
def T9 : Tab := (52, FE qKz qLo qky) :: T8
theorem qOD : qan IP T9 := ⟨qam qPv, qLJ⟩
abbrev qyx : Type := Bool
def qC4 : PArgs := ⟨[.int .i64], []⟩
def qDQ : List PRes := [⟨false, .bool, []⟩]
def qi1 (x0 : Int) : DT qyx :=
 .bi (br (decide (x0 ≥ 0)) (some (decide (x0 ≤ 73048))) (some false)) (fun y0 =>
 .at (y0))
 (.no)
def qj2 (x0 : Int) : Option qyx := qaF (qi1 x0).ev
theorem qwz (x0 : Int) : qj2 x0 = (qi1 x0).ev := qaa _
theorem qL2 : FH IP 53 qC4 qDQ qj2 := qah (F := F53) (L := []) (t := qi1) qOD (qad (l := []) (by kernel_rfl) trivial) (by kernel_rfl) (fun v => by kernel_rfl) (fun _ => qaa _)
def T10 : Tab := (53, FE qC4 qDQ qj2) :: T9
theorem qIy : qan IP T10 := ⟨qam qL2, qOD⟩
abbrev qIn : Type := Int
def qKy : PArgs := ⟨[.agg [.str, .str, .str, .int .i64, .int .i64, .int .i64, .int .i64, .view 2, .bool, .int .i64, .int .i64, .bool, .view 2, .bool, .int .i64, .int .i64, .bool, .view 10, .view 6], .view 2, .view 3], []⟩
def qLn : List PRes := [⟨false, .int .i64, []⟩]
def qqg (x0 x1 x2 : List UInt8) (x3 x4 : Int) (x5 x6 : Int) (x7 : List AV) (x8 : Bool) (x9 x10 : Int) (x11 : Bool) (x12 : List AV) (x13 : Bool) (x14 x15 : Int) (x16 : Bool) (x17 x18 : List AV) (x19 x20 : List AV) : DT qIn :=
 .bi (qj5 x19 x1) (fun y0 =>
 .bi (qqW x20 x2) (fun y1 =>
 .bi (br (x4 == 1) (some true) (some (x4 == 3))) (fun y2 =>
 .bi (br y2 (some true) (some (x4 == 6))) (fun y3 =>
 .bi (br y3 (some true) (some (x4 == 12))) (fun y4 =>
 .bi (qky x0) (fun y5 =>
 .br (!y5)
 (.at (4))
 (.br (!y0.2.2)
 (.at (14))
 (.br (!y1.2.2.2)
 (.at (11))
 (.bi (qj2 x3) (fun y6 =>
 .bi (br (!y6) (some true) (some !y4)) (fun y7 =>
 .bi (br y7 (some true) (some (decide (x5 < 0)))) (fun y8 =>
 .bi (br y8 (some true) (some (decide (x5 > 1000000000000)))) (fun y9 =>
 .bi (br y9 (some true) (some (decide (x6 < 0)))) (fun y10 =>
 .bi (br y10 (some true) (some (decide (x6 > 1000000)))) (fun y11 =>
 .br (y11) (.at (1)) (.at (0)))
 (.no))
 (.no))
 (.no))
 (.no))
 (.no))
 (.no)))))
 (.no))
 (.no))
 (.no))
 (.no))
 (.no))
 (.no)
def qq2 (x0 x1 x2 : List UInt8) (x3 x4 : Int) (x5 x6 : Int) (x7 : List AV) (x8 : Bool) (x9 x10 : Int) (x11 : Bool) (x12 : List AV) (x13 : Bool) (x14 x15 : Int) (x16 : Bool) (x17 x18 : List AV) (x19 x20 : List AV) : Option qIn := qaF (qqg x0 x1 x2 x3 x4 x5 x6 x7 x8 x9 x10 x11 x12 x13 x14 x15 x16 x17 x18 x19 x20).ev
theorem qAX (x0 x1 x2 : List UInt8) (x3 x4 : Int) (x5 x6 : Int) (x7 : List AV) (x8 : Bool) (x9 x10 : Int) (x11 : Bool) (x12 : List AV) (x13 : Bool) (x14 x15 : Int) (x16 : Bool) (x17 x18 : List AV) (x19 x20 : List AV) : qq2 x0 x1 x2 x3 x4 x5 x6 x7 x8 x9 x10 x11 x12 x13 x14 x15 x16 x17 x18 x19 x20 = (qqg x0 x1 x2 x3 x4 x5 x6 x7 x8 x9 x10 x11 x12 x13 x14 x15 x16 x17 x18 x19 x20).ev := qaa _
theorem qPu : FH IP 27 qKy qLn (k21 qq2) := qah (F := F27) (L := []) (t := (k21 qqg)) qIy (qad (l := []) (by kernel_rfl) trivial) (by kernel_rfl) (fun v => by kernel_rfl) (fun _ => qaa _)
def T11 : Tab := (27, FE qKy qLn (k21 qq2)) :: T10
theorem qzl : qan IP T11 := ⟨qam qPu, qIy⟩
abbrev qeg : Type := List AV × List AV × Int × Int
def qBG : List PSt := [⟨[(1005400, .junk), (0, .view 2), (8, .view 2), (9, .int .i64), (10, .int .i64)], [], 0, 0⟩]
def qHv (x0 x1 : List AV) (x2 x3 : Int) : X × St := (X.ret, ⟨[(0, AV.view 2 x0), (2, AV.int IntKind.i64 1)], [], 0, 0⟩)
def qHw (x0 x1 : List AV) (x2 x3 : Int) : X × St := (X.exit 0, ⟨[(0, AV.view 2 x0), (2, AV.junk)], [], 0, 0⟩)
def qRA : List (qeg → X × St) := [(k4 qHv), (k4 qHw)]
def qmy (x0 x1 : List AV) (x2 x3 : Int) : DT (Rd qeg) :=
 .br (decide (x3 < x2))
 (.br (qaS [CS.int IntKind.i64, CS.int IntKind.i64] x1 x3)
 (.bi (br (decide (intOf (cellAt x1 x3 0) < 0)) (some true) (some (decide (intOf (cellAt x1 x3 0) > 1000000000000)))) (fun y0 =>
 .bi (br y0 (some true) (some (decide (intOf (cellAt x1 x3 1) < 0)))) (fun y1 =>
 .bi (br y1 (some true) (some (decide (intOf (cellAt x1 x3 1) > 1000000)))) (fun y2 =>
 .br (y2) (.at (.done 0)) (.at (.next ((x0, x1, x2, IntKind.i64.wrap (x3 + 1))))))
 (.no))
 (.no))
 (.no))
 (.no))
 (.at (.done 1))
def qif : qeg → DT (Rd qeg) := (fun v => qmy v.1 v.2.1 v.2.2.1 v.2.2.2)
def qrN (v : qeg) : Option (Nat × qeg) := qaF (qao (fun v => (qif v).ev) v)
theorem qrO (v : qeg) : qrN v = qao (fun v => (qif v).ev) v := qaa _
def qCo : qb3 := LE (τ := qeg) (hD qBG) (qrN) qRA
theorem qQ0 : Go.Eng.Told IP (qae F54 0).1 (qae F54 0).2 (qCo) := qaw (inferInstance : Inhabited qeg) (hs := qBG) (st := qif) (L := []) qzl (qad (l := []) (by kernel_rfl) trivial) (qrO) (fun v => by kernel_rfl) (fun v => by kernel_rfl)
abbrev qIq : Type := Int
def qKB : PArgs := ⟨[.agg [.int .i64, .int .i64]], []⟩
def qLq : List PRes := [⟨false, .int .i64, []⟩]
def qqj (x0 x1 : Int) : DT qIq :=
 .at (x0)
def qnx (x0 x1 : Int) : Option qIq := qaF (qqj x0 x1).ev
theorem qA0 (x0 x1 : Int) : qnx x0 x1 = (qqj x0 x1).ev := qaa _
theorem qPx : FH IP 72 qKB qLq (k2 qnx) := qah (F := F72) (L := []) (t := (k2 qqj)) qzl (qad (l := []) (by kernel_rfl) trivial) (by kernel_rfl) (fun v => by kernel_rfl) (fun _ => qaa _)
def T12 : Tab := (72, FE qKB qLq (k2 qnx)) :: T11
theorem qzm : qan IP T12 := ⟨qam qPx, qzl⟩
end
end Go.Proofs.H15c

/- Code: what the printed functions that compile come to. -/
import Derived.Test.YtigchhcddgibhaaGreatDoorX13Typ
import Derived.Test.YtigchhcddgibhaaGreatDoorCdB
set_option linter.unusedVariables false
set_option linter.unusedSimpArgs false
set_option linter.unnecessarySimpa false
namespace Go.Proofs.H13
open Go Go.Eng Go.Tk
set_option maxRecDepth 20000
theorem q2Y (a b : List In) : EN a ++ EN b = EN (a ++ b) := by simp
theorem q2Z (a b c : Int) : [AV.agg [.int .i64 a, .int .i64 b, .int .i64 c]] = EN [⟨a, b, c⟩] := rfl
theorem q99 {n : Nat} (h : n ≤ 1000000) (b : Nat) (hb : b ≤ 1000000) : room n b = true := qdj (by
 have := Nat.mul_le_mul h hb
 simp only [lim]; omega)
theorem q1H {n : Nat} (h : n ≤ 1000000) : IntKind.i64.wrap (((n + 1 : Nat) : Int) - 1) = (n : Int) := by
 rw [wrap64 (by omega) (by omega)]; omega
theorem q7d (X : List In) (i : In) (Y : List In) (v : Int) : qgK (EN (X ++ i :: Y)) X.length 1 [.int .i64 v] = EN (X ++ ⟨i.op, v, i.n⟩ :: Y) := by
 have h : X.length < (X ++ i :: Y).length := by simp
 rw [qjB (y := (⟨i.op, v, i.n⟩ : In)) h]
 ·simp
 ·have : (X ++ i :: Y)[X.length] = i := by simp
  rw [this]; rfl
theorem q67 (X : List In) (i : In) (Y : List In) : okS (EN (X ++ i :: Y)) X.length 1 1 = true := by
 have h : X.length < (X ++ i :: Y).length := by simp
 rw [qpv h]; rfl
theorem qbL {out : List In} (h : out.length ≤ 100000) (a b c : Int) (V : List AV) : qer a b c V (EN out) = some ((out.length : Int), V, EN (out ++ [⟨a, b, c⟩])) := by
 rw [qJu, quR, q2Z, q2Y]
 simp only [List.length_map, q99 (show out.length + 1 ≤ 1000000 by omega) 24 (by omega), ev_br, ev_at, cond_true, List.length_append, List.length_singleton, q1H (show out.length ≤ 1000000 by omega)]
theorem qrL (a b c : Int) (V : List AV) : qjj a b c V = some (0, V, EN [⟨a, b, c⟩]) := by
 rw [qJv, quT]; rfl
theorem qra {vs : List Va} (hl : vs.length ≤ big) (o n : Int) (s : Bs) (A : List AV) : qK0 (EV vs, o, n, s, A, (vs.length : Int), 0) = some (qgJ (fun v => v.name == s) (fun _ => 0) 1 vs, EV vs, o, n, s, A, (vs.length : Int), ((vs.findIdx (fun v => v.name == s) : Nat) : Int)) := by
 rw [qBA]
 refine qaK (hd := fun i => (EV vs, o, n, s, A, (vs.length : Int), (i : Int))) _ (fun _ => 0) 1 (fun i hn => ?_) ?_
 ·simp only [qxN, quv, qau hn, okV hn, qv0 hn, qJs, quP, ev_br, ev_at, ev_bi_some, cond_true, qao hn hl]
  cases (vs[i].name == s) <;> rfl
 ·simp [qxN, quv]
theorem qia {vs : List Va} (hl : vs.length ≤ big) (o n : Int) (s : Bs) (A : List AV) : qEL (EV vs) o n s A = some (qVO vs s) := by
 rw [qRJ, qCD, List.length_map, qra hl, qaM, qVO]
 cases vs.any (fun v => v.name == s) <;> rfl
theorem q2J {x : Ex} {l : List Ex} : qaB ksX (EX (x :: l)) 0 = true := okX (l := x :: l) (n := 0) (by simp)
theorem q68 {x y : Ex} {l : List Ex} : qaB ksX (EX (x :: y :: l)) 1 = true := okX (l := x :: y :: l) (n := 1) (by simp)
theorem zb3 {x y z : Ex} {l : List Ex} : qaB ksX (EX (x :: y :: z :: l)) 2 = true := okX (l := x :: y :: z :: l) (n := 2) (by simp)
section
variable {x y z : Ex} {l : List Ex}
theorem q00 : intOf (cellAt (EX (x :: l)) 0 0) = x.op := qx0 (l := x :: l) (n := 0) (by simp)
theorem q01 : intOf (cellAt (EX (x :: l)) 0 1) = x.num := qx1 (l := x :: l) (n := 0) (by simp)
theorem q02 : strOf (cellAt (EX (x :: l)) 0 2) = x.txt := qx2 (l := x :: l) (n := 0) (by simp)
theorem q03 : qal (cellAt (EX (x :: l)) 0 3) = EX x.args := qx3 (l := x :: l) (n := 0) (by simp)
theorem q10 : intOf (cellAt (EX (x :: y :: l)) 1 0) = y.op := qx0 (l := x :: y :: l) (n := 1) (by simp)
theorem q11 : intOf (cellAt (EX (x :: y :: l)) 1 1) = y.num := qx1 (l := x :: y :: l) (n := 1) (by simp)
theorem q12 : strOf (cellAt (EX (x :: y :: l)) 1 2) = y.txt := qx2 (l := x :: y :: l) (n := 1) (by simp)
theorem q13 : qal (cellAt (EX (x :: y :: l)) 1 3) = EX y.args := qx3 (l := x :: y :: l) (n := 1) (by simp)
theorem q20 : intOf (cellAt (EX (x :: y :: z :: l)) 2 0) = z.op := qx0 (l := x :: y :: z :: l) (n := 2) (by simp)
theorem q21 : intOf (cellAt (EX (x :: y :: z :: l)) 2 1) = z.num := qx1 (l := x :: y :: z :: l) (n := 2) (by simp)
theorem q22 : strOf (cellAt (EX (x :: y :: z :: l)) 2 2) = z.txt := qx2 (l := x :: y :: z :: l) (n := 2) (by simp)
theorem q23 : qal (cellAt (EX (x :: y :: z :: l)) 2 3) = EX z.args := qx3 (l := x :: y :: z :: l) (n := 2) (by simp)
end
theorem ib {o k : Int} (h : o ≠ k) : (o == k) = false := by simpa using h
theorem qJb {vs : List Va} {k : Nat} {x y z : Ex} : (emI vs k [x, y, z]).length = (emE vs k x).length + 1 + (emE vs (k + (emE vs k x).length + 1) y).length + 1 + (emE vs (k + (emE vs k x).length + 1 + (emE vs (k + (emE vs k x).length + 1) y).length + 1) z).length := by
 simp only [emI, List.length_append, List.length_cons]; omega
theorem qq6 {vs : List Va} (hv : vs.length ≤ big) : ∀ (e : Ex), e.allX qas = true → ∀ (out : List In), out.length + (emE vs out.length e).length ≤ 100000 → ∀ n, e.dep ≤ n → qgD n e.op e.num e.txt (EX e.args) (EV vs) (EN out) = some (EV vs, EN (out ++ emE vs out.length e)) := by
 intro e
 induction e using Ex.ind with
 | h o n s l ih =>
  intro hf out hout m hm
  rw [Ex.allX_eq, Bool.and_eq_true, List.all_eq_true] at hf
  obtain ⟨h1, h2⟩ := hf
  simp only [Ex.args] at h2
  simp only [Ex.dep] at hm
  have hol : out.length ≤ 100000 := by omega
  cases m with
  | zero => omega
  | succ k =>
   simp only [qgD, Ex.op, Ex.num, Ex.txt, Ex.args, qAl]
   rcases qbC h1 with ⟨ho, rfl, rfl, hn0, hn1⟩ | ⟨rfl, rfl, rfl⟩ | ⟨ho, hl, rfl, rfl⟩ | ⟨rfl, hl, rfl, rfl⟩ | ⟨ho, h9, h16, hl, rfl, rfl⟩
   ·rw [qip ho]
    rcases ho with rfl | rfl | rfl <;> simp (decide := true) only [ev_br, cond_true, cond_false, qbL hol, ev_bi_some, ev_at, ib, beq_self_eq_true, ne_eq, not_false_eq_true]
   ·rw [qiq]
    simp (decide := true) only [ev_br, cond_true, cond_false, qia hv, qbL hol, ev_bi_some, ev_at, ib, beq_self_eq_true, ne_eq, not_false_eq_true]
   ·obtain ⟨x, rfl⟩ := q0y hl
    rw [qeQ (by omega), qf7] at hout ⊢
    simp only [List.length_append, List.length_singleton] at hout
    simp only [Ex.depL] at hm
    have hx := ih x (by simp) (h2 x (by simp)) out (by omega) k (by omega)
    have hloop : qsq (qgD k) (.inl (EX [x], ((EX [x]).length : Int), 0, EV vs, EN out, o, 0, [], EX [x])) = some (1, .inr (EX [x], ((EX [x]).length : Int), 1, EV vs, o, 0, [], EX [x], EN (out ++ emE vs out.length x))) := by
     rw [qph, qaA (v' := .inr (EX [x], ((EX [x]).length : Int), 1, EV vs, o, 0, [], EX [x], EN (out ++ emE vs out.length x))), qai (j := 1)]
     ·simp [qhj, qjR]
     ·simp only [qhj, Sum.elim_inl, qqj, q2J, q00, q01, q02, q03, hx, ev_br, cond_true, ev_bi_some, ev_at]
      rfl
    rw [hloop]
    simp (decide := true) only [ev_br, cond_true, cond_false, pj_some, if_true, if_false, ev_bi_none, ev_bi_some, sr_inr, qbL (show (out ++ emE vs out.length x).length ≤ 100000 by simp; omega), ev_at, ib (show o ≠ 1 by omega), ib (show o ≠ 2 by omega), ib (show o ≠ 3 by omega), ib (show o ≠ 4 by omega), ib (show o ≠ 19 by omega)]
    try simp only [List.append_assoc]
   ·obtain ⟨x, y, z, rfl⟩ := q0A hl
    rw [qnV] at hout ⊢
    rw [qJb] at hout
    simp only [emI]
    simp only [Ex.depL] at hm
    have hx := ih x (by simp) (h2 x (by simp)) out (by omega) k (by omega)
    generalize hC : emE vs out.length x = C at hout hx ⊢
    have hy := ih y (by simp) (h2 y (by simp)) (out ++ C ++ [⟨5, 0, 0⟩]) (by simp only [List.length_append, List.length_singleton]; omega) k (by omega)
    rw [show (out ++ C ++ [(⟨5, 0, 0⟩ : In)]).length = out.length + C.length + 1 by simp; omega] at hy
    generalize hA : emE vs (out.length + C.length + 1) y = A at hout hy ⊢
    have hz := ih z (by simp) (h2 z (by simp)) (out ++ C ++ ⟨5, ((out.length + C.length + 1 + A.length + 1 : Nat) : Int), 0⟩ :: (A ++ [⟨4, 0, 0⟩])) (by
     rw [show (out ++ C ++ (⟨5, ((out.length + C.length + 1 + A.length + 1 : Nat) : Int), 0⟩ : In) :: (A ++ [⟨4, 0, 0⟩])).length = out.length + C.length + 1 + A.length + 1 by simp; omega]; omega) k (by omega)
    rw [show (out ++ C ++ (⟨5, ((out.length + C.length + 1 + A.length + 1 : Nat) : Int), 0⟩ : In) :: (A ++ [⟨4, 0, 0⟩])).length = out.length + C.length + 1 + A.length + 1 by simp; omega] at hz
    generalize hB : emE vs (out.length + C.length + 1 + A.length + 1) z = B at hout hz ⊢
    have e1 : out ++ C ++ [(⟨5, 0, 0⟩ : In)] ++ A ++ [⟨4, 0, 0⟩] = (out ++ C) ++ ⟨5, 0, 0⟩ :: (A ++ [⟨4, 0, 0⟩]) := by simp
    have e2 : out ++ C ++ (⟨5, ((out.length + C.length + 1 + A.length + 1 : Nat) : Int), 0⟩ : In) :: (A ++ [⟨4, 0, 0⟩]) ++ B = (out ++ C ++ ⟨5, ((out.length + C.length + 1 + A.length + 1 : Nat) : Int), 0⟩ :: A) ++ ⟨4, 0, 0⟩ :: B := by simp
    have l1 : (out ++ C).length = out.length + C.length := by simp
    have l2 : (out ++ C ++ [(⟨5, 0, 0⟩ : In)] ++ A).length = (out ++ C ++ (⟨5, ((out.length + C.length + 1 + A.length + 1 : Nat) : Int), 0⟩ : In) :: A).length := by simp
    have l3 : (EN ((out ++ C) ++ (⟨5, 0, 0⟩ : In) :: (A ++ [⟨4, 0, 0⟩]))).length = out.length + C.length + 1 + A.length + 1 := by simp; omega
    have l4 : (EN ((out ++ C ++ (⟨5, ((out.length + C.length + 1 + A.length + 1 : Nat) : Int), 0⟩ : In) :: A) ++ ⟨4, 0, 0⟩ :: B)).length = out.length + C.length + 1 + A.length + 1 + B.length := by simp; omega
    have h5 : inB (out.length + C.length + 1 + A.length + 1) ((out ++ C).length : Int) = true := qa5 (by rw [l1]; omega)
    have h6 : inB (out.length + C.length + 1 + A.length + 1 + B.length) ((out ++ C ++ (⟨5, ((out.length + C.length + 1 + A.length + 1 : Nat) : Int), 0⟩ : In) :: A).length : Int) = true := qa5 (by simp; omega)
    simp (decide := true) only [ev_br, cond_true, cond_false, ib, beq_self_eq_true, ne_eq, not_false_eq_true, q2J, q68, zb3, q00, q01, q02, q03, q10, q11, q12, q13, q20, q21, q22, q23, hx, ev_bi_some, qbL (show (out ++ C).length ≤ 100000 by rw [l1]; omega), hy,
     qbL (show (out ++ C ++ [(⟨5, 0, 0⟩ : In)] ++ A).length ≤ 100000 by simp; omega), e1, h5, q67, q7d, Int.toNat_natCast, l3, hz]
    rw [e2, l2]
    simp only [h6, q67, q7d, Int.toNat_natCast, l4, ev_br, cond_true, ev_at]
    simp
   ·obtain ⟨x, y, rfl⟩ := q0z hl
    rw [qeQ (by omega), qf8] at hout ⊢
    simp only [List.length_append, List.length_singleton] at hout
    simp only [Ex.depL] at hm
    have hx := ih x (by simp) (h2 x (by simp)) out (by omega) k (by omega)
    generalize hC : emE vs out.length x = C at hout hx ⊢
    have hy := ih y (by simp) (h2 y (by simp)) (out ++ C) (by rw [List.length_append]; omega) k (by omega)
    rw [List.length_append] at hy
    generalize hA : emE vs (out.length + C.length) y = A at hout hy ⊢
    have hloop : qsq (qgD k) (.inl (EX [x, y], ((EX [x, y]).length : Int), 0, EV vs, EN out, o, 0, [], EX [x, y])) = some (1, .inr (EX [x, y], ((EX [x, y]).length : Int), 2, EV vs, o, 0, [], EX [x, y], EN (out ++ C ++ A))) := by
     rw [qph, qaA (v' := .inr (EX [x, y], ((EX [x, y]).length : Int), 1, EV vs, o, 0, [], EX [x, y], EN (out ++ C))), qaA (v' := .inr (EX [x, y], ((EX [x, y]).length : Int), 2, EV vs, o, 0, [], EX [x, y], EN (out ++ C ++ A))), qai (j := 1)]
     ·simp [qhj, qjR]
     ·simp only [qhj, Sum.elim_inr, qjR, q68, q10, q11, q12, q13, hy, ev_br, cond_true, ev_bi_some, ev_at]
      rfl
     ·simp only [qhj, Sum.elim_inl, qqj, q2J, q00, q01, q02, q03, hx, ev_br, cond_true, ev_bi_some, ev_at]
      rfl
    rw [hloop]
    simp (decide := true) only [ev_br, cond_true, cond_false, pj_some, if_true, if_false, ev_bi_none, ev_bi_some, sr_inr, qbL (show (out ++ C ++ A).length ≤ 100000 by simp; omega), ev_at, ib (show o ≠ 1 by omega), ib (show o ≠ 2 by omega), ib (show o ≠ 3 by omega), ib (show o ≠ 4 by omega), ib (show o ≠ 19 by omega)]
    try simp only [List.append_assoc]
theorem qdO {vs : List Va} (hv : vs.length ≤ big) {e : Ex} (hf : e.allX qas = true) {out : List In} (h : out.length + (emE vs out.length e).length ≤ 100000) : qrJ e.op e.num e.txt (EX e.args) (EV vs) (EN out) = some (EV vs, EN (out ++ emE vs out.length e)) :=
 qcR (qq6 hv e hf out h)
theorem qtp {vs : List Va} (hv : vs.length ≤ big) : ∀ (e : Ex), e.allX qas = true → (emE vs 0 e).length ≤ 100000 → ∀ n, e.dep ≤ n → qgE n e.op e.num e.txt (EX e.args) (EV vs) = some (EV vs, EN (emE vs 0 e)) := by
 intro e
 induction e using Ex.ind with
 | h o n s l ih =>
  intro hf hout m hm
  rw [Ex.allX_eq, Bool.and_eq_true, List.all_eq_true] at hf
  obtain ⟨h1, h2⟩ := hf
  simp only [Ex.args] at h2
  simp only [Ex.dep] at hm
  cases m with
  | zero => omega
  | succ k =>
   simp only [qgE, Ex.op, Ex.num, Ex.txt, Ex.args, qAm]
   rcases qbC h1 with ⟨ho, rfl, rfl, hn0, hn1⟩ | ⟨rfl, rfl, rfl⟩ | ⟨ho, hl, rfl, rfl⟩ | ⟨rfl, hl, rfl, rfl⟩ | ⟨ho, h9, h16, hl, rfl, rfl⟩
   ·rw [qip ho]
    rcases ho with rfl | rfl | rfl <;> simp (decide := true) only [ev_br, cond_true, cond_false, qrL, ev_bi_some, ev_at, ib, beq_self_eq_true, ne_eq, not_false_eq_true]
   ·rw [qiq]
    simp (decide := true) only [ev_br, cond_true, cond_false, qia hv, qrL, ev_bi_some, ev_at, ib, beq_self_eq_true, ne_eq, not_false_eq_true]
   ·obtain ⟨x, rfl⟩ := q0y hl
    rw [qeQ (by omega), qf7] at hout ⊢
    simp only [List.length_append, List.length_singleton] at hout
    simp only [Ex.depL] at hm
    have hx := ih x (by simp) (h2 x (by simp)) (by omega) k (by omega)
    have hloop : qsr (qgE k) (.inl (EX [x], ((EX [x]).length : Int), 0, EV vs, o, 0, [], EX [x])) = some (1, .inr (EX [x], ((EX [x]).length : Int), 1, EV vs, o, 0, [], EX [x], EN (emE vs 0 x))) := by
     rw [qpi, qaA (v' := .inr (EX [x], ((EX [x]).length : Int), 1, EV vs, o, 0, [], EX [x], EN (emE vs 0 x))), qai (j := 1)]
     ·simp [qhk, qjS]
     ·simp only [qhk, Sum.elim_inl, qqk, q2J, q00, q01, q02, q03, hx, ev_br, cond_true, ev_bi_some, ev_at]
      rfl
    rw [hloop]
    simp (decide := true) only [ev_br, cond_true, cond_false, pj_some, if_true, if_false, ev_bi_none, ev_bi_some, sr_inr, qbL (show (emE vs 0 x).length ≤ 100000 by omega), ev_at, ib (show o ≠ 1 by omega), ib (show o ≠ 2 by omega), ib (show o ≠ 3 by omega), ib (show o ≠ 4 by omega), ib (show o ≠ 19 by omega)]
    try simp only [List.append_assoc]
   ·obtain ⟨x, y, z, rfl⟩ := q0A hl
    rw [qnV] at hout ⊢
    rw [qJb] at hout
    simp only [emI]
    simp only [Ex.depL] at hm
    have hx := ih x (by simp) (h2 x (by simp)) (by omega) k (by omega)
    simp only [Nat.zero_add] at hout ⊢
    generalize hC : emE vs 0 x = C at hout hx ⊢
    have hy := qdO hv (h2 y (by simp)) (out := C ++ [⟨5, 0, 0⟩]) (by simp only [List.length_append, List.length_singleton]; omega)
    rw [show (C ++ [(⟨5, 0, 0⟩ : In)]).length = C.length + 1 by simp] at hy
    generalize hA : emE vs (C.length + 1) y = A at hout hy ⊢
    have hz := qdO hv (h2 z (by simp)) (out := C ++ ⟨5, ((C.length + 1 + A.length + 1 : Nat) : Int), 0⟩ :: (A ++ [⟨4, 0, 0⟩])) (by
     rw [show (C ++ (⟨5, ((C.length + 1 + A.length + 1 : Nat) : Int), 0⟩ : In) :: (A ++ [⟨4, 0, 0⟩])).length = C.length + 1 + A.length + 1 by simp; omega]; omega)
    rw [show (C ++ (⟨5, ((C.length + 1 + A.length + 1 : Nat) : Int), 0⟩ : In) :: (A ++ [⟨4, 0, 0⟩])).length = C.length + 1 + A.length + 1 by simp; omega] at hz
    generalize hB : emE vs (C.length + 1 + A.length + 1) z = B at hout hz ⊢
    have e1 : C ++ [(⟨5, 0, 0⟩ : In)] ++ A ++ [⟨4, 0, 0⟩] = (C) ++ ⟨5, 0, 0⟩ :: (A ++ [⟨4, 0, 0⟩]) := by simp
    have e2 : C ++ (⟨5, ((C.length + 1 + A.length + 1 : Nat) : Int), 0⟩ : In) :: (A ++ [⟨4, 0, 0⟩]) ++ B = (C ++ ⟨5, ((C.length + 1 + A.length + 1 : Nat) : Int), 0⟩ :: A) ++ ⟨4, 0, 0⟩ :: B := by simp
    have l2 : (C ++ [(⟨5, 0, 0⟩ : In)] ++ A).length = (C ++ (⟨5, ((C.length + 1 + A.length + 1 : Nat) : Int), 0⟩ : In) :: A).length := by simp
    have l3 : (EN ((C) ++ (⟨5, 0, 0⟩ : In) :: (A ++ [⟨4, 0, 0⟩]))).length = C.length + 1 + A.length + 1 := by simp; omega
    have l4 : (EN ((C ++ (⟨5, ((C.length + 1 + A.length + 1 : Nat) : Int), 0⟩ : In) :: A) ++ ⟨4, 0, 0⟩ :: B)).length = C.length + 1 + A.length + 1 + B.length := by simp; omega
    have h5 : inB (C.length + 1 + A.length + 1) ((C).length : Int) = true := qa5 (by omega)
    have h6 : inB (C.length + 1 + A.length + 1 + B.length) ((C ++ (⟨5, ((C.length + 1 + A.length + 1 : Nat) : Int), 0⟩ : In) :: A).length : Int) = true := qa5 (by simp; omega)
    simp (decide := true) only [ev_br, cond_true, cond_false, ib, beq_self_eq_true, ne_eq, not_false_eq_true, q2J, q68, zb3, q00, q01, q02, q03, q10, q11, q12, q13, q20, q21, q22, q23, hx, ev_bi_some, qbL (show (C).length ≤ 100000 by omega), hy,
     qbL (show (C ++ [(⟨5, 0, 0⟩ : In)] ++ A).length ≤ 100000 by simp; omega), e1, h5, q67, q7d, Int.toNat_natCast, l3, hz]
    rw [e2, l2]
    simp only [h6, q67, q7d, Int.toNat_natCast, l4, ev_br, cond_true, ev_at]
    simp
   ·obtain ⟨x, y, rfl⟩ := q0z hl
    rw [qeQ (by omega), qf8] at hout ⊢
    simp only [List.length_append, List.length_singleton] at hout
    simp only [Ex.depL] at hm
    have hx := ih x (by simp) (h2 x (by simp)) (by omega) k (by omega)
    simp only [Nat.zero_add] at hout ⊢
    generalize hC : emE vs 0 x = C at hout hx ⊢
    have hy := qdO hv (h2 y (by simp)) (out := C) (by omega)
    generalize hA : emE vs (C.length) y = A at hout hy ⊢
    have hloop : qsr (qgE k) (.inl (EX [x, y], ((EX [x, y]).length : Int), 0, EV vs, o, 0, [], EX [x, y])) = some (1, .inr (EX [x, y], ((EX [x, y]).length : Int), 2, EV vs, o, 0, [], EX [x, y], EN (C ++ A))) := by
     rw [qpi, qaA (v' := .inr (EX [x, y], ((EX [x, y]).length : Int), 1, EV vs, o, 0, [], EX [x, y], EN (C))), qaA (v' := .inr (EX [x, y], ((EX [x, y]).length : Int), 2, EV vs, o, 0, [], EX [x, y], EN (C ++ A))), qai (j := 1)]
     ·simp [qhk, qjS]
     ·simp only [qhk, Sum.elim_inr, qjS, q68, q10, q11, q12, q13, hy, ev_br, cond_true, ev_bi_some, ev_at]
      rfl
     ·simp only [qhk, Sum.elim_inl, qqk, q2J, q00, q01, q02, q03, hx, ev_br, cond_true, ev_bi_some, ev_at]
      rfl
    rw [hloop]
    simp (decide := true) only [ev_br, cond_true, cond_false, pj_some, if_true, if_false, ev_bi_none, ev_bi_some, sr_inr, qbL (show (C ++ A).length ≤ 100000 by simp; omega), ev_at, ib (show o ≠ 1 by omega), ib (show o ≠ 2 by omega), ib (show o ≠ 3 by omega), ib (show o ≠ 4 by omega), ib (show o ≠ 19 by omega)]
    try simp only [List.append_assoc]
theorem qn5 {vs : List Va} (hv : vs.length ≤ big) {e : Ex} (hf : e.allX qas = true) (h : (emE vs 0 e).length ≤ 100000) : qAN e.op e.num e.txt (EX e.args) (EV vs) = some (EV vs, EN (emE vs 0 e)) :=
 qcR (qtp hv e hf h)
end Go.Proofs.H13

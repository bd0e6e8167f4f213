/- The document's ways of joining tokens and of writing percentages are the program's. -/
import Derived.Test.YtoeknkhpjdomhaaGreatDoorD09_1
import Derived.Test.YtoeknkhpjdomhaaGreatDoorD09_2
import Derived.Test.YtoeknkhpjdomhaaGreatDoorD09_3
import Derived.Test.YtoeknkhpjdomhaaGreatDoorX09Tks
import Derived.Test.YtoeknkhpjdomhaaGreatDoorTkF
import Derived.Test.YtoeknkhpjdomhaaGreatDoorJnA
set_option linter.unusedVariables false
set_option linter.unusedSimpArgs false
set_option linter.unnecessarySimpa false
namespace Go.Proofs.H09
open Go Go.Eng Go.Tk
set_option maxRecDepth 20000
def qmU (x : Tok × Tok) : Bool := x.1.kind == x.2.kind && (x.1.line == x.2.line && (x.1.text == x.2.text && true))
theorem quw (a b : Tok) : qmU (a, b) = decide (a = b) := by
 rw [Bool.eq_iff_iff, decide_eq_true_eq]
 simp only [qmU, Bool.and_eq_true, beq_iff_eq, and_true]
 constructor
 ·rintro ⟨h1, h2, h3⟩
  cases a; cases b; simp_all
 ·rintro rfl; exact ⟨rfl, rfl, rfl⟩
theorem qnQ : ∀ {a b : List Tok}, a.length = b.length → (a.zip b).any (fun x => !qmU x) = !decide (a = b)
 | [], [], _ => rfl
 | [], _ :: _, h => by cases h
 | _ :: _, [], h => by cases h
 | x :: a, y :: b, h => by
  have ih := qnQ (a := a) (b := b) (by simpa using h)
  rw [List.zip_cons_cons, List.any_cons, ih, quw]
  by_cases h1 : x = y
  ·subst h1
   by_cases h2 : a = b
   ·simp [h2]
   ·simp [h2]
  ·simp [h1]
theorem qiG {a b : List Tok} (ha : a.length ≤ big) : qct (ET a) (ET b) = some (decide (a = b)) := by
 rw [qra, qkG]
 by_cases hl : a.length = b.length
 ·have e1 : (((ET a).length : Int) != ((ET b).length : Int)) = false := by simp [hl]
  have := qbq (st := fun v => (qfW v).ev) (l := a.zip b) (hd := fun n => (ET a, ET b, (n : Int))) (jx := fun _ => 0) (fun x => !qmU x) 1 (fun n h => by
    have h1 : n < a.length := by rw [List.length_zip] at h; omega
    have h2 : n < b.length := by omega
    have hlt : decide ((n : Int) < ((ET a).length : Int)) = true := by rw [List.length_map]; exact qbk h1
    have h3 : (a.zip b)[n] = (a[n], b[n]) := by simp
    simp only [qfW, qhR, hlt, okT h1, okT h2, qt0 h1, qt0 h2, qt1 h1, qt1 h2, qt2 h1, qt2 h2, ev_br, ev_at, cond_true, qao h1 ha, if_true, h3]
    show (bif !(qmU (a[n], b[n])) then _ else _) = some (bif !(qmU (a[n], b[n])) then _ else _)
    cases qmU (a[n], b[n]) <;> rfl) (by
    have : (a.zip b).length = a.length := by rw [List.length_zip]; omega
    rw [this]
    simp [qfW, qhR])
  rw [qbM, qnQ hl] at this
  have e2 : qly (ET a, ET b, 0) = _ := (qlz _).trans this
  rw [e1, e2]
  cases decide (a = b) <;> simp
 ·have e1 : (((ET a).length : Int) != ((ET b).length : Int)) = true := by
   rw [List.length_map, List.length_map]; simp; omega
  rw [e1, decide_eq_false (by rintro rfl; exact hl rfl)]; rfl
theorem qyK (k n : Int) (t : Bs) (q : List Tok × Int × Int) (h : qa2 t = q) : (DT.bi (some (ET q.1, q.2.1, q.2.2)) (fun y0 => .br (y0.snd.snd == 0) (.br ((y0.fst.length : Int) == 1) (.br (qdP [CS.int IntKind.i64, CS.int IntKind.i64, CS.str] y0.fst 0) (.br (intOf (cellAt y0.fst 0 0) == k) (.br (qdP [CS.int IntKind.i64, CS.int IntKind.i64, CS.str] y0.fst 0) (.at (strOf (cellAt y0.fst 0 2) == t)) .no) (.at false)) .no) (.at false)) (.at false)) .no).ev = some (qbt ⟨k, n, t⟩) := by
 subst h
 unfold qbt
 simp only [ev_bi_some, ev_br]
 cases ((qa2 t).2.2 == 0)
 ·rfl
 ·simp only [cond_true, Bool.true_and]
  cases hq : (qa2 t).1 with
  | nil => rfl
  | cons u r =>
   cases r with
   | nil =>
    have h0 : qdP [CS.int IntKind.i64, CS.int IntKind.i64, CS.str] (ET [u]) 0 = true := okT (l := [u]) (n := 0) (by simp)
    have h1 : intOf (cellAt (ET [u]) 0 0) = u.kind := qt0 (l := [u]) (n := 0) (by simp)
    have h2 : strOf (cellAt (ET [u]) 0 2) = u.text := qt2 (l := [u]) (n := 0) (by simp)
    rw [h0, h1, h2]
    show (bif true then (bif true then (bif u.kind == k then (bif true then some (u.text == t) else none) else some false) else none) else some false) = some (true && (u.kind == k && u.text == t))
    cases (u.kind == k) <;> rfl
   | cons v r =>
    have e : (((ET (u :: v :: r)).length : Int) == 1) = false := by
     rw [beq_eq_false_iff_ne, List.length_map, List.length_cons, List.length_cons]; omega
    have e2 : ((u :: v :: r).length == 1) = false := by simp
    rw [e, e2]; rfl
theorem qoC (k n : Int) (t : Bs) : qlh k n t = some (qbt ⟨k, n, t⟩) := by
 rw [qrc, qkI, qiu]
 exact qyK k n t _ rfl
theorem qov (k n : Int) (t : Bs) : qnh k n t = some (qbt ⟨k, n, t⟩) := by
 rw [qqT, qkr, qbv]
 exact qyK k n t _ rfl
def qfD : Int → List Tok → Int
 | n, [] => n
 | _, t :: l => qfD t.line l
theorem qmI : ∀ {l : List Tok} {n : Int}, qf3 qbt n l = true → n ≤ qfD n l
 | [], _, _ => Int.le_refl _
 | t :: l, n, h => by
  simp only [qf3, Bool.and_eq_true, decide_eq_true_eq] at h
  have := qmI h.2.2
  show n ≤ qfD t.line l
  omega
theorem qrU : ∀ {l : List Tok} {n b : Int}, n ≤ b → (∀ t ∈ l, t.line ≤ b) → qfD n l ≤ b
 | [], _, _, h, _ => h
 | t :: l, n, b, h, hl => qrU (l := l) (hl t (by simp)) fun x hx => hl x (by simp [hx])
theorem qsG : ∀ {l : List Tok} {i : Nat} {n : Int} {k : Nat}, qf3 qbt n l = true → okJ i n k l = true → k ≤ 2048 → k + (qfD n l - n) ≤ 2048
 | [], i, n, k, _, _, hk => by simp only [qfD]; omega
 | t :: l, i, n, k, h, ho, hk => by
  simp only [qf3, Bool.and_eq_true, decide_eq_true_eq] at h
  simp only [okJ, Bool.and_eq_true, decide_eq_true_eq] at ho
  have := qsG h.2.2 ho.2.2 ho.2.1
  have hs : (t.line - n).toNat ≤ (qdU i n t).length := by unfold qdU; simp
  show k + (qfD t.line l - n) ≤ 2048
  omega
theorem qo2 {l : List Tok} (hl : l.length ≤ big) : ∀ (k n : Nat) (line : Int), n + k = l.length → ∃ v, qiV (ET l, line, (n : Int)) = some ((bif qf3 qbt line (l.drop n) then 1 else 0), v) ∧ (qf3 qbt line (l.drop n) = true → v = (ET l, qfD line (l.drop n), ((l.length : Nat) : Int))) := by
 intro k
 induction k with
 | zero =>
  intro n line hn
  have : n = l.length := by omega
  subst this
  rw [List.drop_length, qeZ]
  refine ⟨_, qak ?_, fun _ => rfl⟩
  simp [qfT, qhK, qf3]
 | succ k ih =>
  intro n line hn
  have h : n < l.length := by omega
  have hlt : decide ((n : Int) < ((ET l).length : Int)) = true := by rw [List.length_map]; exact qbk h
  rw [qeZ, drop_at h]
  have hst : (qfT (ET l, line, (n : Int))).ev = some (bif qbt l[n] && !decide (l[n].line < line) then .next (ET l, l[n].line, ((n + 1 : Nat) : Int)) else .done 0) := by
   simp only [qfT, qhK, hlt, okT h, qt0 h, qt1 h, qt2 h, qoC, ev_br, ev_at, ev_bi_some, br_eq, cond_true, qao h hl]
   cases qbt l[n]
   ·rfl
   ·cases decide (l[n].line < line) <;> rfl
  have hle : decide (line ≤ l[n].line) = !decide (l[n].line < line) := by
   by_cases hq : l[n].line < line
   ·rw [decide_eq_true hq, decide_eq_false (by omega)]; rfl
   ·rw [decide_eq_false hq, decide_eq_true (by omega)]; rfl
  simp only [qf3, hle]
  cases h1 : qbt l[n]
  ·rw [h1] at hst
   exact ⟨_, qak hst, fun h => by cases h⟩
  ·cases h2 : decide (l[n].line < line)
   ·rw [h1, h2] at hst
    obtain ⟨v, e1, e2⟩ := ih (n + 1) l[n].line (by omega)
    rw [qat hst, ← qeZ]
    exact ⟨v, e1, e2⟩
   ·rw [h1, h2] at hst
    exact ⟨_, qak hst, fun h => by cases h⟩
theorem qo4 {l : List Tok} {n : Nat} (h : n < l.length) (hb : l[n].line ≤ 1000000) : ∀ (k : Nat) (line : Int) (acc : Bs), (l[n].line - line).toNat = k → 0 ≤ line → acc.length + k ≤ 1000000000 → ∃ line', qdL (ET l, line, acc, (n : Int)) = some (0, ET l, line', acc ++ List.replicate k 10, (n : Int)) ∧ (line ≤ l[n].line → line' = l[n].line) := by
 intro k
 induction k with
 | zero =>
  intro line acc hk h0 _
  rw [qe1]
  refine ⟨line, ?_, fun _ => by omega⟩
  rw [List.replicate_zero, List.append_nil]
  refine qak ?_
  have : decide (line < l[n].line) = false := decide_eq_false (by omega)
  simp only [qhM, qhN, okT h, qt1 h, this, ev_br, ev_at, cond_true, cond_false]
 | succ k ih =>
  intro line acc hk h0 hl
  obtain ⟨line', e1, e2⟩ := ih (line + 1) (acc ++ [10]) (by omega) (by omega) (by simp only [List.length_append, List.length_cons, List.length_nil]; omega)
  refine ⟨line', ?_, fun _ => e2 (by omega)⟩
  rw [qe1]
  have h1 : decide (line < l[n].line) = true := decide_eq_true (by omega)
  have h2 : decide (acc.length + 1 ≤ 4611686018427387904) = true := decide_eq_true (by omega)
  have h3 : IntKind.i64.wrap (line + 1) = line + 1 := wrap64 (by omega) (by omega)
  rw [qat (v' := (ET l, line + 1, acc ++ [10], (n : Int))) (by
   simp only [qhM, qhN, okT h, qt1 h, h1, h2, h3, ev_br, ev_at, cond_true]), ← qe1, e1, List.append_assoc]
  rfl
theorem qo3 {l : List Tok} (hl : l.length ≤ big) : ∀ (k n : Nat) (line : Int) (acc : Bs), n + k = l.length → 0 ≤ line → qf3 qbt line (l.drop n) = true → qfD line (l.drop n) ≤ 2049 → acc.length ≤ 2048 →
  ∃ v j, qg6 (ET l, line, acc, (n : Int)) = some ((bif okJ n line acc.length (l.drop n) then 2 else j), v) ∧ j < 2 ∧ (okJ n line acc.length (l.drop n) = true → v.2.2.1 = acc ++ qia n line (l.drop n)) := by
 intro k
 induction k with
 | zero =>
  intro n line acc hn h0 hc hla hac
  have : n = l.length := by omega
  subst this
  rw [List.drop_length, qe0]
  refine ⟨_, 0, qak ?_, by decide, fun _ => ?_⟩
  ·simp [qfU, qhL, okJ]
  ·simp [qia]
 | succ k ih =>
  intro n line acc hn h0 hc hla hac
  have h : n < l.length := by omega
  rw [drop_at h] at hc hla ⊢
  simp only [qf3, Bool.and_eq_true, decide_eq_true_eq] at hc
  obtain ⟨hok, hge, hc⟩ := hc
  have hla' : qfD l[n].line (l.drop (n + 1)) ≤ 2049 := hla
  have hll := qmI hc
  have htl := (qfZ hok).1
  have hlt : decide ((n : Int) < ((ET l).length : Int)) = true := by rw [List.length_map]; exact qbk h
  have hz : decide ((n : Int) > 0) = decide (n > 0) := by
   by_cases hq : n > 0
   ·rw [decide_eq_true hq, decide_eq_true (by omega)]
   ·rw [decide_eq_false hq, decide_eq_false (by omega)]
  obtain ⟨b, hb⟩ : ∃ b, b = (decide (n > 0) && (l[n].line == line)) := ⟨_, rfl⟩
  have hsep : acc ++ (bif b then [32] else []) ++ List.replicate (l[n].line - line).toNat 10 = acc ++ qdU n line l[n] := by
   unfold qdU
   cases hbb : b
   ·have : ¬ (n > 0 ∧ l[n].line = line) := by
     rintro ⟨q1, q2⟩
     rw [hbb, decide_eq_true q1, q2] at hb
     simp at hb
    rw [if_neg this]; simp
   ·rw [hbb] at hb
    have hb := hb.symm
    rw [Bool.and_eq_true, decide_eq_true_eq, beq_iff_eq] at hb
    rw [if_pos hb, hb.2]; simp
  obtain ⟨line', e1, e2⟩ := qo4 h (by omega) (l[n].line - line).toNat line (acc ++ bif b then [32] else []) rfl h0 (by
   have : (bif b then ([32] : Bs) else []).length ≤ 1 := by cases b <;> simp
   rw [List.length_append]; omega)
  obtain rfl := e2 hge
  rw [hsep] at e1
  have hsl : (qdU n line l[n]).length ≤ 3000 := by
   unfold qdU
   have : (if n > 0 ∧ l[n].line = line then ([32] : Bs) else []).length ≤ 1 := by split <;> simp
   rw [List.length_append, List.length_replicate]; omega
  have q1 : decide (acc.length + 1 ≤ 4611686018427387904) = true := decide_eq_true (by omega)
  have q2 : decide ((acc ++ qdU n line l[n]).length + l[n].text.length ≤ 4611686018427387904) = true := decide_eq_true (by rw [List.length_append]; omega)
  have q3 : decide ((((acc ++ qdU n line l[n] ++ l[n].text).length : Nat) : Int) > 2048) = !decide (acc.length + (qdU n line l[n]).length + l[n].text.length ≤ 2048) := by
   rw [List.length_append, List.length_append]
   by_cases hq : acc.length + (qdU n line l[n]).length + l[n].text.length ≤ 2048
   ·rw [decide_eq_true hq, decide_eq_false (by omega)]; rfl
   ·rw [decide_eq_false hq, decide_eq_true (by omega)]; rfl
  have hst : ∃ j, j < 2 ∧ (qfU (ET l, line, acc, (n : Int))).ev = some (bif decide (acc.length + (qdU n line l[n]).length + l[n].text.length ≤ 2048) then .next (ET l, l[n].line, acc ++ qdU n line l[n] ++ l[n].text, ((n + 1 : Nat) : Int)) else .done j) := by
   refine ⟨bif b then 0 else 1, by cases b <;> decide, ?_⟩
   have hbb : br (decide ((n : Int) > 0)) (br (qdP [CS.int IntKind.i64, CS.int IntKind.i64, CS.str] (ET l) (n : Int)) (some (intOf (cellAt (ET l) (n : Int) 1) == line)) none) (some false) = some b := by
    rw [hb, hz, okT h, qt1 h]
    cases decide (n > 0) <;> rfl
   simp only [qfU, qhL, hlt, hbb, ev_bi_some, ev_br, cond_true]
   cases hbq : b
   ·rw [hbq, cond_false, List.append_nil] at e1
    simp only [cond_false, e1, pj_some, if_true, ev_bi_some, okT h, qt2 h, q2, q3, ev_br, ev_at, cond_true, qao h hl]
    cases decide (acc.length + (qdU n line l[n]).length + l[n].text.length ≤ 2048) <;> rfl
   ·rw [hbq, cond_true] at e1
    simp only [cond_true, q1, e1, pj_some, if_true, ev_bi_some, okT h, qt2 h, q2, q3, ev_br, ev_at, qao h hl]
    cases decide (acc.length + (qdU n line l[n]).length + l[n].text.length ≤ 2048) <;> rfl
  obtain ⟨j, hj, hst⟩ := hst
  rw [qe0]
  have hd1 : decide (l[n].line - line ≤ 2048) = true ∨ 0 = line := by
   by_cases hq : 0 = line
   ·exact .inr hq
   ·exact .inl (decide_eq_true (by omega))
  have hok' : okJ n line acc.length (l[n] :: l.drop (n + 1)) = (decide (acc.length + (qdU n line l[n]).length + l[n].text.length ≤ 2048) && okJ (n + 1) l[n].line (acc.length + (qdU n line l[n]).length + l[n].text.length) (l.drop (n + 1))) := by
   show (decide (l[n].line - line ≤ 2048) && _) = _
   by_cases hq : l[n].line - line ≤ 2048
   ·rw [decide_eq_true hq, Bool.true_and]
   ·have : (l[n].line - line).toNat ≤ (qdU n line l[n]).length := by unfold qdU; simp
    rw [decide_eq_false hq, decide_eq_false (by omega)]; rfl
  rw [hok']
  cases hd : decide (acc.length + (qdU n line l[n]).length + l[n].text.length ≤ 2048)
  ·rw [hd] at hst
   exact ⟨_, j, qak hst, hj, fun h => by cases h⟩
  ·rw [hd] at hst
   have hd := of_decide_eq_true hd
   obtain ⟨v, i, i1, i2, i3⟩ := ih (n + 1) l[n].line (acc ++ qdU n line l[n] ++ l[n].text) (by omega) (by omega) hc hla' (by rw [List.length_append, List.length_append]; omega)
   have hln : (acc ++ qdU n line l[n] ++ l[n].text).length = acc.length + (qdU n line l[n]).length + l[n].text.length := by rw [List.length_append, List.length_append]
   rw [hln] at i1 i3
   rw [qat hst, ← qe0]
   refine ⟨v, i, i1, i2, fun hq => ?_⟩
   rw [Bool.true_and] at hq
   rw [i3 hq]
   simp [qia, List.append_assoc]
theorem qoB {l : List Tok} (hl : l.length ≤ big) (hb : ∀ t ∈ l, t.line ≤ 9223372036854775807) : qlg (ET l) = some (qex qbt l) := by
 rw [qq8, qkE]
 obtain ⟨v, e1, e2⟩ := qo2 hl l.length 0 1 (by omega)
 rw [List.drop_zero] at e1 e2
 have e1 : qiV (ET l, 1, 0) = _ := e1
 unfold qex
 rw [e1, qt4]
 cases hc : qf3 qbt 1 l
 ·simp
 ·obtain rfl := e2 hc
  have hg := qmI hc
  have hle := qrU (l := l) (n := 1) (b := 9223372036854775807) (by decide) hb
  have hw : IntKind.i64.wrap (qfD 1 l - 1) = qfD 1 l - 1 := wrap64 (by omega) (by omega)
  simp (decide := true) only [cond_true, pj_some, if_true, if_false, ev_bi_none, ev_bi_some, hw, ev_br]
  by_cases hq : qfD 1 l - 1 > 2048
  ·have : okJ 0 1 ([] : Bs).length l = false := by
    cases ho : okJ 0 1 ([] : Bs).length l
    ·rfl
    ·have := qsG hc ho (by simp)
     simp only [List.length_nil] at this
     omega
   rw [decide_eq_true hq, this]; rfl
  ·rw [decide_eq_false hq, cond_false]
   obtain ⟨w, j, i1, i2, i3⟩ := qo3 hl l.length 0 1 [] (by omega) (by decide) (by rw [List.drop_zero]; exact hc) (by rw [List.drop_zero]; omega) (by simp)
   rw [List.drop_zero] at i1 i3
   have i1 : qg6 (ET l, 1, [], 0) = _ := i1
   rw [i1]
   cases ho : okJ 0 1 ([] : Bs).length l
   ·rcases (show j = 0 ∨ j = 1 by omega) with rfl | rfl <;> simp (decide := true)
   ·have i3 := i3 ho
    simp (decide := true) [i3]
theorem qo0 {l : List Tok} (hl : l.length ≤ big) : ∃ v, qlv (ET l, 0) = some ((bif l.any (fun t => decide ((t.text.length : Int) > 100)) then 0 else 1), v) := by
 have := qbq (st := fun v => (qfS v).ev) (l := l) (hd := fun n => (ET l, (n : Int))) (jx := fun _ => 0) (fun t => decide ((t.text.length : Int) > 100)) 1 (fun n h => by
  have hlt : decide ((n : Int) < ((ET l).length : Int)) = true := by rw [List.length_map]; exact qbk h
  simp only [qfS, qhH, hlt, okT h, qt2 h, ev_br, ev_at, cond_true, qao h hl]
  cases decide ((l[n].text.length : Int) > 100) <;> rfl) (by simp [qfS, qhH])
 rw [qbM] at this
 exact ⟨_, (qlw _).trans this⟩
def qho (l : List Tok) : Bool := !(decide ((l.length : Int) > 300) || l.any fun t => decide ((t.text.length : Int) > 100))
theorem qiB (l : List Tok) : qiA (ET l) = some (qho l) := by
 rw [qq2, qky]
 unfold qho
 rw [List.length_map]
 cases hq : decide ((l.length : Int) > 300)
 ·have := of_decide_eq_false hq
  obtain ⟨v, hv⟩ := qo0 (l := l) (Nat.le_trans (show l.length ≤ 300 by omega) (by decide))
  rw [hv]
  cases l.any (fun t => decide ((t.text.length : Int) > 100)) <;> simp
 ·rfl
theorem qps {l : List Tok} (h : qho l = true) : l.length ≤ 300 ∧ ∀ t ∈ l, t.text.length ≤ 100 := by
 unfold qho at h
 rw [Bool.not_eq_true', Bool.or_eq_false_iff] at h
 refine ⟨by have := of_decide_eq_false h.1; omega, fun t ht => ?_⟩
 have := List.any_eq_false.1 h.2 t ht
 rw [decide_eq_true_eq] at this
 omega
theorem qtv : ∀ d, d < 10 → List.take ((d + 1) - d) (List.drop d ([48, 49, 50, 51, 52, 53, 54, 55, 56, 57] : List UInt8)) = [UInt8.ofNat (48 + d)] := by decide
theorem qbI {m : Nat} (hm : m ≤ 1000000) {x1 : Int} {acc : Bs} (hacc : acc.length ≤ 1000) (h : 0 < m ∨ (acc.length : Int) < x1) : (qeE ((m : Int), x1, acc)).ev = some (.next (((m / 10 : Nat) : Int), x1, UInt8.ofNat (48 + m % 10) :: acc)) := by
 have e1 : ((m : Int).tmod 10) = ((m % 10 : Nat) : Int) := rfl
 have e2 : ((m : Int).tdiv 10) = ((m / 10 : Nat) : Int) := rfl
 have e3 : IntKind.i64.wrap (((m % 10 : Nat) : Int) + 1) = ((m % 10 + 1 : Nat) : Int) := by rw [wrap64 (by omega) (by omega)]; rfl
 have e4 : IntKind.i64.wrap ((m / 10 : Nat) : Int) = ((m / 10 : Nat) : Int) := wrap64 (by omega) (by omega)
 have hlt : m % 10 < 10 := Nat.mod_lt _ (by decide)
 have g1 : leB ((m % 10 + 1 : Nat) : Int) 10 = true := qaJ (by omega)
 have g2 : leB ((m % 10 : Nat) : Int) ((m % 10 + 1 : Nat) : Int).toNat = true := by rw [Int.toNat_natCast]; exact qaJ (by omega)
 have hbr : br (decide ((m : Int) > 0)) (some true) (some (decide ((acc.length : Int) < x1))) = some true := by
  rcases h with h | h
  ·rw [decide_eq_true (show (m : Int) > 0 by omega)]; rfl
  ·rw [decide_eq_true h]; cases decide ((m : Int) > 0) <;> rfl
 have g3 : decide (([UInt8.ofNat (48 + m % 10)] : Bs).length + acc.length ≤ 4611686018427387904) = true := decide_eq_true (by simp only [List.length_cons, List.length_nil]; omega)
 simp only [qeE, qhD, hbr, ev_bi_some, e1, e2, e3, e4, g1, g2, Bool.and_self, ev_br, cond_true]
 simp only [Int.toNat_natCast, qtv _ hlt, g3, ev_at, cond_true]
 rfl
theorem qio {x1 : Int} {acc : Bs} (h : x1 ≤ (acc.length : Int)) : (qeE (((0 : Nat) : Int), x1, acc)).ev = some (.done 0) := by
 have : decide ((acc.length : Int) < x1) = false := decide_eq_false (by omega)
 simp [qeE, qhD, this]
theorem qmy {x1 : Int} : ∀ (b m : Nat) (acc : Bs), m ≤ b → m ≤ 1000000 → acc.length + m ≤ 1000 + 1000000 → acc.length + (bif decide (m > 0) then Nat.log2 m + 1 else 0) ≤ 1000 → x1 ≤ (acc.length : Int) → qg5 ((m : Int), x1, acc) = some (0, 0, x1, (if m = 0 then [] else Lib.decDigits m) ++ acc) := by
 intro b
 induction b using Nat.strongRecOn with
 | _ b ih =>
  intro m acc hb hm hs hlg hx
  by_cases h0 : m = 0
  ·subst h0
   rw [qcf, qak (qio hx)]; rfl
  ·have hac : acc.length ≤ 1000 := by omega
   rw [qcf, qat (qbI hm hac (.inl (by omega))), ← qcf]
   have hlg2 : (UInt8.ofNat (48 + m % 10) :: acc).length + (bif decide (m / 10 > 0) then Nat.log2 (m / 10) + 1 else 0) ≤ 1000 := by
    rw [decide_eq_true (show m > 0 by omega), cond_true] at hlg
    simp only [List.length_cons]
    by_cases h1 : m / 10 > 0
    ·rw [decide_eq_true h1, cond_true]
     have : Nat.log2 (m / 10) + 1 ≤ Nat.log2 m := by
      have h2 : Nat.log2 (m / 10) ≤ Nat.log2 (m / 2) := by
       refine (Nat.le_log2 (by omega)).2 (Nat.le_trans (Nat.log2_self_le (by omega)) (by omega))
      have h3 : Nat.log2 m = Nat.log2 (m / 2) + 1 := by
       conv => lhs; rw [Nat.log2_def]
       rw [if_pos (by omega)]
      omega
     omega
    ·rw [decide_eq_false h1, cond_false]; omega
   rw [ih (m / 10) (by omega) (m / 10) _ (Nat.le_refl _) (by omega) (by simp only [List.length_cons]; omega) hlg2 (by simp only [List.length_cons]; omega), if_neg h0]
   congr 4
   conv => rhs; rw [Lib.decDigits]
   by_cases h1 : m < 10
   ·rw [dif_pos h1, if_pos (by omega)]
    have : m % 10 = m := Nat.mod_eq_of_lt h1
    rw [this]; rfl
   ·rw [dif_neg h1, if_neg (by omega), List.append_assoc]; rfl
theorem qsm {m : Nat} (h : m ≤ 1000000) (h0 : m > 0) : Nat.log2 m ≤ 19 := by
 have := (Nat.log2_lt (n := m) (k := 20) (by omega)).2 (by omega)
 omega
theorem qim {m : Nat} (hm : m ≤ 1000000) {x1 : Int} {acc : Bs} (hac : acc.length ≤ 100) (hx : x1 ≤ (acc.length : Int)) : qg5 ((m : Int), x1, acc) = some (0, 0, x1, (if m = 0 then [] else Lib.decDigits m) ++ acc) := by
 refine qmy m m acc (Nat.le_refl _) hm (by omega) ?_ hx
 by_cases h0 : m > 0
 ·have := qsm hm h0
  rw [decide_eq_true h0, cond_true]; omega
 ·rw [decide_eq_false h0, cond_false]; omega
theorem qox {m : Nat} (hm : m ≤ 1000000) : qgM (m : Int) 1 = some (Lib.decDigits m) := by
 rw [qle, qh3]
 have : qg5 ((m : Int), 1, []) = some (0, 0, 1, Lib.decDigits m) := by
  rw [qcf, qat (qbI hm (by simp) (.inr (by simp))), ← qcf, qim (by omega) (by simp) (by simp)]
  congr 4
  conv => rhs; rw [Lib.decDigits]
  by_cases h1 : m < 10
  ·rw [dif_pos h1, if_pos (by omega), Nat.mod_eq_of_lt h1]; rfl
  ·rw [dif_neg h1, if_neg (by omega)]
 rw [this]; rfl
theorem qmB {m : Nat} (hm : m < 10000) : qgM (m : Int) 4 = some (four m) := by
 rw [qle, qh3]
 have : qg5 ((m : Int), 4, []) = some (0, 0, 4, four m) := by
  rw [qcf, qat (qbI (by omega) (by simp) (.inr (by simp))), qat (qbI (by omega) (by simp) (.inr (by simp))), qat (qbI (by omega) (by simp) (.inr (by simp))), qat (qbI (by omega) (by simp) (.inr (by simp)))]
  have h0 : m / 10 / 10 / 10 / 10 = 0 := by omega
  rw [h0, qak (qio (by simp))]
  unfold four
  have a1 : m / 10 / 10 = m / 100 := by omega
  have a2 : m / 100 / 10 = m / 1000 := by omega
  rw [a1, a2]; rfl
 rw [this]; rfl
theorem qoX (x0 : Bs) : ∀ (k : Nat) (l : Bs), l.length = k → k ≤ 1000 → qno (x0, l) = some (0, x0, Lib.trimRightB l 48) := by
 intro k
 induction k with
 | zero =>
  intro l hl _
  have : l = [] := List.length_eq_zero_iff.1 hl
  subst this
  rw [qeY, qak (j := 0)]
  ·rfl
  ·simp [qfQ, qfe]
 | succ k ih =>
  intro l hl hk
  have hne : l ≠ [] := by rintro rfl; cases hl
  obtain ⟨r, c, rfl⟩ : ∃ r c, l = r ++ [c] := ⟨l.dropLast, l.getLast hne, (List.dropLast_concat_getLast hne).symm⟩
  have hr : r.length = k := by simpa using hl
  have hlen : (r ++ [c]).length = k + 1 := hl
  have e1 : IntKind.i64.wrap (((r ++ [c]).length : Int) - 1) = ((k : Nat) : Int) := by rw [hlen, wrap64 (by omega) (by omega)]; omega
  have e2 : inB (r ++ [c]).length ((k : Nat) : Int) = true := qaO (by omega)
  have e3 : (qad (r ++ [c]) ((k : Nat) : Int) == 48) = (c == 48) := by
   have := qb5 (s := r ++ [c]) (n := k) (by omega) 48
   rw [show ((48 : UInt8).toNat : Int) = 48 from rfl] at this
   rw [this]
   have : (r ++ [c])[k]'(by omega) = c := by
    rw [List.getElem_append_right (by omega)]; simp
   rw [this]
  have e4 : leB ((k : Nat) : Int) (r ++ [c]).length = true := qaJ (by omega)
  have e5 : decide (((r ++ [c]).length : Int) > 0) = true := decide_eq_true (by omega)
  have e6 : (r ++ [c]).take k = r := by rw [← hr]; simp
  rw [qfg, qeY]
  by_cases hc : c = 48
  ·have : (c == 48) = true := by simpa using hc
   rw [if_pos hc, qat (v' := (x0, r)), ← qeY, ih r hr (by omega)]
   simp only [qfQ, qfe, e1, e2, e3, e4, e5, this, br_eq, cond_true, ev_bi_some, ev_br, Bool.and_self, Int.toNat_natCast, e6, ev_at]
  ·have : (c == 48) = false := by simpa using hc
   rw [if_neg hc, qak (j := 0)]
   simp only [qfQ, qfe, e1, e2, e3, e4, e5, this, br_eq, cond_true, ev_bi_some, ev_br, cond_false, ev_at]
theorem qmx {m : Nat} (h : m ≤ 1000000) : (Lib.decDigits m).length ≤ 30 := by
 have := qim (x1 := 0) (acc := []) h (by simp) (by simp)
 by_cases h0 : (Lib.decDigits m).length ≤ 1
 ·omega
 ·obtain ⟨h1, h2, _⟩ := qin m m (Nat.le_refl _)
  have := qwX h1 (by omega)
  rw [h2] at this
  have h3 : (Lib.decDigits m).length - 1 < 8 := by
   rcases Nat.lt_or_ge ((Lib.decDigits m).length - 1) 8 with h4 | h4
   ·exact h4
   ·have := Nat.pow_le_pow_right (n := 10) (by decide) h4
    omega
  omega
theorem qot (n : Int) : qla n = some (qzo n) := by
 rw [qqP, qkn]
 unfold qzo
 cases h0 : decide (n < 0)
 ·cases h1 : decide (n > 1000000)
  ·have h0 := of_decide_eq_false h0
   have h1 := of_decide_eq_false h1
   obtain ⟨m, rfl⟩ := Int.eq_ofNat_of_zero_le (show 0 ≤ n by omega)
   have hm : m ≤ 1000000 := by omega
   have e1 : ((m : Int).tmod 10000) = ((m % 10000 : Nat) : Int) := rfl
   have e2 : ((m : Int).tdiv 10000) = ((m / 10000 : Nat) : Int) := rfl
   have e3 : IntKind.i64.wrap ((m / 10000 : Nat) : Int) = ((m / 10000 : Nat) : Int) := wrap64 (by omega) (by omega)
   have hlt : m % 10000 < 10000 := Nat.mod_lt _ (by decide)
   have hd := qmx (m := m / 10000) (by omega)
   obtain ⟨_, ht, _⟩ := qff hlt
   simp only [e1, e2, e3, qox (m := m / 10000) (by omega), qmB hlt, qoX _ 4 (four (m % 10000)) rfl (by decide), pj_some, if_true, ev_bi_some, br_eq, cond_false, ev_br, Bool.or_false]
   rw [Int.toNat_natCast]
   unfold qsN qbz
   generalize Lib.trimRightB (four (m % 10000)) 48 = p at ht
   have g1 : decide ((Lib.decDigits (m / 10000)).length + 1 ≤ 4611686018427387904) = true := decide_eq_true (by omega)
   have g2 : decide ((Lib.decDigits (m / 10000) ++ [46]).length + p.length ≤ 4611686018427387904) = true := decide_eq_true (by rw [List.length_append, List.length_cons, List.length_nil]; omega)
   have g3 : decide ((Lib.decDigits (m / 10000) ++ [46] ++ p).length + 1 ≤ 4611686018427387904) = true := decide_eq_true (by rw [List.length_append, List.length_append, List.length_cons, List.length_nil]; omega)
   have e5 : (p != []) = !(p == []) := rfl
   rw [g1, g2, g3, e5]
   cases (p == [])
   ·simp [List.append_assoc]
   ·simp
  ·simp
 ·simp
theorem qfr (n : Int) : qgI n = some (qzo n) := by
 rw [qqC, qkc]
 unfold qzo
 cases h0 : decide (n < 0)
 ·cases h1 : decide (n > 1000000)
  ·have h0 := of_decide_eq_false h0
   have h1 := of_decide_eq_false h1
   obtain ⟨m, rfl⟩ := Int.eq_ofNat_of_zero_le (show 0 ≤ n by omega)
   have hm : m ≤ 1000000 := by omega
   have e1 : ((m : Int).tmod 10000) = ((m % 10000 : Nat) : Int) := rfl
   have e2 : ((m : Int).tdiv 10000) = ((m / 10000 : Nat) : Int) := rfl
   have e3 : IntKind.i64.wrap ((m / 10000 : Nat) : Int) = ((m / 10000 : Nat) : Int) := wrap64 (by omega) (by omega)
   have e4 : IntKind.i64.wrap (10000 + ((m % 10000 : Nat) : Int)) = ((10000 + m % 10000 : Nat) : Int) := by rw [wrap64 (by omega) (by omega)]; omega
   have hlt : m % 10000 < 10000 := Nat.mod_lt _ (by decide)
   have hd := qmx (m := m / 10000) (by omega)
   obtain ⟨_, ht, _⟩ := qff hlt
   have hw : ∀ k : Nat, k ≤ 1000000 → (decide (-9223372036854775808 ≤ ((k : Nat) : Int)) && decide (((k : Nat) : Int) ≤ 9223372036854775807)) = true := fun k hk => by
    rw [decide_eq_true (by omega), decide_eq_true (by omega)]; rfl
   have q1 : leB 1 (49 :: four (m % 10000)).length = true := rfl
   have q2 : List.drop 1 (49 :: four (m % 10000)) = four (m % 10000) := rfl
   have q3 : decide ((four (m % 10000)).length ≤ 9223372036854775807) = true := rfl
   simp only [e1, e2, e3, e4, hw _ (show 10000 + m % 10000 ≤ 1000000 by omega), hw _ (show m / 10000 ≤ 1000000 by omega), Lib.itoa_nonneg, qtt hlt, q1, q2, q3, ev_bi_some, br_eq, cond_false, cond_true, ev_br, Bool.or_false]
   rw [Int.toNat_natCast]
   unfold qsN qbz
   generalize Lib.trimRightB (four (m % 10000)) 48 = p at ht
   have g1 : decide ((Lib.decDigits (m / 10000)).length + 1 ≤ 4611686018427387904) = true := decide_eq_true (by omega)
   have g2 : decide (1 + p.length ≤ 4611686018427387904) = true := decide_eq_true (by omega)
   have g3 : decide ((Lib.decDigits (m / 10000)).length + ([46] ++ p).length ≤ 4611686018427387904) = true := decide_eq_true (by rw [List.length_append, List.length_cons, List.length_nil]; omega)
   have g4 : decide ((Lib.decDigits (m / 10000) ++ ([46] ++ p)).length + 1 ≤ 4611686018427387904) = true := decide_eq_true (by rw [List.length_append, List.length_append, List.length_cons, List.length_nil]; omega)
   have e5 : (p != []) = !(p == []) := rfl
   rw [g1, g2, g3, g4, e5]
   cases (p == [])
   ·simp [List.append_assoc]
   ·simp
  ·simp
 ·simp
end Go.Proofs.H09

/- Chapter 09: the laws over plain data. -/
import Derived.Test.YtoeknkhpjdomhaaGreatDoorX09Tkt
import Derived.Test.YtoeknkhpjdomhaaGreatDoorTkG
set_option linter.unusedVariables false
set_option linter.unusedSimpArgs false
set_option linter.unnecessarySimpa false
namespace Go.Proofs.H09
open Go Go.Eng Go.Tk
set_option maxRecDepth 20000
theorem qgo {l : List Tok} (hb : qsW l = true) : jB IP 18 (ET l) = true ∧ jS IP 18 (ET l) = (qex qbt l).1 ∧ jN IP 18 (ET l) = (qex qbt l).2 :=
 qD7 (qoN (IP := IP) (f := 18) (v := 30) (by kernel_rfl) (by kernel_rfl) (by kernel_rfl) hb fun t _ => qwM (t.kind, t.line, t.text) (qbt t) (qov _ _ _))
theorem qyG {l : List Tok} (h1 : l.length ≤ 1000000) (h2 : ∀ t ∈ l, t.text.length ≤ 1000000 ∧ (-9223372036854775808 ≤ t.line ∧ t.line ≤ 9223372036854775807)) : qsW l = true := by
 unfold qsW
 rw [decide_eq_true h1, Bool.true_and, List.all_eq_true]
 intro t ht
 obtain ⟨a, b, c⟩ := h2 t ht
 rw [decide_eq_true a, decide_eq_true b, decide_eq_true c]; rfl
abbrev sL : List Tok := [⟨5, 1, [102, 101, 101]⟩, ⟨1, 1, [120, 49]⟩, ⟨4, 2, [60, 61]⟩, ⟨2, 2, [49, 50]⟩, ⟨3, 2, [49, 46, 53, 37]⟩]
theorem lv1 : qa2 [102, 101, 101, 32, 32, 120, 49, 32, 35, 32, 111, 110, 101, 10, 60, 61, 32, 49, 50, 32, 49, 46, 53, 37] = (sL, 0, 0) := by kernel_rfl
theorem lv2 : qex qbt sL = ([102, 101, 101, 32, 120, 49, 10, 60, 61, 32, 49, 50, 32, 49, 46, 53, 37], 0) := by kernel_rfl
theorem lv3 : (qa2 [97, 10, 48, 49]).2 = (2, 2) := by kernel_rfl
theorem lv4 : qbd [48, 46, 48, 48, 48, 49, 37] = (1, 0) := by kernel_rfl
theorem lv5 : qzo 1000000 = ([49, 48, 48, 37], 0) := by
 have h : Lib.decDigits 100 = [49, 48, 48] := by
  rw [Lib.decDigits, dif_neg (by decide), Lib.decDigits_two (i := 100 / 10) (by decide) (by decide)]; rfl
 show (qsN 1000000, (0 : Int)) = _
 unfold qsN
 rw [show 1000000 / 10000 = 100 from rfl, h]; rfl
theorem lv6 : qdV [104, 97, 108, 102, 95, 101, 118, 101, 110] = true := by kernel_rfl
theorem qcg : qaN = some true := by
 obtain ⟨j1, j2, j3⟩ := qgo (l := sL) (by decide)
 rw [lv2] at j2 j3
 have h1 := qbv [102, 101, 101, 32, 32, 120, 49, 32, 35, 32, 111, 110, 101, 10, 60, 61, 32, 49, 50, 32, 49, 46, 53, 37]
 rw [lv1] at h1
 have h2 := qbv [97, 10, 48, 49]
 rw [lv3] at h2
 have h3 := qca (s := [48, 46, 48, 48, 48, 49, 37]) (by decide)
 rw [lv4] at h3
 have h4 := qfr 1000000
 rw [lv5] at h4
 have h5 := qiG (a := sL) (b := sL) (by decide)
 rw [decide_eq_true rfl] at h5
 have h6 := qdY [104, 97, 108, 102, 95, 101, 118, 101, 110]
 rw [lv6] at h6
 have h5' : qct (ET sL) [AV.agg [AV.int IntKind.i64 5, AV.int IntKind.i64 1, AV.str ([102, 101, 101] : List UInt8)], AV.agg [AV.int IntKind.i64 1, AV.int IntKind.i64 1, AV.str ([120, 49] : List UInt8)], AV.agg [AV.int IntKind.i64 4, AV.int IntKind.i64 2, AV.str ([60, 61] : List UInt8)], AV.agg [AV.int IntKind.i64 2, AV.int IntKind.i64 2, AV.str ([49, 50] : List UInt8)], AV.agg [AV.int IntKind.i64 3, AV.int IntKind.i64 2, AV.str ([49, 46, 53, 37] : List UInt8)]] = some true := h5
 rw [qq1, qkx, h1]
 simp only [ev_bi_some, ev_br, j1, j2, j3, h2, h3, h4, h5', h6, sm_some, gv_some, br_eq, cond_true]
 rfl
theorem qpZ (s : Bs) : qng s = some true := by
 rw [qqy, qj8, qcg]
 cases h : decide ((s.length : Int) > 100)
 ·have hl : ∃ v : qcB, qll (s, ES wordsS, 0) = some (1, v) ∧ v.1 = s := by
   have := qbq (st := fun v => (qfO v).ev) (l := wordsS) (hd := fun n => (s, ES wordsS, (n : Int))) (jx := fun _ => 0) (fun w => !qdV w) 1 (fun n h => by
    have hb : wordsS.length ≤ big := by decide
    have hl : decide ((n : Int) < ((ES wordsS).length : Int)) = true := by rw [List.length_map]; exact qbk h
    simp only [qfO, qhr, hl, qC3 h, qs0 h, qdY, ev_bi_some, ev_br, ev_at, cond_true, qao h hb]
    cases qdV wordsS[n] <;> rfl) (by simp [qfO, qhr])
   have e : wordsS.any (fun w => !qdV w) = false := by kernel_rfl
   rw [qbM, e] at this
   exact ⟨_, (qlm _).trans this, rfl⟩
  obtain ⟨v, hv, rfl⟩ := hl
  simp (decide := true) only [qiD, ev_br, cond_false, ev_bi_some, ev_bi_none, hv, pj_some, if_true, if_false, qdY, qiI, sm_some, gv_some, br_eq, beq_self_eq_true, cond_true, ev_at]
 ·rfl
theorem qdT {l : List Tok} (h : l.length ≤ big) : qct (ET l) (ET l) = some true := by rw [qiG h, decide_eq_true rfl]
theorem quC (s : Bs) : (qa2 s).1.length ≤ 2048 := by
 by_cases h : s.length ≤ 2048
 ·rw [qco h]; have := (qyS s.length s 1 (Nat.le_refl _)).1; omega
 ·rw [qf0 h]; exact Nat.zero_le _
theorem qj0 (s : Bs) : (qa2 s).1.length ≤ big := Nat.le_trans (quC s) (by decide)
theorem qpG (s : Bs) : qnf s = some true := by
 rw [qqx, qj7, qcg]
 cases h : decide ((s.length : Int) > 2100)
 ·simp only [qbv, qiu, qdT (qj0 s), ev_br, cond_false, ev_bi_some, sm_some, gv_some, br_eq, beq_self_eq_true, cond_true, ev_at]
 ·rfl
def qCP (l : List Tok) : Prop := l.length ≤ big ∧ ∀ t ∈ l, -9223372036854775808 ≤ t.line ∧ t.line ≤ 9223372036854775807
theorem qlZ {l : List Tok} (h : qCP l) (hs : qho l = true) : qsW l = true := by
 obtain ⟨h1, h2⟩ := qps hs
 exact qyG (by omega) fun t ht => ⟨by have := h2 t ht; omega, h.2 t ht⟩
theorem qpC {l : List Tok} (h : qCP l) : qnd (ET l) = some true := by
 rw [qqv, qj5, qcg, qiB]
 cases hs : qho l
 ·rfl
 ·obtain ⟨j1, j2, j3⟩ := qgo (qlZ h hs)
  simp only [ev_bi_some, ev_br, Bool.not_true, cond_false, cond_true, j1, j2, j3, qoB h.1 fun t ht => (h.2 t ht).2, sm_some, gv_some, br_eq, beq_self_eq_true, ev_at]
theorem qoO (l : List Tok) : (qex qbt l).2 = 0 ∧ (qex qbt l).1 = qia 0 1 l ∧ qf3 qbt 1 l = true ∧ (qia 0 1 l).length ≤ 2048 ∨ (qex qbt l).2 ≠ 0 := by
 unfold qex
 rw [qt4]
 cases h1 : qf3 qbt 1 l
 ·exact .inr (fun h => by cases h)
 ·cases h2 : okJ 0 1 ([] : Bs).length l
  ·exact .inr (fun h => by cases h)
  ·have := qsH h2 (by decide)
   rw [List.length_nil, Nat.zero_add] at this
   exact .inl ⟨rfl, rfl, rfl, this⟩
theorem qkR {s : Bs} (hs : s.length ≤ 2048) (he : (qa2 s).2.2 = 0) : ∃ x n, jB IP 18 (ET (qa2 s).1) = true ∧ jS IP 18 (ET (qa2 s).1) = x ∧ jN IP 18 (ET (qa2 s).1) = n ∧ (n = 5 ∧ 1024 < s.length ∨ n = 0 ∧ qa2 x = ((qa2 s).1, 0, 0)) := by
 have hT := qco hs
 obtain ⟨r1, r2, _⟩ := qyS s.length s 1 (Nat.le_refl _)
 rw [← hT] at r1 r2
 have hq : rdT s 1 = ((qa2 s).1, 0, 0) := by
  have h0 : ∀ s line, (rdT s line).2.2 = 0 → (rdT s line).2.1 = 0 := by
   have key : ∀ (k : Nat) (s : Bs) (line : Int), s.length ≤ k → (rdT s line).2.2 = 0 → (rdT s line).2.1 = 0 := by
    intro k
    induction k with
    | zero =>
     intro s line hk _
     have : s = [] := List.length_eq_zero_iff.1 (by omega)
     subst this; rfl
    | succ k ih =>
     intro s line hk h
     rw [qb2] at h ⊢
     cases hx : s.drop (blk false s) with
     | nil => rfl
     | cons c r =>
      rw [hx] at h
      simp only [Tk.stepT] at h ⊢
      have hlen := congrArg List.length hx
      rw [List.length_drop] at hlen
      cases he : ((qai (c :: r)).2.2 != 0)
      ·have he0 : (qai (c :: r)).2.2 = 0 := by simpa using he
       have hp := List.length_pos_iff.2 (qbn he0).1
       rw [he] at h
       simp only [cond_false, qgh] at h ⊢
       cases hz : ((rdT ((c :: r).drop (qai (c :: r)).2.1.length) (line + ((s.take (blk false s)).count 10 : Nat))).2.2 != 0)
       ·rw [bne_eq_false_iff_eq] at hz
        rw [cond_false]
        exact ih _ _ (by simp only [List.length_drop, List.length_cons] at hlen ⊢; omega) hz
       ·rw [hz, cond_true] at h
        rw [h] at hz; cases hz
      ·rw [he] at h
       simp only [cond_true] at h
       rw [h] at he; cases he
   exact fun s line => key s.length s line (Nat.le_refl _)
  rw [hT] at he ⊢
  exact Prod.ext rfl (Prod.ext (h0 s 1 he) he)
 obtain ⟨hc, ho⟩ := qyV s.length s 1 _ (Nat.le_refl _) hs hq
 have hb : qsW (qa2 s).1 = true := qyG (by omega) fun t ht => ⟨by have := (qfZ (qwN hc t ht)).1; omega, by have := (r2 t ht).1; omega, by have := (r2 t ht).2; omega⟩
 obtain ⟨j1, j2, j3⟩ := qgo hb
 refine ⟨_, _, j1, j2, j3, ?_⟩
 unfold qex
 rw [hc, qt4, cond_true]
 cases hk : okJ 0 1 ([] : Bs).length (qa2 s).1
 ·refine .inl ⟨rfl, ?_⟩
  rcases Nat.lt_or_ge 1024 s.length with hl | hl
  ·exact hl
  ·rw [ho 0 ([] : Bs).length (by rw [List.length_nil]; omega)] at hk; cases hk
 ·refine .inr ⟨rfl, ?_⟩
  have := qsH hk (by decide)
  rw [List.length_nil, Nat.zero_add] at this
  rw [cond_true, List.nil_append, qco this, qyU _ _ _ hc]
theorem qib {l : List Tok} (h : qCP l) (s : Bs) : qtN (ET l) s = some true := by
 rw [qtO, qn0, qcg, qiB]
 cases hs : qho l
 ·rfl
 ·cases hx : decide ((s.length : Int) > 2100)
  ·obtain ⟨j1, j2, j3⟩ := qgo (qlZ h hs)
   have two : ∀ {τ : Type} (r : Option τ), r = r := fun _ => rfl
   have he : ((qa2 s).2.2 != 0) = true ∨ ((qa2 s).2.2 = 0 ∧ s.length ≤ 2048) := by
    cases hq : ((qa2 s).2.2 != 0)
    ·right
     rw [bne_eq_false_iff_eq] at hq
     refine ⟨hq, ?_⟩
     rcases Nat.lt_or_ge 2048 s.length with hl | hl
     ·rw [qf0 (by omega)] at hq; cases hq
     ·exact hl
    ·exact .inl rfl
   have hnil : ((qa2 s).2.2 != 0) = true → (qa2 s).1 = [] := fun hq => by
    by_cases hl : s.length ≤ 2048
    ·rw [qco hl] at hq ⊢; exact qkQ s 1 hq
    ·rw [qf0 hl]
   rcases qoO l with ⟨a0, a1, ac, al⟩ | a0
   ·have hT : qa2 (qia 0 1 l) = (l, 0, 0) := by rw [qco al, qyU _ _ _ ac]
    rw [a0] at j3; rw [a1] at j2
    simp only [ev_bi_some, ev_br, Bool.not_true, br_eq, cond_false, cond_true, j1, j2, j3, beq_self_eq_true, qbv, hT, qdT h.1, bne_self_eq_false]
    rcases he with he | ⟨he, hl⟩
    ·simp [he, hnil he]
    ·obtain ⟨x, n, k1, k2, k3, k⟩ := qkR hl he
     rcases k with ⟨rfl, hk⟩ | ⟨rfl, hk⟩
     ·have : decide ((s.length : Int) > 1024) = true := decide_eq_true (by omega)
      simp [he, k1, k2, k3, this]
     ·simp [he, k1, k2, k3, hk, qdT (qj0 s)]
   ·have hz : ((qex qbt l).2 == 0) = false := by simpa using a0
    simp only [ev_bi_some, ev_br, Bool.not_true, br_eq, cond_false, cond_true, j1, j3, hz, qbv]
    rcases he with he | ⟨he, hl⟩
    ·simp [he, hnil he]
    ·obtain ⟨x, n, k1, k2, k3, k⟩ := qkR hl he
     rcases k with ⟨rfl, hk⟩ | ⟨rfl, hk⟩
     ·have : decide ((s.length : Int) > 1024) = true := decide_eq_true (by omega)
      simp [he, k1, k2, k3, this]
     ·simp [he, k1, k2, k3, hk, qdT (qj0 s)]
  ·simp
theorem qpF (s : Bs) : qne s = some true := by
 rw [qqw, qj6, qcg]
 cases h : decide ((s.length : Int) > 100)
 ·have h := of_decide_eq_false h
  have hb : s.length ≤ big := Nat.le_trans (show s.length ≤ 100 by omega) (by decide)
  simp only [qca hb, qiF (s := s) (by omega), ev_br, cond_false, ev_bi_some, br_eq, bne_self_eq_false, qfr]
  cases hz : ((qbd s).2 != 0)
  ·rw [bne_eq_false_iff_eq] at hz
   obtain ⟨h0, h1, h2⟩ := qul hz
   have e1 : decide ((qbd s).1 < 0) = false := decide_eq_false (by omega)
   have e2 : decide ((qbd s).1 > 1000000) = false := decide_eq_false (by omega)
   simp [qzo, e1, e2, h2]
  ·simp
 ·rfl
theorem quk {n : Nat} (h : n ≤ 1000000) : (qsN n).length ≤ big := by
 obtain ⟨_, ht, _⟩ := qff (m := n % 10000) (Nat.mod_lt _ (by decide))
 have hd := qmx (m := n / 10000) (by omega)
 refine Nat.le_trans (m := 100) ?_ (by decide)
 unfold qsN qbz
 rw [List.length_append, List.length_append, List.length_cons, List.length_nil]
 cases (Lib.trimRightB (four (n % 10000)) 48 != [])
 ·simp only [cond_false, List.length_nil]; omega
 ·simp only [cond_true, List.length_cons]; omega
theorem qkO (n : Int) : qnb n = some true := by
 rw [qqr, qj1, qcg]
 simp only [qfr, qot, ev_bi_some, beq_self_eq_true, Bool.not_true, br_eq, cond_false, bne_self_eq_false, ev_br]
 unfold qzo
 cases h0 : decide (n < 0)
 ·cases h1 : decide (n > 1000000)
  ·have h0 := of_decide_eq_false h0
   have h1 := of_decide_eq_false h1
   obtain ⟨m, rfl⟩ := Int.eq_ofNat_of_zero_le (show 0 ≤ n by omega)
   have hm : m ≤ 1000000 := by omega
   have hr := qca (quk hm)
   rw [quq hm] at hr
   simp [hr]
  ·have := qca (s := []) (by decide)
   simp [this]
 ·have := qca (s := []) (by decide)
  simp [this]
theorem qoa (s : Bs) (k e : Int) {l : List Tok} (hl : l.length ≤ big) (hr : ∀ t ∈ l, 1 ≤ t.line ∧ t.line ≤ 1000000) : qrT (s, ET l, k, e, ET (l.map fun t => (⟨t.kind, t.line + 1, t.text⟩ : Tok)), 0) = some (1, s, ET l, k, e, ET (l.map fun t => (⟨t.kind, t.line + 1, t.text⟩ : Tok)), ((l.length : Nat) : Int)) := by
 rw [qnu]
 refine qd1 (hd := fun n => (s, ET l, k, e, ET (l.map fun t => (⟨t.kind, t.line + 1, t.text⟩ : Tok)), (n : Int))) l.length 1 0 (Nat.zero_le _) (fun n _ h => ?_) ?_
 ·have hm : n < (l.map fun t => (⟨t.kind, t.line + 1, t.text⟩ : Tok)).length := by rw [List.length_map]; exact h
  have hlt : decide ((n : Int) < ((ET l).length : Int)) = true := by rw [List.length_map]; exact qbk h
  have hg : (l.map fun t => (⟨t.kind, t.line + 1, t.text⟩ : Tok))[n] = ⟨l[n].kind, l[n].line + 1, l[n].text⟩ := by simp
  have hw : IntKind.i64.wrap (l[n].line + 1) = l[n].line + 1 := by
   have := hr l[n] (List.getElem_mem h)
   exact wrap64 (by omega) (by omega)
  simp only [ql6, qjV, hlt, okT h, okT hm, qt0 h, qt0 hm, qt1 h, qt1 hm, qt2 h, qt2 hm, hg, hw, ev_br, ev_at, cond_true, cond_false, bne_self_eq_false, beq_self_eq_true, Bool.not_true, qao h hl]
 ·simp [ql6, qjV]
theorem qn3 (s : Bs) : qnc s = some true := by
 rw [qqu, qj4, qcg]
 cases h : decide ((s.length : Int) > 2000)
 ·have h := of_decide_eq_false h
  have hs : s.length ≤ 2000 := by omega
  have t0 : qa2 s = rdT s 1 := qco (by omega)
  have t1 : qa2 ([35, 32, 49, 46, 53, 32, 61, 10] ++ s) = Tk.shT 1 (rdT s 1) := by
   have hl : ([35, 32, 49, 46, 53, 32, 61, 10] ++ s : Bs).length ≤ 2048 := by rw [List.length_append]; simp only [List.length_cons, List.length_nil]; omega
   rw [qco hl, qpY (p := [35, 32, 49, 46, 53, 32, 61, 10]) (s := s) ?_]
   ·exact qyT 1 s.length s 1 (Nat.le_refl _)
   ·show blk false s + 1 + 1 + 1 + 1 + 1 + 1 + 1 + 1 = 8 + blk false s
    omega
  have t2 : qa2 ([9, 32] ++ s ++ [10, 32, 35]) = rdT s 1 := by
   have hl : ([9, 32] ++ s ++ [10, 32, 35] : Bs).length ≤ 2048 := by rw [List.length_append, List.length_append]; simp only [List.length_cons, List.length_nil]; omega
   rw [qco hl, List.append_assoc, qpY (p := [9, 32]) (s := s ++ [10, 32, 35]) ?_]
   ·exact qz9 (q := [32, 35]) rfl s.length s _ (Nat.le_refl _)
   ·exact qm8 [9, 32] rfl
  obtain ⟨r1, r2, r3⟩ := qyS s.length s 1 (Nat.le_refl _)
  have hb : (rdT s 1).1.length ≤ big := Nat.le_trans r1 (Nat.le_trans hs (by decide))
  have q1 : decide (8 + s.length ≤ 4611686018427387904) = true := decide_eq_true (by omega)
  have q2 : decide (2 + s.length ≤ 4611686018427387904) = true := decide_eq_true (by omega)
  have q3 : decide (([9, 32] ++ s : Bs).length + 3 ≤ 4611686018427387904) = true := decide_eq_true (by rw [List.length_append]; simp only [List.length_cons, List.length_nil]; omega)
  have hbl := qoa s (rdT s 1).2.1 (rdT s 1).2.2 hb fun t ht => ⟨(r2 t ht).1, by have := (r2 t ht).2; omega⟩
  have q4 : (((ET (rdT s 1).1).length : Int) != ((ET ((rdT s 1).1.map fun t => (⟨t.kind, t.line + 1, t.text⟩ : Tok))).length : Int)) = false := by simp
  simp only [ev_br, cond_false, qbv, t0, t1, Tk.shT, ev_bi_some, q1, cond_true, bne_self_eq_false, br_eq, q4]
  have q5 : (bif ((rdT s 1).2.2 != 0) then some ((bif ((rdT s 1).2.2 != 0) then (rdT s 1).2.1 + 1 else (rdT s 1).2.1) != IntKind.i64.wrap ((rdT s 1).2.1 + 1)) else some false) = some false := by
   cases hz : ((rdT s 1).2.2 != 0)
   ·rfl
   ·have := r3 (by simpa using hz)
    rw [wrap64 (by have := this.1; omega) (by have := this.2; omega)]; simp
  rw [q5]
  simp (decide := true) only [ev_bi_some, ev_bi_none, ev_br, cond_false, cond_true, hbl, pj_some, if_true, if_false, q2, q3, qbv, t2, qdT hb, br_eq, beq_self_eq_true, sm_some, gv_some, ev_at]
 ·rfl
end Go.Proofs.H09

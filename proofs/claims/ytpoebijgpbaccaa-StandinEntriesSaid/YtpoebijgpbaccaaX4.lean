/- The program's Authorize; the second law. -/
import Derived.Test.YtpoebijgpbaccaaX3
set_option linter.unusedVariables false
set_option linter.unusedSimpArgs false
set_option linter.unnecessarySimpa false
namespace Go.Proofs.H53
open Go Go.Eng
set_option maxRecDepth 20000

theorem f13_val {a : List Avl} {q : List Wai} (ha : a.length ≤ big) (hq : okL q) (lm id amt : Int) {key : List UInt8} (hk : key.length ≤ big) :
    f13 lm (EA a) (EW q) id amt key = some ((authS lm a q id amt key).1, EA (authS lm a q id amt key).2.1, EW (authS lm a q id amt key).2.2.1, (authS lm a q id amt key).2.2.2) := by
  rw [f13_eq, tr13, f28_val ha, f9_val ha hq, f29_val, f30_val hk]
  unfold authS
  simp only [sm_some, gv_some, br_eq, cond_true, cond_some, ev_bi_some, ev_br, ev_at]
  have hcond : (bif (bif (bif chk lm a q != 0 then true else amt == 0) then true else !amtB amt) then true else !keyB key) = ((chk lm a q != 0) || !shapedB amt key) := by
    unfold shapedB bne
    cases (chk lm a q == 0) <;> cases (amt == 0) <;> cases amtB amt <;> cases keyB key <;> rfl
  rw [hcond]
  by_cases hc : chk lm a q = 0
  · have e1 : (chk lm a q != 0) = false := by simpa using hc
    cases hs : shapedB amt key
    · rw [e1]; simp
    · rw [e1, if_neg (by simp [hc])]
      obtain ⟨k1, k2, k3, k4, _, _, _⟩ := chk_ok hc
      have hamt : -1000000000000 ≤ amt ∧ amt ≤ 1000000000000 := by
        unfold shapedB at hs
        simp only [Bool.and_eq_true] at hs
        simpa [amtB] using hs.2.1
      simp only [Bool.not_true, Bool.or_false, cond_false, idx_lt, f31a_val hq.1, ev_bi_some, ev_br, ev_at, any_idx (p := accB id)]
      by_cases hi : a.findIdx (accB id) < a.length
      · rw [dif_pos hi, decide_eq_true hi, show idx a id = ((a.findIdx (accB id) : Nat) : Int) from if_pos hi]
        generalize hgi : a.findIdx (accB id) = i at hi
        obtain ⟨u1, u2, u3, u4, u5⟩ := used_ok hc hi
        simp only [Bool.not_true, cond_false]
        cases q.any (keyIs key)
        · simp only [cond_false, Bool.false_eq_true, if_false]
          by_cases h64 : 64 ≤ q.length
          · have : decide (((EW q).length : Int) ≥ 64) = true := by simp; omega
            rw [this, if_pos h64]; rfl
          · have e64 : decide (((EW q).length : Int) ≥ 64) = false := by simp; omega
            rw [e64, if_neg h64]
            have d1 : decide (a.length = 0) = false := decide_eq_false (by omega)
            have d2 : decide (a.length ≠ 0) = true := decide_eq_true (by omega)
            have d3 : decide (a.length * 24 ≤ lim) = true := decide_eq_true (by simp only [lim]; omega)
            have d4 : room (q.length + 1) 32 = true := room_of (by simp only [lim]; omega)
            have d5 : decide (q.length * 32 ≤ lim) = true := decide_eq_true (by simp only [lim]; omega)
            have happ : ∀ (A : List AV), (bif decide (q.length = 0) then some ((lm, A, [AV.agg [AV.int IntKind.i64 id, AV.int IntKind.i64 amt, AV.str key]], 0) : Int × List AV × List AV × Int)
                else bif decide (q.length ≠ 0) && decide (q.length * 32 ≤ lim) then bif room (q.length + 1) 32 then some (lm, A, EW q ++ [AV.agg [AV.int IntKind.i64 id, AV.int IntKind.i64 amt, AV.str key]], 0) else none else none) = some (lm, A, EW (q ++ [⟨id, amt, key⟩]), 0) := by
              intro A
              rw [d4, d5, ew_app]
              cases q with
              | nil => rfl
              | cons w q => simp
            have p2 : Go.Eng.okS (EA a) i 0 3 = true := by rw [okS_map hi]; rfl
            have n0 : ((0 : Int) != 0) = false := rfl
            have n18 : ((18 : Int) != 0) = true := rfl
            by_cases hneg : amt < 0
            · have hw0 : IntKind.i64.wrap (0 - amt) = -amt := by rw [wrap64 (by omega) (by omega)]; omega
              have hm : (if lm < a[i].amt then lm else a[i].amt) - a[i].used ≤ 1000000000000 ∧ 0 ≤ (if lm < a[i].amt then lm else a[i].amt) - a[i].used := by split <;> omega
              have hw1 : IntKind.i64.wrap ((if lm < a[i].amt then lm else a[i].amt) - a[i].used) = (if lm < a[i].amt then lm else a[i].amt) - a[i].used := wrap64 (by omega) (by omega)
              have hw2 : IntKind.i64.wrap (a[i].used + -amt) = a[i].used - amt := by rw [wrap64 (by omega) (by omega)]; omega
              have e33 : f33 amt = some (.inl (-amt)) := by rw [f33_eq, tr33, decide_eq_true hneg, hw0]; rfl
              have p4 : setE (EA a) i 0 [AV.int IntKind.i64 a[i].acc, AV.int IntKind.i64 a[i].amt, AV.int IntKind.i64 (a[i].used - amt)] = EA (a.set i (setUsed a[i] (a[i].used - amt))) := setE_map hi rfl
              have hcmp : decide (-amt > (if lm < a[i].amt then lm else a[i].amt) - a[i].used) = decide (a[i].used - amt > a[i].amt ∨ a[i].used - amt > lm) := by
                rw [decide_eq_decide]
                split <;> omega
              rw [if_pos hneg, e33]
              simp only [cond_false, pl_inl, ev_bi_some, ev_br, okA hi, qa0 hi, qa1 hi, qa2 hi, cond_true, f77_eq, tr77, hw1, hw2, hcmp, ev_at, List.length_map]
              by_cases g : a[i].used - amt > a[i].amt ∨ a[i].used - amt > lm
              · rw [decide_eq_true g, if_pos g]; rfl
              · rw [decide_eq_false g, if_neg g]
                simp only [cond_false, ev_bi_some, ev_br, ev_at, ev_no, n0, d1, d2, d3, Bool.and_self, cond_true, inB_at hi, Int.toNat_natCast, p2, p4, happ]
            · have e33 : f33 amt = some (.inr ()) := by rw [f33_eq, tr33, decide_eq_false hneg]; rfl
              have p4 : setE (EA a) i 0 [AV.int IntKind.i64 a[i].acc, AV.int IntKind.i64 a[i].amt, AV.int IntKind.i64 a[i].used] = EA a := by
                rw [setE_map (y := a[i]) hi rfl]; simp
              rw [if_neg hneg, e33]
              simp only [cond_false, pl_inr, pr_inr, ev_bi_some, ev_bi_none, ev_br, okA hi, qa0 hi, qa1 hi, qa2 hi, cond_true, f78_eq, tr78, ev_at, ev_no, n0, List.length_map, d1, d2, d3, Bool.and_self, inB_at hi, Int.toNat_natCast, p2, p4, happ]
        · simp
      · rw [dif_neg hi, decide_eq_false hi]; rfl
  · have e1 : (chk lm a q != 0) = true := by simpa using hc
    rw [e1, if_pos (.inl hc)]; rfl

theorem auth_len {lm : Int} {a : List Avl} {q : List Wai} (id amt : Int) (key : List UInt8) : (authS lm a q id amt key).2.1.length ≤ a.length ∧ (authS lm a q id amt key).2.2.1.length ≤ q.length + 1 := by
  unfold authS
  split
  · simp
  · split
    · split
      · simp
      · split
        · simp
        · split
          · split <;> simp
          · simp
    · simp
theorem f4_val {a : List Avl} {q : List Wai} (ha : a.length ≤ big) (hq : okL q) (lm id amt : Int) {key : List UInt8} (hk : key.length ≤ big) : f4 lm (EA a) (EW q) id amt key = some true := by
  rw [f4_eq, tr4, f7_val hq.1, f8_val, f13_val ha hq lm id amt hk, f14_val ha hq lm id amt hk]
  simp only [ev_bi_some, br_eq, cond_some, ev_br, ev_at]
  by_cases hf : fewB a q = true
  · have hl : a.length ≤ 80 ∧ q.length ≤ 80 := by
      simp only [fewB, Bool.and_eq_true, Bool.not_eq_true', Bool.or_eq_false_iff, decide_eq_false_iff_not] at hf
      omega
    obtain ⟨n1, n2⟩ := auth_len (lm := lm) (a := a) (q := q) id amt key
    simp only [f15_val (a := (authS lm a q id amt key).2.1) (q := (authS lm a q id amt key).2.2.1) (by simp only [big]; omega) (by simp only [big]; omega), ev_bi_some, decide_true, Bool.and_self, cond_true, beq_self_eq_true, sm_some, gv_some, hf]
    cases decide ((key.length : Int) > 100) <;> rfl
  · have : fewB a q = false := by simpa using hf
    rw [this]; rfl

end Go.Proofs.H53

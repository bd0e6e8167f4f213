/- Chapter 12: the laws over plain data. -/
import Derived.Test.YtlgbnjnkcoiceaaGreatDoorX12Cde
set_option linter.unusedVariables false
set_option linter.unusedSimpArgs false
set_option linter.unnecessarySimpa false
namespace Go.Proofs.H12
open Go Go.Eng Go.Tk
set_option maxRecDepth 20000
abbrev sE : Ex := .mk 19 0 [] [.mk 12 0 [] [.mk 4 0 [97, 103, 101] [], .mk 1 5 [] []], .mk 2 3 [] [], .mk 4 0 [97, 109, 111, 117, 110, 116] []]
abbrev sV : List Va := [⟨[97, 103, 101], 1⟩, ⟨[97, 109, 111, 117, 110, 116], 2⟩]
abbrev sI : List In := [⟨2, 0, 0⟩, ⟨1, 1, 5⟩, ⟨3, 12, 0⟩, ⟨5, 6, 0⟩, ⟨1, 2, 3⟩, ⟨4, 7, 0⟩, ⟨2, 1, 0⟩]
theorem sample_val : f_u115q = some (19, 0, [], EX sE.args, EV sV) := by rw [f_u115q_eq, tr_u115q]; rfl
theorem comp_s : compS sE sV = (⟨2, sV, sI⟩, 0) := by kernel_rfl
theorem comp_t : compS sE [⟨[97, 103, 101], 1⟩] = (⟨0, [], []⟩, 4) := by kernel_rfl
theorem run_s : runS ⟨2, sV, sI⟩ = (2, 0) := by kernel_rfl
theorem run_t : (runS ⟨2, [], [⟨1, 1, 1⟩]⟩).2 = 9 := by kernel_rfl
theorem itoa_d {k : Nat} (h : k < 10) : Lib.itoa (k : Int) = [UInt8.ofNat (48 + k)] := by rw [Lib.itoa_nonneg, Lib.decDigits_one h]
abbrev sT : Bs := [108, 111, 97, 100, 32, 97, 103, 101, 10, 112, 117, 115, 104, 32, 110, 117, 109, 98, 101, 114, 32, 53, 10, 108, 116, 10, 102, 97, 108, 115, 101, 32, 54, 10, 112, 117, 115, 104, 32, 97, 109, 111, 117, 110, 116, 32, 51, 10, 106, 117, 109, 112, 32, 55, 10, 108, 111, 97, 100, 32, 97, 109, 111, 117, 110, 116, 10]
theorem print_s : printS ⟨2, sV, sI⟩ = sT := by
  have h3 : Lib.itoa 3 = [51] := itoa_d (k := 3) (by decide)
  have h5 : Lib.itoa 5 = [53] := itoa_d (k := 5) (by decide)
  have h6 : Lib.itoa 6 = [54] := itoa_d (k := 6) (by decide)
  have h7 : Lib.itoa 7 = [55] := itoa_d (k := 7) (by decide)
  unfold printS
  rw [run_s]
  have e1 : lineS sV ⟨2, 0, 0⟩ = [108, 111, 97, 100, 32, 97, 103, 101] := rfl
  have e2 : lineS sV ⟨1, 1, 5⟩ = [112, 117, 115, 104, 32, 110, 117, 109, 98, 101, 114, 32, 53] := by
    show [112, 117, 115, 104, 32] ++ _ ++ [32] ++ Lib.itoa 5 = _
    rw [h5]; rfl
  have e3 : lineS sV ⟨3, 12, 0⟩ = [108, 116] := rfl
  have e4 : lineS sV ⟨5, 6, 0⟩ = [102, 97, 108, 115, 101, 32, 54] := by
    show [102, 97, 108, 115, 101, 32] ++ Lib.itoa 6 = _
    rw [h6]; rfl
  have e5 : lineS sV ⟨1, 2, 3⟩ = [112, 117, 115, 104, 32, 97, 109, 111, 117, 110, 116, 32, 51] := by
    show [112, 117, 115, 104, 32] ++ _ ++ [32] ++ Lib.itoa 3 = _
    rw [h3]; rfl
  have e6 : lineS sV ⟨4, 7, 0⟩ = [106, 117, 109, 112, 32, 55] := by
    show [106, 117, 109, 112, 32] ++ Lib.itoa 7 = _
    rw [h7]; rfl
  have e7 : lineS sV ⟨2, 1, 0⟩ = [108, 111, 97, 100, 32, 97, 109, 111, 117, 110, 116] := rfl
  show List.foldl (fun s x => s ++ (lineS sV x ++ [10])) [] sI = sT
  simp only [List.foldl_cons, List.foldl_nil, e1, e2, e3, e4, e5, e6, e7]
  rfl
theorem lives_val : f_u141q = some true := by
  have h1 := f_u80q_val (vs := sV) (by decide) (e := sE) (by decide)
  rw [comp_s] at h1
  have h2 := f_u57q_val (c := ⟨2, sV, sI⟩) (by decide)
  have h3 := f_u129q_val (c := ⟨2, sV, sI⟩) (by decide)
  rw [run_s] at h2 h3
  have h4 := f_u156q_val (a := ⟨2, sV, sI⟩) (b := ⟨2, sV, sI⟩) (by decide) (by decide)
  rw [same_refl] at h4
  have h5 := f_u80q_val (vs := [⟨[97, 103, 101], 1⟩]) (by decide) (e := sE) (by decide)
  rw [comp_t] at h5
  have h6 := f_Print_val (c := ⟨2, sV, sI⟩) (by decide) (by decide)
  rw [print_s] at h6
  have h7 := f_u57q_val (c := ⟨2, [], [⟨1, 1, 1⟩]⟩) (by decide)
  rw [run_t] at h7
  simp only [Ex.op, Ex.num, Ex.txt] at h1 h5
  have h7' : f_u57q 2 [] [AV.agg [AV.int IntKind.i64 1, AV.int IntKind.i64 1, AV.int IntKind.i64 1]] = some 9 := h7
  have h5' : f_u80q 19 0 [] (EX sE.args) (List.take 1 (EV sV)) = some (0, [], [], 4) := h5
  rw [f_u141q_eq, tr_u141q, sample_val]
  simp only [ev_bi_some, h1, h2, h3, h4, h5', h6, h7', sm_some, gv_some, br_eq]
  rfl
theorem comp_len (e : Ex) (vs : List Va) : (compS e vs).1.vars.length ≤ 100 ∧ (compS e vs).1.ins.length ≤ 1000 := by
  unfold compS
  cases h1 : (varsS vs != 0)
  · cases h2 : ((ofS e vs).2 != 0)
    · obtain ⟨h3, h4⟩ := of_valid (e := e) (vs := vs) (by simpa using h2)
      have h5 := em_len vs e h4 0
      have h6 := vars_len (vs := vs) (by simpa using h1)
      simp only [cond_false]
      omega
    · simp
  · simp
theorem gt100 {n : Nat} : decide ((n : Int) > 100) = decide (n > 100) := by
  by_cases h : n > 100
  · rw [decide_eq_true h, decide_eq_true (by omega)]
  · rw [decide_eq_false h, decide_eq_false (by omega)]
theorem small_nodes {e : Ex} (h : smallB e = true) : e.nodes ≤ 150 := by
  unfold smallB at h
  simp only [Bool.and_eq_true, decide_eq_true_eq] at h
  exact h.2
noncomputable def exB (e f : Ex) : Bool := @decide (e = f) (Classical.propDecidable _)
theorem exB_iff {e f : Ex} : exB e f = true ↔ e = f := by unfold exB; simp
theorem R10_Same_key : ∀ (e : Ex), Wd e → ∀ (f : Ex), ∀ k, e.dep ≤ k → N_u162q k e.op e.num e.txt (EX e.args) f.op f.num f.txt (EX f.args) = some (exB e f) := by
  intro e
  induction e using Ex.ind with
  | h o n s l ih =>
    intro hw f k hk
    obtain ⟨o', n', s', m⟩ := f
    simp only [Ex.dep] at hk
    cases k with
    | zero => omega
    | succ k =>
      show (tr_u162q (N_u162q k) o n s (EX l) o' n' s' (EX m)).ev = _
      rw [tr_u162q, List.length_map, List.length_map]
      simp only [br_eq]
      by_cases c1 : o = o'
      · by_cases c2 : n = n'
        · by_cases c3 : s = s'
          · subst c1 c2 c3
            by_cases c4 : l.length = m.length
            · have e4 : ((l.length : Int) != (m.length : Int)) = false := by simp [c4]
              have hlen : l.length ≤ big := hw.len
              have hloop : ∃ w, l_u118q (N_u162q k) (0, o, n, s, EX l, o, n, s, EX m) = some (seek (fun i => match l[i]?, m[i]? with | some a, some b => !exB a b | _, _ => false) (fun _ => 0) 1 (List.range l.length), w) := by
                have h := loop_searchI (st := fun v => (st_u118q (N_u162q k) v).ev) l.length (hd := fun i => ((i : Int), o, n, s, EX l, o, n, s, EX m)) (fun i => match l[i]?, m[i]? with | some a, some b => !exB a b | _, _ => false) (fun _ => 0) 1 (fun i hn => ?_) ?_
                · rw [l_u118q_eq]; exact ⟨_, h⟩
                · have hn' : i < m.length := by omega
                  have hd := Ex.depL_mem (List.getElem_mem hn)
                  have hg := ih l[i] (List.getElem_mem hn) (hw.arg (List.getElem_mem hn)) m[i] k (by omega)
                  simp only [st_u118q, st_u118q_0, List.length_map, lt_at hn, okX hn, okX hn', qx0 hn, qx1 hn, qx2 hn, qx3 hn, qx0 hn', qx1 hn', qx2 hn', qx3 hn', hg, ev_br, ev_at, ev_bi_some, cond_true, wrap_succ hn hlen, List.getElem?_eq_getElem hn, List.getElem?_eq_getElem hn']
                  cases exB l[i] m[i] <;> rfl
                · simp [st_u118q, st_u118q_0]
              obtain ⟨w, hloop⟩ := hloop
              have e0 : ((!s == s) : Bool) = false := by simp
              simp only [bne_self_eq_false, e0, e4, cond_false, ev_bi_some, ev_br, hloop, seek_const]
              have hany : (List.range l.length).any (fun i => match l[i]?, m[i]? with | some a, some b => !exB a b | _, _ => false) = !exB (.mk o n s l) (.mk o n s m) := by
                rw [Bool.eq_iff_iff, List.any_eq_true, Bool.not_eq_true', ← Bool.not_eq_true, exB_iff]
                constructor
                · rintro ⟨i, hi, hx⟩ h
                  have hi' : i < l.length := by simpa using hi
                  simp only [Ex.mk.injEq, true_and] at h
                  subst h
                  rw [List.getElem?_eq_getElem hi'] at hx
                  have := (exB_iff (e := l[i]) (f := l[i])).2 rfl
                  replace hx : (!exB l[i] l[i]) = true := hx
                  rw [this] at hx; simp at hx
                · intro h
                  apply Classical.byContradiction
                  intro hc
                  apply h
                  have : l = m := by
                    apply List.ext_getElem c4
                    intro i h1 h2
                    apply Classical.byContradiction
                    intro hne
                    apply hc
                    refine ⟨i, by simpa using h1, ?_⟩
                    rw [List.getElem?_eq_getElem h1, List.getElem?_eq_getElem h2]
                    show (!exB l[i] m[i]) = true
                    cases hq : exB l[i] m[i]
                    · rfl
                    · exact absurd (exB_iff.1 hq) hne
                  rw [this]
              rw [hany]
              cases exB (.mk o n s l) (.mk o n s m) <;> rfl
            · have e4 : ((l.length : Int) != (m.length : Int)) = true := by simp; omega
              have e0 : ((!s == s) : Bool) = false := by simp
              have : exB (.mk o n s l) (.mk o n s m) = false := by
                rw [Bool.eq_false_iff]; intro h
                have := exB_iff.1 h
                simp only [Ex.mk.injEq, true_and] at this
                exact c4 (by rw [this])
              simp only [bne_self_eq_false, e0, e4, cond_false, cond_true, ev_bi_some, ev_br, ev_at, this]
          · have e3 : ((!s == s') : Bool) = true := by simp [c3]
            have : exB (.mk o n s l) (.mk o' n' s' m) = false := by
              rw [Bool.eq_false_iff]; intro h
              have := exB_iff.1 h
              simp only [Ex.mk.injEq] at this
              exact c3 this.2.2.1
            subst c1 c2
            simp only [bne_self_eq_false, e3, cond_false, cond_true, ev_bi_some, ev_br, ev_at, this]
        · have e2 : (n != n') = true := by simpa using c2
          have : exB (.mk o n s l) (.mk o' n' s' m) = false := by
            rw [Bool.eq_false_iff]; intro h
            have := exB_iff.1 h
            simp only [Ex.mk.injEq] at this
            exact c2 this.2.1
          subst c1
          simp only [bne_self_eq_false, e2, cond_false, cond_true, ev_bi_some, ev_br, ev_at, this]
      · have e1 : (o != o') = true := by simpa using c1
        have : exB (.mk o n s l) (.mk o' n' s' m) = false := by
          rw [Bool.eq_false_iff]; intro h
          have := exB_iff.1 h
          simp only [Ex.mk.injEq] at this
          exact c1 this.1
        simp only [e1, cond_true, ev_bi_some, ev_br, ev_at, this]
theorem f_u162q_val {e f : Ex} (hw : Wd e) : f_u162q e.op e.num e.txt (EX e.args) f.op f.num f.txt (EX f.args) = some (exB e f) := limO_of (R10_Same_key e hw f)
theorem comp_inj {x y : Ex} {vs : List Va} (hx : (compS x vs).2 = 0) (hy : (compS y vs).2 = 0) : sameS (compS x vs).1 (compS y vs).1 = exB x y := by
  obtain ⟨a1, a2, a3, _⟩ := comp_run hx
  obtain ⟨b1, b2, b3, _⟩ := comp_run hy
  have fx := of_valid a2
  have fy := of_valid b2
  have tx : ∀ {z : Ex}, (ofS z vs).2 = 0 → z.ty vs = ((ofS z vs).1, 0) := by
    intro z h
    unfold ofS at h ⊢
    cases hz : (validS z != 0)
    · rw [hz] at h
      simp only [cond_false] at h ⊢
      rw [← h]
    · rw [hz] at h
      simp only [cond_true] at h
      rw [h] at hz; simp at hz
  rw [Bool.eq_iff_iff, exB_iff]
  constructor
  · intro h
    unfold sameS at h
    simp only [Bool.and_eq_true, beq_iff_eq] at h
    have hi := h.2
    rw [a3, b3] at hi
    exact em_inj fx.2 fy.2 (tx a2) (tx b2) hi
  · rintro rfl
    exact same_refl _
theorem Differs_law {vs : List Va} (hv : vs.length ≤ big) {x y : Ex} (hx : Wd x) (hy : Wd y) : f_u41q x.op x.num x.txt (EX x.args) y.op y.num y.txt (EX y.args) (EV vs) = some true := by
  rw [f_u41q_eq, tr_u41q, small_val hx, small_val hy, lives_val]
  simp only [ev_bi_some, br_eq, ev_br, ev_at, List.length_map, gt100, sm_some, gv_some, cond_true]
  cases hs : smallB x
  · rfl
  · have hn := small_nodes hs
    cases ht : smallB y
    · rfl
    · have hm := small_nodes ht
      cases hg : decide (vs.length > 100)
      · obtain ⟨h1, h2⟩ := comp_len x vs
        have hb : x.nodes ≤ big := by simp only [big]; omega
        have hb' : y.nodes ≤ big := by simp only [big]; omega
        simp only [f_u80q_val hv hb, f_u80q_val hv hb', f_u162q_val (f := y) hx, ev_bi_some, ev_br, ev_at, cond_true, cond_false, Bool.not_true]
        cases he : ((compS x vs).2 != 0)
        · cases hf : ((compS y vs).2 != 0)
          · have hS := f_u156q_val (a := (compS x vs).1) (b := (compS y vs).1) (by simp only [big]; omega) (by simp only [big]; omega)
            rw [comp_inj (by simpa using he) (by simpa using hf)] at hS
            simp only [hS, cond_false, ev_bi_some, ev_br, ev_at, Bool.false_eq_true, if_false, beq_self_eq_true, cond_true]
          · rfl
        · rfl
      · rfl
end Go.Proofs.H12

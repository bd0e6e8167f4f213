/- Expire: its map, in plain lists; its summary. -/
import Derived.Test.YtggaijkihehlmaaG10
set_option linter.unusedVariables false
set_option linter.unusedSimpArgs false
set_option linter.unnecessarySimpa false
namespace Go.Proofs.H22
open Go Go.Eng
set_option maxRecDepth 20000

def kv (js : List Nat) (v : Nat → AV) : List (AV × AV) := js.map fun (j : Nat) => (AV.int .i64 (j : Int), v j)

theorem key_i (i j : Nat) : keyEq kI (.int .i64 (i : Int)) (.int .i64 (j : Int)) = some (decide (i = j)) := by
  show some ((i : Int) == (j : Int)) = _
  congr 1
  rw [Bool.eq_iff_iff]; simp only [beq_iff_eq, decide_eq_true_eq]; omega

theorem isKey_i (i : Nat) : Go.Eng.isKey kI (.int .i64 (i : Int)) = true := by
  simp [Go.Eng.isKey, key_i]

theorem mfind_kv (v : Nat → AV) (i : Nat) : ∀ js, mfind kI (kv js v) (.int .i64 (i : Int)) = some (if i ∈ js then some (v i) else none)
  | [] => rfl
  | j :: js => by
    have ih := mfind_kv v i js
    simp only [kv, List.map_cons, mfind, key_i]
    by_cases h : i = j
    · subst h; simp
    · simp only [h, decide_false]
      rw [show js.map (fun (j : Nat) => (AV.int IntKind.i64 (j : Int), v j)) = kv js v from rfl, ih]
      simp [h]

theorem mput_kv (v : Nat → AV) (i : Nat) : ∀ js, i ∉ js → mput kI (kv js v) (.int .i64 (i : Int)) (v i) = some (kv (js ++ [i]) v)
  | [], _ => rfl
  | j :: js, h => by
    have hj : ¬ i = j := fun e => h (by simp [e])
    have ih := mput_kv v i js (fun hm => h (by simp [hm]))
    simp only [kv, List.map_cons, mput, key_i, hj, decide_false]
    rw [show js.map (fun (j : Nat) => (AV.int IntKind.i64 (j : Int), v j)) = kv js v from rfl, ih]
    rfl

theorem mcut_kv (v : Nat → AV) (i : Nat) : ∀ js, mcut kI (kv js v) (.int .i64 (i : Int)) = some (kv (js.erase i) v)
  | [] => rfl
  | j :: js => by
    have ih := mcut_kv v i js
    simp only [kv, List.map_cons, mcut, key_i]
    by_cases h : i = j
    · subst h; simp
    · simp only [h, decide_false]
      rw [show js.map (fun (j : Nat) => (AV.int IntKind.i64 (j : Int), v j)) = kv js v from rfl, ih]
      rw [List.erase_cons_tail (by simpa using fun e => h e.symm)]
      rfl

theorem putN_eq (l : List H) : ∀ i, putN l i = kv (List.range i) (fun j => (gt l j).av)
  | 0 => rfl
  | i + 1 => by
    simp only [putN, mputK, putN_eq l i, mput_kv (fun j => (gt l j).av) i (List.range i) (by simp), Option.getD_some, List.range_succ]

theorem putB_true (l : List H) (n : Nat) : putB l n = true := by
  simp only [putB, List.all_eq_true, mputB, isKey_i, Bool.true_and]
  intro i _
  rw [putN_eq, mput_kv (fun j => (gt l j).av) i (List.range i) (by simp)]; rfl

def left (l : List H) (k : Int) (n i : Nat) : List Nat := (List.range n).filter fun j => !(decide (j < i) && decide ((gt l j).to < k))

theorem erase_filter (js : List Nat) (hn : js.Nodup) (p : Nat → Bool) (i : Nat) : (js.filter p).erase i = js.filter fun j => p j && decide (j ≠ i) := by
  rw [List.Nodup.erase_eq_filter (hn.filter _), List.filter_filter]
  congr 1
  funext j
  by_cases h : j = i <;> simp [h, bne, Bool.and_comm]

theorem cutN_eq (l : List H) (k : Int) (n : Nat) : ∀ i, cutN (putN l n) l k i = kv (left l k n i) (fun j => (gt l j).av)
  | 0 => by
    simp only [cutN, putN_eq, left]
    congr 1
    symm
    rw [List.filter_eq_self]
    simp
  | i + 1 => by
    simp only [cutN, cutN_eq l k n i]
    by_cases ht : (gt l i).to < k
    · rw [if_pos ht, mcutK, mcut_kv, Option.getD_some]
      congr 1
      rw [left, erase_filter _ List.nodup_range]
      simp only [left]
      congr 1
      funext j
      by_cases h1 : j = i
      · subst h1; simp [ht]
      · by_cases h2 : j < i
        · simp [h2, h1, show j < i + 1 by omega]
        · simp [h2, h1, show ¬ j < i + 1 by omega]
    · rw [if_neg ht]
      congr 1
      simp only [left]
      congr 1
      funext j
      by_cases h1 : j = i
      · subst h1; simp [ht]
      · by_cases h2 : j < i
        · simp [h2, show j < i + 1 by omega]
        · simp [h2, show ¬ j < i + 1 by omega]

theorem cutB_true (l : List H) (k : Int) (n : Nat) : cutB (putN l n) l k n = true := by
  simp only [cutB, List.all_eq_true, mcutB, isKey_i, Bool.true_and]
  intro i _
  rw [cutN_eq, mcut_kv]; simp

theorem in_left (l : List H) (k : Int) (n i : Nat) (hi : i < n) : i ∈ left l k n n ↔ ¬ (gt l i).to < k := by
  simp [left, hi]

theorem has_left (l : List H) (k : Int) (n i : Nat) (hi : i < n) : mhas kI (cutN (putN l n) l k n) (.int .i64 (i : Int)) = !decide ((gt l i).to < k) ∧ mnot kI (cutN (putN l n) l k n) (.int .i64 (i : Int)) = decide ((gt l i).to < k) := by
  rw [cutN_eq]
  simp only [mhas, mnot, isKey_i, Bool.true_and, mfind_kv]
  by_cases h : (gt l i).to < k
  · have : i ∉ left l k n n := fun hm => (in_left l k n i hi).1 hm h
    simp [h, this]
  · have : i ∈ left l k n n := (in_left l k n i hi).2 h
    simp [h, this]

theorem val_left (l : List H) (k : Int) (n i : Nat) (hi : i < n) (h : ¬ (gt l i).to < k) : mval kI (cutN (putN l n) l k n) (.int .i64 (i : Int)) = (gt l i).av := by
  rw [cutN_eq]
  have : i ∈ left l k n n := (in_left l k n i hi).2 h
  simp [mval, mfind_kv, this]

theorem hasB_true {l : List H} (hl : okL l) (k : Int) : hasB (cutN (putN l l.length) l k l.length) l.length = true := by
  simp only [hasB, List.all_eq_true, List.mem_range]
  intro i hi
  obtain ⟨h1, h2⟩ := has_left l k l.length i hi
  rw [h1, h2]
  by_cases h : (gt l i).to < k
  · simp [h]
  · have h3 := val_left l k l.length i hi h
    have h4 := hl.2 _ (gt_mem hi)
    have h5 : isH (gt l i).av = true := by
      rw [isH_av]; simp only [Bool.and_eq_true, decide_eq_true_eq]; exact h4
    simp [h, h3, h5]

theorem gsK_eq (l : List H) (k : Int) (n : Nat) : ∀ i, i ≤ n → gsK (cutN (putN l n) l k n) i = gsR l k i
  | 0, _ => rfl
  | i + 1, hi => by
    have ih := gsK_eq l k n i (by omega)
    obtain ⟨h1, -⟩ := has_left l k n i (by omega)
    simp only [gsK, gsR, ih, h1]
    by_cases h : (gt l i).to < k
    · simp [h]
    · simp [h, val_left l k n i (by omega) h, toH_av]

theorem snapB_l {h : Heap} {n id off len sz : Nat} {es : List AV} {fz : Bool} (hl : hlook h id = some (.arr sz es fz)) (hle : off + len ≤ es.length) : snapB h (n + 2) (.tup [.own id off len, .nils]) = true := by
  simp [snapB, hl, hle]
theorem snapB_r {h : Heap} {n id off len sz : Nat} {es : List AV} {fz : Bool} (hl : hlook h id = some (.arr sz es fz)) (hle : off + len ≤ es.length) : snapB h (n + 2) (.tup [.nils, .own id off len]) = true := by
  simp [snapB, hl, hle]
theorem snapB_b {h : Heap} {n id off len sz id2 off2 len2 sz2 : Nat} {es es2 : List AV} {fz fz2 : Bool} (hl : hlook h id = some (.arr sz es fz)) (hle : off + len ≤ es.length) (hl2 : hlook h id2 = some (.arr sz2 es2 fz2)) (hle2 : off2 + len2 ≤ es2.length) : snapB h (n + 2) (.tup [.own id off len, .own id2 off2 len2]) = true := by
  simp [snapB, hl, hle, hl2, hle2]

def sExp (a : List AV) (h : Heap) : List (Bool × Res × Heap) := match a, h with
  | [.view 6 es, .int .i64 k], [] =>
    [(cap es && (gsA es k).isEmpty && (fsA es k).isEmpty, .ret (.tup [.nils, .nils]), []), (cap es && !(gsA es k).isEmpty && (fsA es k).isEmpty, .ret (.tup [.view 6 (gsA es k), .nils]), []),
     (cap es && (gsA es k).isEmpty && !(fsA es k).isEmpty, .ret (.tup [.nils, .view 1 (fsA es k)]), []), (cap es && !(gsA es k).isEmpty && !(fsA es k).isEmpty, .ret (.tup [.view 6 (gsA es k), .view 1 (fsA es k)]), [])]
  | [.nils, .int .i64 _], [] => [(true, .ret (.tup [.nils, .nils]), [])]
  | _, _ => []

theorem s36_ok : ∀ a h r h', (true, r, h') ∈ sExp a h → callO IP 36 a h = some (r, h') := by
  intro a h r h' hm
  unfold sExp at hm
  split at hm
  · rename_i es k
    simp only [List.mem_cons, Prod.mk.injEq, List.not_mem_nil, or_false] at hm
    refine callO_by noS_ok (by kernel_rfl) L36_ok (n := 4) ((rd_f36_eq es k).trans ?_)
    have hc : cap es = true := by
      rcases hm with ⟨hb, -⟩ | ⟨hb, -⟩ | ⟨hb, -⟩ | ⟨hb, -⟩ <;> simp only [eq_comm (a := true), Bool.and_eq_true] at hb <;> exact hb.1.1
    unfold rd_f36
    rw [hc] at hm ⊢
    revert hm
    generalize gsA es k = gs
    generalize fsA es k = fs
    intro hm
    cases hg : gs.isEmpty <;> cases hf : fs.isEmpty <;> simp only [hg, hf, Bool.true_and, Bool.and_true, Bool.and_false, Bool.not_true, Bool.not_false, Bool.and_self, br_true, br_false, eq_self, true_and, Bool.true_eq_false, false_and, false_or, or_false] at hm ⊢ <;> obtain ⟨rfl, rfl⟩ := hm
    · refine (br_pos (snapB_b (n := 198) rfl (by simp) rfl (by simp))).trans ?_
      rw [take_all, take_all]
    · refine (br_pos (snapB_l (n := 198) rfl (by simp))).trans ?_
      rw [take_all]
    · refine (br_pos (snapB_r (n := 198) rfl (by simp))).trans ?_
      rw [take_all]
    · rfl
  · simp only [List.mem_cons, Prod.mk.injEq, List.not_mem_nil, or_false] at hm
    obtain ⟨-, rfl, rfl⟩ := hm
    exact callO_iff.2 ⟨6, by kernel_rfl⟩
  · cases hm

theorem s22_ok : ∀ a h r h', (true, r, h') ∈ sExp a h → callO IP 22 a h = some (r, h') := by
  intro a h r h' hm
  unfold sExp at hm
  split at hm
  · rename_i es k
    simp only [List.mem_cons, Prod.mk.injEq, List.not_mem_nil, or_false] at hm
    refine callO_by noS_ok (by kernel_rfl) L22_ok (n := 4) ((rd_f22_eq es k).trans ?_)
    have hc : cap es = true := by
      rcases hm with ⟨hb, -⟩ | ⟨hb, -⟩ | ⟨hb, -⟩ | ⟨hb, -⟩ <;> simp only [eq_comm (a := true), Bool.and_eq_true] at hb <;> exact hb.1.1
    obtain ⟨hg, hl2, hl1, hlb⟩ := cap_of hc
    have hll : (es.map toH).length = es.length := List.length_map _
    have h1 : putB (es.map toH) es.length = true := putB_true _ _
    have h2 : cutB (putN (es.map toH) es.length) (es.map toH) k es.length = true := cutB_true _ _ _
    have h3 : hasB (cutN (putN (es.map toH) es.length) (es.map toH) k es.length) es.length = true := by
      have := hasB_true (es_gd hg).2 k
      rwa [hll] at this
    have h4 : gsK (cutN (putN (es.map toH) es.length) (es.map toH) k es.length) es.length = gsA es k := gsK_eq _ _ _ _ (Nat.le_refl _)
    have h5 : nOk (es.length : Int) = true := by simp [nOk, hlb, hl2]
    unfold rd_f22
    simp only [Int.toNat_natCast, h1, h2, h3, h4, h5, hg, decide_true, Bool.and_self, Bool.and_true, Bool.true_and]
    rw [hc] at hm ⊢
    revert hm
    generalize gsA es k = gs
    generalize fsA es k = fs
    intro hm
    cases hg : gs.isEmpty <;> cases hf : fs.isEmpty <;> simp only [hg, hf, Bool.true_and, Bool.and_true, Bool.and_false, Bool.not_true, Bool.not_false, Bool.and_self, br_true, br_false, eq_self, true_and, Bool.true_eq_false, false_and, false_or, or_false] at hm ⊢ <;> obtain ⟨rfl, rfl⟩ := hm
    · refine (br_pos (snapB_b (n := 198) rfl (by simp) rfl (by simp))).trans ?_
      rw [take_all, take_all]
    · refine (br_pos (snapB_l (n := 198) rfl (by simp))).trans ?_
      rw [take_all]
    · refine (br_pos (snapB_r (n := 198) rfl (by simp))).trans ?_
      rw [take_all]
    · rfl
  · simp only [List.mem_cons, Prod.mk.injEq, List.not_mem_nil, or_false] at hm
    obtain ⟨-, rfl, rfl⟩ := hm
    exact callO_iff.2 ⟨6, by kernel_rfl⟩
  · cases hm

end Go.Proofs.H22

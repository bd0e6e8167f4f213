/- Expire: the table of its loops. -/
import Derived.Test.YtggaijkihehlmaaF11
set_option linter.unusedVariables false
set_option linter.unusedSimpArgs false
set_option linter.unnecessarySimpa false
namespace Go.Proofs.H22
open Go Go.Eng
set_option maxRecDepth 20000

theorem loopOf_at {LS : LSumm} {id : Nat} {ks : List Nat} {c : ICode} {g : St → List (Bool × X × St)} (hLS : LS id = some g)
    (hg : ∀ s x s', norm (id :: ks) s = some s → (true, x, s') ∈ g s → loopO IP (id :: ks) c s = some (x, s')) (hid : ∀ s s1, norm (id :: ks) s = some s1 → g s1 ≠ [] → norm (id :: ks) s1 = some s1) : LoopOf (loopO IP) LS (id :: ks) c := by
  intro id' rest g' hk hg' s s1 x s' hn hm
  cases hk
  rw [hLS] at hg'
  cases hg'
  have h1 := hid s s1 hn (fun he => by rw [he] at hm; cases hm)
  exact loopO_norm (by rw [hn, h1]) (hg s1 x s' h1 hm)

def Lx1 (s : St) : List (Bool × X × St) := match s with
  | ⟨[(1002200, .junk), (0, .view 6 es), (1, .int .i64 k), (6, .mref 0), (17, .view 6 fs), (18, .int .i64 n), (19, .int .i64 0)], [(0, .mp [])], 1, 0⟩ =>
    [(cap es && gd fs && decide (fs.map toH = es.map toH) && decide (n = (es.length : Int)) && putB (es.map toH) es.length, ex_x1_0 es (putN (es.map toH) es.length) k n es.length)]
  | _ => []

def Lx2 (s : St) : List (Bool × X × St) := match s with
  | ⟨[(1002201, .junk), (0, .view 6 es), (1, .int .i64 k), (6, .mref 0), (9, .nils), (10, .nils), (28, .view 6 fs), (29, .int .i64 n), (30, .int .i64 0)], [(0, .mp kvs)], 1, 0⟩ =>
    let c := cap es && gd fs && decide (fs.map toH = es.map toH) && decide (n = (es.length : Int)) && cutB kvs (es.map toH) k es.length
    [(c && (fsA es k).isEmpty, ex_x2n_0 es (cutN kvs (es.map toH) k es.length) k n es.length), (c && !(fsA es k).isEmpty, ex_x2o_0 es (fsA es k) (cutN kvs (es.map toH) k es.length) k n es.length)]
  | _ => []

def nOk (n : Int) : Bool := decide (0 ≤ n) && decide (n.toNat ≤ big) && decide ((n.toNat + 1) * 56 ≤ lim)

def Lx3 (s : St) : List (Bool × X × St) := match s with
  | ⟨[(1002202, .junk), (6, .mref 0), (9, .nils), (10, .nils), (48, .int .i64 n), (49, .int .i64 0)], [(0, .mp kvs)], 1, 0⟩ =>
    [(nOk n && hasB kvs n.toNat && (gsK kvs n.toNat).isEmpty, ex_x3nn_0 kvs n n), (nOk n && hasB kvs n.toNat && !(gsK kvs n.toNat).isEmpty, ex_x3on_0 (gsK kvs n.toNat) kvs n n)]
  | ⟨[(1002202, .junk), (6, .mref 0), (9, .nils), (10, .own 1 0 m), (48, .int .i64 n), (49, .int .i64 0)], [(0, .mp kvs), (1, .arr 1 fs false)], 2, 0⟩ =>
    let c := nOk n && hasB kvs n.toNat && decide (m = fs.length) && !fs.isEmpty
    [(c && (gsK kvs n.toNat).isEmpty, ex_x3no_0 fs kvs n n), (c && !(gsK kvs n.toNat).isEmpty, ex_x3oo_0 (gsK kvs n.toNat) fs kvs n n)]
  | _ => []

def L22 : LSumm := fun i => if i = 1002200 then some Lx1 else if i = 1002201 then some Lx2 else if i = 1002202 then some Lx3 else none

theorem lx1_ok : LoopOf (loopO IP) L22 [1002200, 0, 1, 6, 17, 18, 19] (loopAt F22 0).2 := by
  refine loopOf_at (g := Lx1) rfl ?_ ?_
  · intro s x s' hn hm
    unfold Lx1 at hm
    split at hm
    · rename_i es k fs n
      simp only [List.mem_cons, Prod.mk.injEq, List.not_mem_nil, or_false] at hm
      obtain ⟨hb, hq⟩ := hm
      simp only [eq_comm (a := true), Bool.and_eq_true, decide_eq_true_eq] at hb
      obtain ⟨⟨⟨⟨hc, hg2⟩, he⟩, hnn⟩, hp⟩ := hb
      obtain ⟨hg, hl2, hl1, hlb⟩ := cap_of hc
      have : fs = es := by rw [(es_gd hg).1, (es_gd hg2).1, he]
      subst this
      subst hnn
      have h4 := runx1 (es_gd hg).2 k (by simpa using hp)
      rw [← (es_gd hg).1, List.length_map] at h4
      rw [hq]; exact h4
    · cases hm
  · intro s s1 hn hne
    unfold Lx1 at hne
    split at hne
    · kernel_rfl
    · exact absurd rfl hne

theorem lx2_ok : LoopOf (loopO IP) L22 [1002201, 0, 1, 6, 9, 10, 28, 29, 30] (loopAt F22 1).2 := by
  refine loopOf_at (g := Lx2) rfl ?_ ?_
  · intro s x s' hn hm
    unfold Lx2 at hm
    split at hm
    · rename_i es k fs n kvs
      simp only [List.mem_cons, Prod.mk.injEq, List.not_mem_nil, or_false] at hm
      have hb : (cap es && gd fs && decide (fs.map toH = es.map toH) && decide (n = (es.length : Int)) && cutB kvs (es.map toH) k es.length) = true := by
        rcases hm with ⟨hb, -⟩ | ⟨hb, -⟩ <;> simp only [eq_comm (a := true), Bool.and_eq_true] at hb ⊢ <;> exact hb.1
      rw [hb] at hm
      simp only [Bool.and_eq_true, decide_eq_true_eq] at hb
      obtain ⟨⟨⟨⟨hc, hg2⟩, he⟩, hnn⟩, hp⟩ := hb
      obtain ⟨hg, hl2, hl1, hlb⟩ := cap_of hc
      have : fs = es := by rw [(es_gd hg).1, (es_gd hg2).1, he]
      subst this
      subst hnn
      have h4 := runx2 (es_gd hg).2 (by simpa using hl2) kvs k (by simpa using hp)
      rw [← (es_gd hg).1, List.length_map] at h4
      change loopO IP _ _ (hx2 fs kvs k _ [] 0) = _
      rw [h4]
      change some (end2 fs (cutN kvs (fs.map toH) k fs.length) k fs.length (fsA fs k)) = _
      revert hm
      generalize fsA fs k = us
      intro hm
      rcases hm with ⟨hb, hq⟩ | ⟨hb, hq⟩ <;> rw [hq] <;> revert hb <;> cases us <;> simp [end2]
    · cases hm
  · intro s s1 hn hne
    unfold Lx2 at hne
    split at hne
    · kernel_rfl
    · exact absurd rfl hne

theorem lx3_ok : LoopOf (loopO IP) L22 [1002202, 6, 9, 10, 48, 49] (loopAt F22 2).2 := by
  refine loopOf_at (g := Lx3) rfl ?_ ?_
  · intro s x s' hn hm
    unfold Lx3 at hm
    split at hm
    · rename_i n kvs
      simp only [List.mem_cons, Prod.mk.injEq, List.not_mem_nil, or_false] at hm
      have hb : (nOk n && hasB kvs n.toNat) = true := by
        rcases hm with ⟨hb, -⟩ | ⟨hb, -⟩ <;> simp only [eq_comm (a := true), Bool.and_eq_true] at hb ⊢ <;> exact hb.1
      rw [hb] at hm
      simp only [nOk, Bool.and_eq_true, decide_eq_true_eq] at hb
      obtain ⟨⟨⟨h0, h1⟩, h2⟩, h3⟩ := hb
      obtain ⟨m, rfl⟩ := Int.eq_ofNat_of_zero_le h0
      simp only [Int.toNat_natCast] at *
      have h4 := runx3 kvs m h1 h2 [] h3
      change loopO IP _ _ (hx3 kvs m [] [] 0) = _
      rw [h4]
      revert hm
      generalize gsK kvs m = us
      intro hm
      rcases hm with ⟨hb, hq⟩ | ⟨hb, hq⟩ <;> rw [hq] <;> revert hb <;> cases us <;> simp [end3]
    · rename_i mm n kvs fs
      simp only [List.mem_cons, Prod.mk.injEq, List.not_mem_nil, or_false] at hm
      have hb : (nOk n && hasB kvs n.toNat && decide (mm = fs.length) && !fs.isEmpty) = true := by
        rcases hm with ⟨hb, -⟩ | ⟨hb, -⟩ <;> simp only [eq_comm (a := true), Bool.and_eq_true] at hb ⊢ <;> exact hb.1
      rw [hb] at hm
      simp only [nOk, Bool.and_eq_true, decide_eq_true_eq] at hb
      obtain ⟨⟨⟨⟨⟨h0, h1⟩, h2⟩, h3⟩, rfl⟩, h5⟩ := hb
      obtain ⟨m, rfl⟩ := Int.eq_ofNat_of_zero_le h0
      simp only [Int.toNat_natCast] at *
      cases fs with
      | nil => simp at h5
      | cons f fs =>
        have h4 := runx3 kvs m h1 h2 (f :: fs) h3
        change loopO IP _ _ (hx3 kvs m [] (f :: fs) 0) = _
        rw [h4]
        revert hm
        generalize gsK kvs m = us
        intro hm
        rcases hm with ⟨hb, hq⟩ | ⟨hb, hq⟩ <;> rw [hq] <;> revert hb <;> cases us <;> simp [end3]
    · cases hm
  · intro s s1 hn hne
    unfold Lx3 at hne
    split at hne
    · kernel_rfl
    · kernel_rfl
    · exact absurd rfl hne

theorem L22_ok : ∀ p ∈ loops F22.body, LoopOf (loopO IP) L22 p.1 p.2 := by
  have h : loops F22.body = [([1002200, 0, 1, 6, 17, 18, 19], (loopAt F22 0).2), ([1002201, 0, 1, 6, 9, 10, 28, 29, 30], (loopAt F22 1).2), ([1002202, 6, 9, 10, 48, 49], (loopAt F22 2).2)] := by kernel_rfl
  rw [h]
  intro p hp
  simp only [List.mem_cons, List.not_mem_nil, or_false] at hp
  rcases hp with rfl | rfl | rfl
  · exact lx1_ok
  · exact lx2_ok
  · exact lx3_ok

end Go.Proofs.H22

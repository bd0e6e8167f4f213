/- sum; what Expire's Ids add up to: loops. -/
import Derived.Test.YtggaijkihehlmaaG19
set_option linter.unusedVariables false
set_option linter.unusedSimpArgs false
set_option linter.unnecessarySimpa false
namespace Go.Proofs.H22
open Go Go.Eng
set_option maxRecDepth 20000

def sumN (l : List H) : Nat → Int
  | 0 => 0
  | i + 1 => IntKind.i64.wrap (sumN l i + (gt l i).amt)

abbrev hd21 (es : List AV) (acc i : Int) : St := ⟨[(1002100, .junk), (0, .view 6 es), (3, .int .i64 acc), (4, .int .i64 i)], [], 0, 0⟩
theorem nm21 (es : List AV) (acc i : Int) : norm [1002100, 0, 3, 4] (hd21 es acc i) = some (hd21 es acc i) := by kernel_rfl
theorem run21 {l : List H} (h : okL l) : loopO IP [1002100, 0, 3, 4] (loopAt F21 0).2 (hd21 (l.map H.av) 0 0) = some (ex_g21_0 (l.map H.av) (sumN l l.length) l.length) := by
  refine loop_run (lK := loopN noL) cK0_ok (loopS_none (by kernel_rfl)) (fun i => hd21 (l.map H.av) (sumN l i) i) l.length (fun i => nm21 ..) ?_ (by intro h; cases h) ?_
  · intro i hlt
    refine (rd_g21_eq _ _ i).trans ?_
    simp only [rd_g21, List.length_map, lt_nat, ok_at, hlt, decide_true, br_true, c2, wrap1 hlt h.1, sumN]
  · refine (rd_g21_eq _ _ _).trans ?_
    simp only [rd_g21, List.length_map, lt_nat, Nat.lt_irrefl, decide_false, br_false]

def L21 (s : St) : List (Bool × X × St) := match s with
  | ⟨[(1002100, .junk), (0, .view 6 es), (3, .int .i64 0), (4, .int .i64 0)], [], 0, 0⟩ => [(gd es, ex_g21_0 es (sumN (es.map toH) es.length) es.length)]
  | _ => []
theorem L21_ok : ∀ p ∈ loops F21.body, LoopOf (loopO IP) (oneL 1002100 L21) p.1 p.2 := by
  refine loops_one (ks := [0, 3, 4]) (c := (loopAt F21 0).2) (by kernel_rfl) ?_ ?_
  · intro s x s' hn hm
    unfold L21 at hm
    split at hm
    · rename_i es
      simp only [List.mem_cons, Prod.mk.injEq, List.not_mem_nil, or_false] at hm
      obtain ⟨hb, hq⟩ := hm
      have h4 := run21 (es_gd hb.symm).2
      rw [← (es_gd hb.symm).1, List.length_map] at h4
      rw [hq]; exact h4
    · cases hm
  · intro s s1 hn hne
    unfold L21 at hne
    split at hne
    · exact nm21 ..
    · exact absurd rfl hne

theorem body21 (es : List AV) : BK noS (oneL 1002100 L21) 21 F21 [.view 6 es] = br (gd es) (some (.ret (.int .i64 (sumN (es.map toH) es.length)), [])) none := by kernel_rfl

def sSum (a : List AV) (h : Heap) : List (Bool × Res × Heap) := match a, h with
  | [.view 6 es], [] => [(gd es, .ret (.int .i64 (sumN (es.map toH) es.length)), [])]
  | [.nils], [] => [(true, .ret (.int .i64 0), [])]
  | _, _ => []
theorem s21_ok : ∀ a h r h', (true, r, h') ∈ sSum a h → callO IP 21 a h = some (r, h') := by
  intro a h r h' hm
  unfold sSum at hm
  split at hm
  · rename_i es
    simp only [List.mem_cons, Prod.mk.injEq, List.not_mem_nil, or_false] at hm
    obtain ⟨hb, rfl, rfl⟩ := hm
    refine callO_by noS_ok (by kernel_rfl) L21_ok (n := 4) ((body21 es).trans ?_)
    rw [← hb]; rfl
  · simp only [List.mem_cons, Prod.mk.injEq, List.not_mem_nil, or_false] at hm
    obtain ⟨-, rfl, rfl⟩ := hm
    exact callO_iff.2 ⟨6, by kernel_rfl⟩
  · cases hm
def sH : Summ := addS 21 sSum sG
theorem sH_ok : SummOk IP sH := addS_ok sG_ok s21_ok

/-! The inner loop. -/
def idAt (fs : List AV) (k : Nat) : Int := intOf (cellAt fs (k : Int) 0)
def goN (es fs : List AV) (go : Int) : Nat → Int
  | 0 => go
  | k + 1 => IntKind.i64.wrap (goN es fs go k + (hA es (ixA (isId (idAt fs k)) es)).amt)
def okI (es fs : List AV) (u : Int) (n : Nat) : Bool := (List.range n).all fun k => inA (isId (idAt fs k)) es && decide ((hA es (ixA (isId (idAt fs k)) es)).to < u)

theorem ge_false {a b : Int} (h : a < b) : decide (a ≥ b) = false := decide_eq_false (by omega)

section
variable (es us fs gs : List AV) (al go i p q r u a b c d e : Int) (t : List UInt8)

abbrev hiNV (k : Int) : St := ⟨[(1000601, .junk), (0, .view 6 es), (1, .view 10 us), (5, .int .i64 al), (6, .int .i64 go), (7, .int .i64 i), (8, .ref 0 0 0), (17, .nils), (18, .view 1 fs), (19, .int .i64 k)], bx p q r u a b c d e t, 1, 0⟩
theorem niNV (k : Int) : norm [1000601, 0, 1, 5, 6, 7, 8, 17, 18, 19] (hiNV es us fs al go i p q r u a b c d e t k) = some (hiNV es us fs al go i p q r u a b c d e t k) := by kernel_rfl
abbrev hiVV (k : Int) : St := ⟨[(1000601, .junk), (0, .view 6 es), (1, .view 10 us), (5, .int .i64 al), (6, .int .i64 go), (7, .int .i64 i), (8, .ref 0 0 0), (17, .view 6 gs), (18, .view 1 fs), (19, .int .i64 k)], bx p q r u a b c d e t, 1, 0⟩
theorem niVV (k : Int) : norm [1000601, 0, 1, 5, 6, 7, 8, 17, 18, 19] (hiVV es us fs gs al go i p q r u a b c d e t k) = some (hiVV es us fs gs al go i p q r u a b c d e t k) := by kernel_rfl

theorem runNV (hg : gd es = true) (hf : gdI fs = true) (ho : okI es fs u fs.length = true) : loopO IP [1000601, 0, 1, 5, 6, 7, 8, 17, 18, 19] (loopAt F6 1).2 (hiNV es us fs al go i p q r u a b c d e t 0) = some (ex_iNV_2 es us fs al (goN es fs go fs.length) i fs.length p q r u a b c d e t) := by
  have hb : fs.length ≤ big := by simp only [gdI, Bool.and_eq_true, decide_eq_true_eq] at hf; exact hf.2
  refine loop_run (lK := loopN noL) cKG_ok (loopS_none (by kernel_rfl)) (fun k => hiNV es us fs al (goN es fs go k) i p q r u a b c d e t k) fs.length (fun k => niNV ..) ?_ (by intro h; cases h) ?_
  · intro k hlt
    have hk := all_range ho hlt
    simp only [Bool.and_eq_true, decide_eq_true_eq] at hk
    refine (rd_iNV_eq es us fs al (goN es fs go k) i k p q r u a b c d e t).trans ?_
    unfold rd_iNV
    change br (decide ((k : Int) < (fs.length : Int))) (br (okAt [.int .i64] fs (k : Int)) (br (gd es && inA (isId (idAt fs k)) es) (br (decide ((hA es (ixA (isId (idAt fs k)) es)).to ≥ u)) _ _) _) _) _ = _
    rw [lt_nat, decide_eq_true hlt, oki_at hf hlt, hg, hk.1, ge_false hk.2, wrap1 hlt hb]
    rfl
  · refine (rd_iNV_eq ..).trans ?_
    unfold rd_iNV
    simp only [lt_nat, Nat.lt_irrefl, decide_false, br_false]

theorem runVV (hg : gd es = true) (hf : gdI fs = true) (ho : okI es fs u fs.length = true) : loopO IP [1000601, 0, 1, 5, 6, 7, 8, 17, 18, 19] (loopAt F6 1).2 (hiVV es us fs gs al go i p q r u a b c d e t 0) = some (ex_iVV_2 es us fs gs al (goN es fs go fs.length) i fs.length p q r u a b c d e t) := by
  have hb : fs.length ≤ big := by simp only [gdI, Bool.and_eq_true, decide_eq_true_eq] at hf; exact hf.2
  refine loop_run (lK := loopN noL) cKG_ok (loopS_none (by kernel_rfl)) (fun k => hiVV es us fs gs al (goN es fs go k) i p q r u a b c d e t k) fs.length (fun k => niVV ..) ?_ (by intro h; cases h) ?_
  · intro k hlt
    have hk := all_range ho hlt
    simp only [Bool.and_eq_true, decide_eq_true_eq] at hk
    refine (rd_iVV_eq es us fs gs al (goN es fs go k) i k p q r u a b c d e t).trans ?_
    unfold rd_iVV
    change br (decide ((k : Int) < (fs.length : Int))) (br (okAt [.int .i64] fs (k : Int)) (br (gd es && inA (isId (idAt fs k)) es) (br (decide ((hA es (ixA (isId (idAt fs k)) es)).to ≥ u)) _ _) _) _) _ = _
    rw [lt_nat, decide_eq_true hlt, oki_at hf hlt, hg, hk.1, ge_false hk.2, wrap1 hlt hb]
    rfl
  · refine (rd_iVV_eq ..).trans ?_
    unfold rd_iVV
    simp only [lt_nat, Nat.lt_irrefl, decide_false, br_false]
end

def L601c (us : List AV) (al go i p q r u a b c d e : Int) (t : List UInt8) (x0 x17 x18 : AV) : List (Bool × X × St) := match x0, x17, x18 with
  | .view 6 es, .nils, .view 1 fs => [(gd es && gdI fs && okI es fs u fs.length, ex_iNV_2 es us fs al (goN es fs go fs.length) i fs.length p q r u a b c d e t)]
  | .view 6 es, .view 6 gs, .view 1 fs => [(gd es && gdI fs && okI es fs u fs.length, ex_iVV_2 es us fs gs al (goN es fs go fs.length) i fs.length p q r u a b c d e t)]
  | .view 6 es, .nils, .nils => [(true, ex_iNN_0 es us al go i p q r u a b c d e t)]
  | .view 6 es, .view 6 gs, .nils => [(true, ex_iVN_0 es us gs al go i p q r u a b c d e t)]
  | .nils, .nils, .nils => [(true, ex_iZ_0 us al go i p q r u a b c d e t)]
  | _, _, _ => []

abbrev hi6 (us : List AV) (al go i p q r u a b c d e : Int) (t : List UInt8) (x0 x17 x18 : AV) : St := ⟨[(1000601, .junk), (0, x0), (1, .view 10 us), (5, .int .i64 al), (6, .int .i64 go), (7, .int .i64 i), (8, .ref 0 0 0), (17, x17), (18, x18), (19, .int .i64 0)], bx p q r u a b c d e t, 1, 0⟩

theorem L601c_ok (us : List AV) (al go i p q r u a b c d e : Int) (t : List UInt8) (x0 x17 x18 : AV) (x : X) (s' : St) (hm : (true, x, s') ∈ L601c us al go i p q r u a b c d e t x0 x17 x18) : loopO IP [1000601, 0, 1, 5, 6, 7, 8, 17, 18, 19] (loopAt F6 1).2 (hi6 us al go i p q r u a b c d e t x0 x17 x18) = some (x, s') := by
  unfold L601c at hm
  split at hm
  · simp only [List.mem_cons, Prod.mk.injEq, List.not_mem_nil, or_false] at hm
    obtain ⟨hb, hq⟩ := hm
    simp only [eq_comm (a := true), Bool.and_eq_true] at hb
    rw [hq]; exact runNV _ _ _ _ _ _ _ _ _ _ _ _ _ _ _ _ hb.1.1 hb.1.2 hb.2
  · simp only [List.mem_cons, Prod.mk.injEq, List.not_mem_nil, or_false] at hm
    obtain ⟨hb, hq⟩ := hm
    simp only [eq_comm (a := true), Bool.and_eq_true] at hb
    rw [hq]; exact runVV _ _ _ _ _ _ _ _ _ _ _ _ _ _ _ _ _ hb.1.1 hb.1.2 hb.2
  · simp only [List.mem_cons, Prod.mk.injEq, List.not_mem_nil, or_false] at hm
    rw [hm.2]
    exact loop_out (lK := loopN noL) (cKG_ok (R := X × St)) (loopS_none (by kernel_rfl)) (by kernel_rfl) (by intro h; cases h) (rd_iNN_eq ..)
  · simp only [List.mem_cons, Prod.mk.injEq, List.not_mem_nil, or_false] at hm
    rw [hm.2]
    exact loop_out (lK := loopN noL) (cKG_ok (R := X × St)) (loopS_none (by kernel_rfl)) (by kernel_rfl) (by intro h; cases h) (rd_iVN_eq ..)
  · simp only [List.mem_cons, Prod.mk.injEq, List.not_mem_nil, or_false] at hm
    rw [hm.2]
    exact loop_out (lK := loopN noL) (cKG_ok (R := X × St)) (loopS_none (by kernel_rfl)) (by kernel_rfl) (by intro h; cases h) (rd_iZ_eq ..)
  · cases hm

theorem L601c_nm (us : List AV) (al go i p q r u a b c d e : Int) (t : List UInt8) (x0 x17 x18 : AV) (hne : L601c us al go i p q r u a b c d e t x0 x17 x18 ≠ []) : norm [1000601, 0, 1, 5, 6, 7, 8, 17, 18, 19] (hi6 us al go i p q r u a b c d e t x0 x17 x18) = some (hi6 us al go i p q r u a b c d e t x0 x17 x18) := by
  unfold L601c at hne
  split at hne
  · kernel_rfl
  · kernel_rfl
  · kernel_rfl
  · kernel_rfl
  · kernel_rfl
  · exact absurd rfl hne

def L601b (us : List AV) (al go i : Int) (x0 x17 x18 : AV) (cs : List AV) : List (Bool × X × St) := match cs with
  | [.int .i64 p, .int .i64 q, .int .i64 r, .int .i64 u, .int .i64 a, .int .i64 b, .int .i64 c, .int .i64 d, .int .i64 e, .str t] => L601c us al go i p q r u a b c d e t x0 x17 x18
  | _ => []

def L601 (s : St) : List (Bool × X × St) := match s with
  | ⟨[(1000601, .junk), (0, x0), (1, .view 10 us), (5, .int .i64 al), (6, .int .i64 go), (7, .int .i64 i), (8, .ref 0 0 0), (17, x17), (18, x18), (19, .int .i64 0)], [(0, .box cs false)], 1, 0⟩ => L601b us al go i x0 x17 x18 cs
  | _ => []

theorem L601_ok : LoopOf (loopO IP) (oneL 1000601 L601) [1000601, 0, 1, 5, 6, 7, 8, 17, 18, 19] (loopAt F6 1).2 := by
  refine loopOf_at (g := L601) rfl ?_ ?_
  · intro s x s' hn hm
    unfold L601 at hm
    split at hm
    · unfold L601b at hm
      split at hm
      · exact L601c_ok _ _ _ _ _ _ _ _ _ _ _ _ _ _ _ _ _ _ _ hm
      · cases hm
    · cases hm
  · intro s s1 hn hne
    unfold L601 at hne
    split at hne
    · unfold L601b at hne
      split at hne
      · exact L601c_nm _ _ _ _ _ _ _ _ _ _ _ _ _ _ _ _ _ hne
      · exact absurd rfl hne
    · exact absurd rfl hne

end Go.Proofs.H22

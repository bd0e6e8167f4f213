/- HoldConserves: its loop. -/
import Derived.Test.YtggaijkihehlmaaC2
set_option linter.unusedVariables false
set_option linter.unusedSimpArgs false
set_option linter.unnecessarySimpa false
namespace Go.Proofs.H22
open Go Go.Eng
set_option maxRecDepth 20000

abbrev LI : LSumm := oneL 1000601 L601
abbrev cKO (R : Type) : CallK R := callN IP sH (inl0 IP) (loopN LI) 4
theorem cKO_ok {R : Type} : CallS (R := R) (callO IP) (cKO R) := calls_ok sH_ok _ 4

def hs (x : AV) : List H := match x with
  | .view _ es => es.map toH
  | _ => []
def Inv6 (x : AV) (al go : Int) : Prop := InvV x ∧ W (tot (hs x) + go) = al

structure S6 where
  x : AV
  al : Int
  go : Int

def nx6 (s : S6) (a : A) : S6 := match s.x with
  | .view _ es =>
    br (a.kind == 0) (br (placeE es a.h != 0) s ⟨.view 6 (es ++ [a.h.av]), W (s.al + a.h.amt), s.go⟩)
      (br (a.kind == 1) (br (useE es a.id a.n a.day != 0) s ⟨.view 6 (br (allB es a.id a.n) (delA es a.id) (setA es a.id a.n)), s.al, W (s.go + a.n)⟩)
        (br (a.kind == 2) (br (inA (isId a.id) es) ⟨.view 6 (delA es a.id), s.al, W (s.go + (hA es (ixA (isId a.id) es)).amt)⟩ s)
          (br (a.kind == 3) ⟨br (gsA es a.day).isEmpty .nils (.view 6 (gsA es a.day)), s.al, goN es (fsA es a.day) s.go (fsA es a.day).length⟩ s)))
  | _ => br ((a.kind == 0) && oneB a.h.id a.h.acc a.h.amt a.h.frm a.h.to a.h.key == 0) ⟨.view 6 [a.h.av], W (s.al + a.h.amt), s.go⟩ s

theorem tot_one (h : H) : tot [h] = h.amt := by simp [tot]

theorem inv_place {es : List AV} {al go : Int} (h : W (tot (es.map toH) + go) = al) (a : H) : W (tot ((es ++ [a.av]).map toH) + go) = W (al + a.amt) := by
  rw [List.map_append, tot_app, ← h, W_l]
  show W (tot (es.map toH) + tot [a] + go) = _
  rw [tot_one]; congr 1; omega

theorem inv_del {es : List AV} {al go t : Int} (h : W (tot (es.map toH) + go) = al) (hi : inA (isId t) es = true) : W (tot ((delA es t).map toH) + W (go + (hA es (ixA (isId t) es)).amt)) = al := by
  have hj : ixA (isId t) es < (es.map toH).length := by rw [List.length_map]; exact of_decide_eq_true hi
  rw [del_map, tot_erase _ _ hj, W_r, ← h]
  show W (tot (es.map toH) - (hA es (ixA (isId t) es)).amt + (go + (hA es (ixA (isId t) es)).amt)) = _
  congr 1; omega

theorem inv_set {es : List AV} {al go t n : Int} (h : W (tot (es.map toH) + go) = al) (hi : inA (isId t) es = true) : W (tot ((setA es t n).map toH) + W (go + n)) = al := by
  have hj : ixA (isId t) es < (es.map toH).length := by rw [List.length_map]; exact of_decide_eq_true hi
  rw [set_map, tot_set _ _ hj, W_r, ← h]
  show W (tot (es.map toH) - (hA es (ixA (isId t) es)).amt + ((hA es (ixA (isId t) es)).amt - n) + (go + n)) = _
  congr 1; omega

theorem inv_exp {es : List AV} {al go : Int} (h : W (tot (es.map toH) + go) = al) (v : Vld (es.map toH)) (he : es = (es.map toH).map H.av) (u : Int) : W (tot ((gsA es u).map toH) + goN es (fsA es u) go (fsA es u).length) = al := by
  rw [exp_sum v he, h]

theorem inv6_nx {s : S6} (hI : Inv6 s.x s.al s.go) {a : A} (ha : isH a.h.av = true) : Inv6 (nx6 s a).x (nx6 s a).al (nx6 s a).go := by
  obtain ⟨x, al, go⟩ := s
  obtain ⟨hx, hw⟩ := hI
  rcases hx with rfl | ⟨es, rfl, hg, hv⟩
  · simp only [nx6]
    cases ho : ((a.kind == 0) && oneB a.h.id a.h.acc a.h.amt a.h.frm a.h.to a.h.key == 0)
    · exact ⟨Or.inl rfl, hw⟩
    · refine ⟨Or.inr ⟨_, rfl, (isH_one ha).1, ?_⟩, ?_⟩
      · simp only [Bool.and_eq_true, beq_iff_eq] at ho
        show Vld [a.h]
        rw [← chk_iff, chk_one]; exact ho.2
      · exact inv_place (es := []) hw a.h
  · have hc := cap_v hg hv
    have he := (es_gd hg).1
    have hw' : W (tot (es.map toH) + go) = al := hw
    simp only [nx6]
    cases (a.kind == 0)
    · cases (a.kind == 1)
      · cases (a.kind == 2)
        · cases (a.kind == 3)
          · exact ⟨Or.inr ⟨es, rfl, hg, hv⟩, hw⟩
          · have h1 := inv_exp hw' hv he a.day
            cases hgs : (gsA es a.day).isEmpty
            · exact ⟨Or.inr ⟨_, rfl, gd_gs hg _, vld_gs hv _⟩, h1⟩
            · have : gsA es a.day = [] := by simpa using hgs
              rw [this] at h1
              exact ⟨Or.inl rfl, h1⟩
        · cases hi : inA (isId a.id) es
          · exact ⟨Or.inr ⟨es, rfl, hg, hv⟩, hw⟩
          · exact ⟨Or.inr ⟨_, rfl, gd_del hg _, vld_del hv _⟩, inv_del hw' hi⟩
      · cases hu : (useE es a.id a.n a.day != 0)
        · have hu0 : useE es a.id a.n a.day = 0 := by simpa using hu
          have hi := (useE_eq hu0).1
          cases hall : allB es a.id a.n
          · exact ⟨Or.inr ⟨_, rfl, gd_set hg hu0, vld_set hv hu0 hall⟩, inv_set hw' hi⟩
          · have hn : a.n = (hA es (ixA (isId a.id) es)).amt := eq_of_beq hall
            refine ⟨Or.inr ⟨_, rfl, gd_del hg _, vld_del hv _⟩, ?_⟩
            have := inv_del hw' hi
            rw [← hn] at this
            exact this
        · exact ⟨Or.inr ⟨es, rfl, hg, hv⟩, hw⟩
    · cases hu : (placeE es a.h != 0)
      · have hu0 : placeE es a.h = 0 := by simpa using hu
        refine ⟨Or.inr ⟨_, rfl, gd_app hc ha, ?_⟩, inv_place hw' a.h⟩
        show Vld ((es ++ [a.h.av]).map toH)
        rw [List.map_append]
        exact vld_app hg hu0
      · exact ⟨Or.inr ⟨es, rfl, hg, hv⟩, hw⟩

theorem chk_sum {es : List AV} {al go : Int} (h : W (tot (es.map toH) + go) = al) : (IntKind.i64.wrap (sumN (es.map toH) es.length + go) != al) = false := by
  rw [sum_all]
  have := W_l (tot (es.map toH)) go
  simp only [W] at this h ⊢
  rw [this, h]; simp
theorem chk_nil {al go : Int} (h : W (tot [] + go) = al) : (IntKind.i64.wrap (0 + go) != al) = false := by
  have h1 : tot [] = 0 := rfl
  rw [h1] at h
  simp only [W] at h
  rw [h]; simp

abbrev hd6 (s : S6) (us : List AV) (i : Int) : St := ⟨[(1000600, .junk), (0, s.x), (1, .view 10 us), (5, .int .i64 s.al), (6, .int .i64 s.go), (7, .int .i64 i)], [], 0, 0⟩
theorem nm6 {s : S6} (hx : InvV s.x) (us : List AV) (i : Int) : norm [1000600, 0, 1, 5, 6, 7] (hd6 s us i) = some (hd6 s us i) := by
  obtain ⟨x, al, go⟩ := s
  rcases hx with h | ⟨es, h, -⟩ <;> simp only at h <;> subst h <;> kernel_rfl

theorem step6 {s : S6} (hI : Inv6 s.x s.al s.go) {us : List A} (hu : okA us) {i : Nat} (hlt : i < us.length) : XKO F6 0 (hd6 s (us.map A.av) i) = some (.normal, hd6 (nx6 s (ga us i)) (us.map A.av) ((i + 1 : Nat) : Int)) := by
  have ha : isH (ga us i).h.av = true := hu.2 _ (by simp [ga, hlt])
  have hI2 := inv6_nx hI ha
  have hav : AV.agg [AV.int IntKind.i64 (ga us i).h.id, AV.int IntKind.i64 (ga us i).h.acc, AV.int IntKind.i64 (ga us i).h.amt, AV.int IntKind.i64 (ga us i).h.frm, AV.int IntKind.i64 (ga us i).h.to, AV.str (ga us i).h.key] = (ga us i).h.av := rfl
  have hmk : H.mk (ga us i).h.id (ga us i).h.acc (ga us i).h.amt (ga us i).h.frm (ga us i).h.to (ga us i).h.key = (ga us i).h := rfl
  obtain ⟨x, al, go⟩ := s
  obtain ⟨hx, hw⟩ := hI
  rcases hx with rfl | ⟨es, rfl, hg, hv⟩
  · have hw0 : W (tot [] + go) = al := hw
    refine (rd_g6n_eq _ al go i).trans ?_
    unfold rd_g6n
    simp only [List.length_map, lt_nat, oka_at, hlt, decide_true, br_true, a0, a1, a2, a3, a4, a5, a6, a7, a8, a9, hav, hmk, ha, Bool.true_and, wrap1 hlt hu.1]
    have hg1 : gd [(ga us i).h.av] = true := (isH_one ha).1
    have hck : H.mk (ci (ga us i).h.av 0) (ci (ga us i).h.av 1) (ci (ga us i).h.av 2) (ci (ga us i).h.av 3) (ci (ga us i).h.av 4) (cs (ga us i).h.av 5) = (ga us i).h := rfl
    simp only [hck, hg1, br_true, chk_nil hw0, br_false]
    revert hI2
    simp only [nx6]
    by_cases ho : oneB (ga us i).h.id (ga us i).h.acc (ga us i).h.amt (ga us i).h.frm (ga us i).h.to (ga us i).h.key = 0
    · simp only [ho, beq_self_eq_true, bne_self_eq_false, br_false, br_true, Bool.and_true]
      cases ((ga us i).kind == 0)
      · intro _
        cases ((ga us i).kind == 1) <;> cases ((ga us i).kind == 2) <;> cases ((ga us i).kind == 3) <;> rfl
      · intro hI2
        have h3 : (IntKind.i64.wrap (sumN [(ga us i).h] 1 + go) != IntKind.i64.wrap (al + (ga us i).h.amt)) = false := chk_sum (es := [(ga us i).h.av]) hI2.2
        simp only [h3, br_true, br_false]
    · have h1 : (oneB (ga us i).h.id (ga us i).h.acc (ga us i).h.amt (ga us i).h.frm (ga us i).h.to (ga us i).h.key == 0) = false := by simpa using ho
      have h2 : (oneB (ga us i).h.id (ga us i).h.acc (ga us i).h.amt (ga us i).h.frm (ga us i).h.to (ga us i).h.key != 0) = true := by simpa using ho
      simp only [h1, h2, br_true, br_false, Bool.and_false]
      intro _
      cases ((ga us i).kind == 0) <;> cases ((ga us i).kind == 1) <;> cases ((ga us i).kind == 2) <;> cases ((ga us i).kind == 3) <;> rfl
  · have hc := cap_v hg hv
    have he := (es_gd hg).1
    have hw' : W (tot (es.map toH) + go) = al := hw
    have hfs := gdI_fs hg (ga us i).day
    have hok := okI_true hv he (ga us i).day
    refine (rd_g6v_eq _ _ al go i).trans ?_
    unfold rd_g6v
    simp only [List.length_map, lt_nat, oka_at, hlt, decide_true, br_true, a0, a1, a2, a3, a4, a5, a6, a7, a8, a9, hav, hmk, ha, hc, Bool.true_and, wrap1 hlt hu.1, hg, gd_del hg, gd_gs hg, hfs, hok, chk_sum hw', Bool.and_self, br_false]
    revert hI2
    simp only [nx6]
    cases p0 : ((ga us i).kind == 0)
    · cases p1 : ((ga us i).kind == 1)
      · cases p2 : ((ga us i).kind == 2)
        · cases p3 : ((ga us i).kind == 3)
          · intro _; cases inA (isId (ga us i).id) es <;> rfl
          · intro hI2
            have h1 := inv_exp hw' hv he (ga us i).day
            cases hgs : (gsA es (ga us i).day).isEmpty
            · have h2 := chk_sum h1
              cases hfe : (fsA es (ga us i).day).isEmpty
              · simp only [h2, Bool.and_self, Bool.false_and, Bool.and_false, Bool.not_false, br_true, br_false]
                cases inA (isId (ga us i).id) es <;> rfl
              · have hf : fsA es (ga us i).day = [] := by simpa using hfe
                have hgo : goN es (fsA es (ga us i).day) go (fsA es (ga us i).day).length = go := by rw [hf]; rfl
                rw [hgo] at h2 ⊢
                simp only [h2, Bool.and_self, Bool.false_and, Bool.and_false, Bool.not_false, Bool.not_true, br_true, br_false]
                cases inA (isId (ga us i).id) es <;> rfl
            · have hge : gsA es (ga us i).day = [] := by simpa using hgs
              rw [hge] at h1
              have h2 := chk_nil h1
              cases hfe : (fsA es (ga us i).day).isEmpty
              · simp only [h2, Bool.and_self, Bool.false_and, Bool.and_false, Bool.not_false, Bool.not_true, br_true, br_false]
                cases inA (isId (ga us i).id) es <;> rfl
              · have hf : fsA es (ga us i).day = [] := by simpa using hfe
                have hgo : goN es (fsA es (ga us i).day) go (fsA es (ga us i).day).length = go := by rw [hf]; rfl
                rw [hgo] at h2 ⊢
                simp only [h2, Bool.and_self, Bool.false_and, Bool.and_false, Bool.not_false, Bool.not_true, br_true, br_false]
                cases inA (isId (ga us i).id) es <;> rfl
        · intro _
          cases hi : inA (isId (ga us i).id) es
          · rfl
          · have h2 := chk_sum (inv_del hw' hi)
            simp only [h2, br_true, br_false]
      · cases hu' : (useE es (ga us i).id (ga us i).n (ga us i).day != 0)
        · have hu0 : useE es (ga us i).id (ga us i).n (ga us i).day = 0 := by simpa using hu'
          have hi := (useE_eq hu0).1
          intro _
          cases hall : allB es (ga us i).id (ga us i).n
          · have h2 := chk_sum (inv_set (n := (ga us i).n) hw' hi)
            simp only [hi, hu0, h2, gd_set hg hu0, beq_self_eq_true, br_true, br_false, Bool.and_self, Bool.and_false, Bool.not_false]
          · have hn : (ga us i).n = (hA es (ixA (isId (ga us i).id) es)).amt := eq_of_beq hall
            have h3 := inv_del hw' hi
            rw [← hn] at h3
            have h2 := chk_sum h3
            simp only [hi, hu0, h2, beq_self_eq_true, br_true, br_false, Bool.and_self]
        · intro _
          have h1 : (useE es (ga us i).id (ga us i).n (ga us i).day == 0) = false := by
            simpa [bne] using hu'
          simp only [h1, br_true, br_false]
          cases inA (isId (ga us i).id) es <;> rfl
    · cases hu' : (placeE es (ga us i).h != 0)
      · have hu0 : placeE es (ga us i).h = 0 := by simpa using hu'
        intro _
        have h2 := chk_sum (inv_place hw' (ga us i).h)
        simp only [hu0, h2, gd_app hc ha, beq_self_eq_true, br_true, br_false]
        cases inA (isId (ga us i).id) es <;> rfl
      · intro _
        have h1 : (placeE es (ga us i).h == 0) = false := by simpa [bne] using hu'
        simp only [h1, br_true, br_false]
        cases inA (isId (ga us i).id) es <;> rfl

end Go.Proofs.H22

/- loan.Pay: a payment is as it is said. -/
import Derived.Test.YtbieppilagmdjaaGreatDoorX35Ld
import Derived.Test.YtbieppilagmdjaaGreatDoorE35_1
import Derived.KernelRfl
set_option linter.unusedVariables false
set_option linter.unusedSimpArgs false
set_option linter.unnecessarySimpa false
namespace Go.Proofs.H35
open Go Go.Eng Go.Tk
open Go.Proofs.H35P (isC qf7 qeU lnC qJV qay qMI qXb bx0 bx1 chK chN dyK owK lfK fiK t0K t1K t2K qff qfI qeO qgb qne)
set_option maxRecDepth 20000
theorem qql {f:Nat} {a:List AV} {h:Eng.Heap} {r r0:Res} {h' h0:Eng.Heap} (hc:qal IP f a h = some (r0,h0)) (hn:(r0,h0) ≠ (r,h')):isC f a h r h' = false:=by
 cases hb:isC f a h r h' with
 | false=>rfl
 | true=>exact absurd (Option.some.inj (hc.symm.trans (qf7 hb))) hn
theorem qdi (a b k:Int):qpJ a b k = some (a == k):=by rw [qAf,qoy]; rfl
theorem q3n (A:Int):qc4 (EPa [(3,A)]) 3 = some 0:=by
 rw [qfe,qfA,qfM]
 rw [qaX (j:=0) (by simp only [qf9,qdB,qdi]; rfl)]
 rfl
theorem q1J (A:Int):qc4 (EPa [(3,A)]) 4 = some (-1):=by
 rw [qfe,qfA,qfM]
 rw [qcr (v':=(EPa [(3,A)],4,1,1)) (by simp only [qf9,qdB,qdi]; rfl)]
 rw [qaX (j:=1) (by simp only [qf9,qdB,qdi]; rfl)]
 rfl
theorem q3o (B:Int):qc4 (EPa [(4,B)]) 4 = some 0:=by
 rw [qfe,qfA,qfM]
 rw [qaX (j:=0) (by simp only [qf9,qdB,qdi]; rfl)]
 rfl
theorem qWX (A B:Int):qc4 (EPa [(3,A),(4,B)]) 3 = some 0:=by
 rw [qfe,qfA,qfM]
 rw [qaX (j:=0) (by simp only [qf9,qdB,qdi]; rfl)]
 rfl
theorem qNS (A B:Int):qc4 (EPa [(3,A),(4,B)]) 4 = some 1:=by
 rw [qfe,qfA,qfM]
 rw [qcr (v':=(EPa [(3,A),(4,B)],4,2,1)) (by simp only [qf9,qdB,qdi]; rfl)]
 rw [qaX (j:=0) (by simp only [qf9,qdB,qdi]; rfl)]
 rfl
section
variable {l k j:Int} {W es:List AV}
theorem quO (h:qj4 l W = some (k,l,W)):fiK l W k = true:=qeU (qzs (l,W) _ h)
theorem qFH {k':Int} (h:qj4 l W = some (k,l,W)) (hk:k ≠ k'):fiK l W k' = false:=
 qql (qzs (l,W) _ h) fun e=>hk (by
  have:=congrArg Prod.fst e
  exact (AV.int.inj (Res.ret.inj this)).2)
theorem qEq (hix:qc4 W k = some j) (hj:¬ j < 0) (hok:qcO [CS.int IntKind.i64,CS.int IntKind.i64] W j = true) (ha:intOf (cellAt W j 1) = qMI k W) (hl:l ≠ 0):t0K l W k = true:=by
 have e:quN k l W = some (.inr (H35P.mk k W l,IntKind.i64.wrap (l - H35P.mk k W l),W,[.agg [.int .i64 k,.int .i64 (H35P.mk k W l)]])):=by
  rw [qAl,qoE,hix,ev_bi_some,decide_eq_false hj,ha,hok,show (l == 0) = false from beq_eq_false_iff_ne.2 hl]
  rfl
 exact qeU (qJL (k,l,W) _ e)
theorem qTB (hix:qc4 W k = some j) (hj:¬ j < 0) (hok:qcO [CS.int IntKind.i64,CS.int IntKind.i64] W j = true) (ha:intOf (cellAt W j 1) = qMI k W) (hl:l ≠ 0) (hr:room (es.length + 1) 16 = true):t1K l W es k = true:=by
 have e:qpM k l W es = some (.inr (H35P.mk k W l,IntKind.i64.wrap (l - H35P.mk k W l),W,es ++ [.agg [.int .i64 k,.int .i64 (H35P.mk k W l)]])):=by
  rw [qpN,qk9,hix,ev_bi_some,decide_eq_false hj,ha,hok,hr,show (l == 0) = false from beq_eq_false_iff_ne.2 hl]
  rfl
 exact qeU (qzt (k,l,W,es) _ e)
theorem qEr (hix:qc4 W k = some j) (hj:j < 0 \/ l = 0):qal IP 21 [.ref 0 0 0,.int .i64 k] (bx1 1 l W es) = some (.ret (.int .i64 0),bx1 1 l W es):=by
 have e:qpM k l W es = some (.inl (0,l,W,es)):=by
  rw [qpN,qk9,hix,ev_bi_some]
  rcases Decidable.em (j < 0) with h | h
  ·rw [decide_eq_true h]; rfl
  ·rw [decide_eq_false h,show (l == 0) = true from beq_iff_eq.2 (hj.resolve_left h)]; rfl
 exact qzt (k,l,W,es) _ e
theorem qMv (hix:qc4 W k = some j) (hj:j < 0 \/ l = 0):t2K l W es k = true:=qeU (qEr hix hj)
theorem qTA (hix:qc4 W k = some j) (hj:j < 0 \/ l = 0):t1K l W es k = false:=
 qql (qEr hix hj) fun e=>by
  have h:=congrArg Prod.snd e
  have h1:=List.head_eq_of_cons_eq h
  have h2:=congrArg Prod.snd h1
  simp [bx1] at h2
end
section
variable {st pp pi t0 t1 t2 t3 t4 t5 t6 t7 t8 t9:Int} {c u:Bs} {D:List Du}
theorem qBF (hl:D.length <= 1000) (hD:D.all qci = true):qal IP 22 [lnC 7 1000 st pp pi 0 0 t3 0 0 0 t0 t1 t2 t3 t4 t5 t6 t7 t8 t9 c u (EDu D) []] [] = some (.ret (.bool (qbM D ⟨st,pp,pi⟩)),[]):=by
 have h:=qzq (7,1000,st,pp,pi,0,0,t3,0,0,0,t0,t1,t2,t3,t4,t5,t6,t7,t8,t9,c,u,EDu D,[]) (qbM D ⟨st,pp,pi⟩) (qvj hl hD)
 have e:(qal IP 22 (aE qnJ (7,1000,st,pp,pi,0,0,t3,0,0,0,t0,t1,t2,t3,t4,t5,t6,t7,t8,t9,c,u,EDu D,[])) (aH qnJ (7,1000,st,pp,pi,0,0,t3,0,0,0,t0,t1,t2,t3,t4,t5,t6,t7,t8,t9,c,u,EDu D,[])) = some (rE qs5 (qbM D ⟨st,pp,pi⟩))) = (qal IP 22 [lnC 7 1000 st pp pi 0 0 t3 0 0 0 t0 t1 t2 t3 t4 t5 t6 t7 t8 t9 c u (EDu D) []] [] = some (.ret (.bool (qbM D ⟨st,pp,pi⟩)),[])):=by kernel_rfl
 exact e.mp h
theorem qvl (hl:D.length <= 1000) (hD:D.all qci = true) {b:Bool} (h:qbM D ⟨st,pp,pi⟩ = b):lfK 7 1000 st pp pi 0 0 t3 0 0 0 t0 t1 t2 t3 t4 t5 t6 t7 t8 t9 c u (EDu D) [] b = true:=qeU (h ▸ qBF hl hD)
theorem qSB (hl:D.length <= 1000) (hD:D.all qci = true) (h:qbM D ⟨st,pp,pi⟩ = false):lfK 7 1000 st pp pi 0 0 t3 0 0 0 t0 t1 t2 t3 t4 t5 t6 t7 t8 t9 c u (EDu D) [] true = false:=qql (h ▸ qBF hl hD) (by intro e; simp at e)
theorem qNv (on:Int):qal IP 19 [.int .i64 on] [] = some (.ret (.bool (decide (on >= 0) && decide (on <= 73048))),[]):=qzr on _ (qfk on)
theorem qNw (on:Int):br (dyK on true) (some false) (br (dyK on false) (some true) none) = some (!(decide (on >= 0) && decide (on <= 73048))):=by
 have h:=qNv on
 cases hb:(decide (on >= 0) && decide (on <= 73048)) with
 | true=>rw [hb] at h; rw [show dyK on true = true from qeU h]; rfl
 | false=>rw [hb] at h; rw [show dyK on true = false from qql h (by intro e; simp at e),show dyK on false = true from qeU h]; rfl
theorem qk5 (hl:D.length <= 1000) (hD:D.all qci = true) (h0:1 <= D.length) {l' L pp' P pi' I:Int} {ps:List AV} (el:l' = L) (ep:pp' = P) (ei:pi' = I) {Q:qgb -> Prop}
  (hQ:Q (7,1000,bif qbM D ⟨1,P,I⟩ then 1 else 2,P,I,0,0,t3,0,0,0,t0,t1,t2,t3,t4,t5,t6,t7,t8,t9,c,u,EDu D,[],ps ++ (if L > 0 then [.agg [.int .i64 5,.int .i64 L]] else []),0)) :
  Ok (DT.br (decide (l' > 0))
   (.br (lfK 7 1000 1 pp' pi' 0 0 t3 0 0 0 t0 t1 t2 t3 t4 t5 t6 t7 t8 t9 c u (EDu D) [] true)
    (.br (decide ((EDu D).length ≠ 0) && decide ((EDu D).length * 32 <= lim)) (.br (decide (([]:List AV).length = 0)) (.at (7,1000,1,pp',pi',0,0,t3,0,0,0,t0,t1,t2,t3,t4,t5,t6,t7,t8,t9,c,u,EDu D,[],ps ++ [.agg [.int .i64 5,.int .i64 l']],0)) .no) .no)
    (.br (lfK 7 1000 1 pp' pi' 0 0 t3 0 0 0 t0 t1 t2 t3 t4 t5 t6 t7 t8 t9 c u (EDu D) [] false)
     (.br (decide ((EDu D).length ≠ 0) && decide ((EDu D).length * 32 <= lim)) (.br (decide (([]:List AV).length = 0)) (.at (7,1000,2,pp',pi',0,0,t3,0,0,0,t0,t1,t2,t3,t4,t5,t6,t7,t8,t9,c,u,EDu D,[],ps ++ [.agg [.int .i64 5,.int .i64 l']],0)) .no) .no) .no))
   (.br (lfK 7 1000 1 pp' pi' 0 0 t3 0 0 0 t0 t1 t2 t3 t4 t5 t6 t7 t8 t9 c u (EDu D) [] true)
    (.br (decide ((EDu D).length ≠ 0) && decide ((EDu D).length * 32 <= lim)) (.br (decide (([]:List AV).length = 0)) (.at (7,1000,1,pp',pi',0,0,t3,0,0,0,t0,t1,t2,t3,t4,t5,t6,t7,t8,t9,c,u,EDu D,[],ps,0)) .no) .no)
    (.br (lfK 7 1000 1 pp' pi' 0 0 t3 0 0 0 t0 t1 t2 t3 t4 t5 t6 t7 t8 t9 c u (EDu D) [] false)
     (.br (decide ((EDu D).length ≠ 0) && decide ((EDu D).length * 32 <= lim)) (.br (decide (([]:List AV).length = 0)) (.at (7,1000,2,pp',pi',0,0,t3,0,0,0,t0,t1,t2,t3,t4,t5,t6,t7,t8,t9,c,u,EDu D,[],ps,0)) .no) .no) .no))).ev Q:=by
 subst el ep ei
 have hc:(decide ((EDu D).length ≠ 0) && decide ((EDu D).length * 32 <= lim)) = true:=by
  rw [List.length_map,decide_eq_true (show D.length ≠ 0 by omega),decide_eq_true (show D.length * 32 <= lim by unfold lim; omega)]; rfl
 refine qao (fun h=>?_) (fun h=>?_)
 ·have h:=of_decide_eq_true h
  rw [if_pos h] at hQ
  cases hb:qbM D ⟨1,pp',pi'⟩ with
  | true=>rw [hb] at hQ; exact qaE (qvl hl hD hb) (qaE hc (qaE rfl (qah hQ)))
  | false=>rw [hb] at hQ; exact qbN (qSB hl hD hb) (qaE (qvl hl hD hb) (qaE hc (qaE rfl (qah hQ))))
 ·have h:=of_decide_eq_false h
  rw [if_neg h,List.append_nil] at hQ
  cases hb:qbM D ⟨1,pp',pi'⟩ with
  | true=>rw [hb] at hQ; exact qaE (qvl hl hD hb) (qaE hc (qaE rfl (qah hQ)))
  | false=>rw [hb] at hQ; exact qbN (qSB hl hD hb) (qaE (qvl hl hD hb) (qaE hc (qaE rfl (qah hQ))))
theorem qux (ht:qiN t0 t1 t2 t3 t4 t5 t6 t7 t8 t9) (hst:st = 1 \/ st = 2) (hl:D.length <= 1000):∃ e:Int,qal IP 18 [lnC 7 1000 st pp pi 0 0 t3 0 0 0 t0 t1 t2 t3 t4 t5 t6 t7 t8 t9 c u (EDu D) []] [] = some (.ret (.int .i64 e),[]) /\ (e = 0 ↔ qpi D t1 ⟨st,pp,pi⟩ = true):=by
 obtain ⟨e,h1,h2⟩:=quw (pp:=pp) (pi:=pi) (c:=c) (u:=u) ht hst hl
 refine ⟨e,?_,h2⟩
 have h:=qzp (7,1000,st,pp,pi,0,0,t3,0,0,0,t0,t1,t2,t3,t4,t5,t6,t7,t8,t9,c,u,EDu D,[]) e h1
 have e':(qal IP 18 (aE qnI (7,1000,st,pp,pi,0,0,t3,0,0,0,t0,t1,t2,t3,t4,t5,t6,t7,t8,t9,c,u,EDu D,[])) (aH qnI (7,1000,st,pp,pi,0,0,t3,0,0,0,t0,t1,t2,t3,t4,t5,t6,t7,t8,t9,c,u,EDu D,[])) = some (rE qs4 e)) = (qal IP 18 [lnC 7 1000 st pp pi 0 0 t3 0 0 0 t0 t1 t2 t3 t4 t5 t6 t7 t8 t9 c u (EDu D) []] [] = some (.ret (.int .i64 e),[])):=by kernel_rfl
 exact e'.mp h
theorem qzx (ht:qiN t0 t1 t2 t3 t4 t5 t6 t7 t8 t9) (hst:st = 1 \/ st = 2) (hl:D.length <= 1000) (hc:qpi D t1 ⟨st,pp,pi⟩ = true):chK 7 1000 st pp pi 0 0 t3 0 0 0 t0 t1 t2 t3 t4 t5 t6 t7 t8 t9 c u (EDu D) [] = true:=by
 obtain ⟨e,h1,h2⟩:=qux (pp:=pp) (pi:=pi) (c:=c) (u:=u) ht hst hl
 rw [h2.2 hc] at h1
 exact qeU h1
theorem qRU (ht:qiN t0 t1 t2 t3 t4 t5 t6 t7 t8 t9) (hst:st = 1 \/ st = 2) (hl:D.length <= 1000) (hc:qpi D t1 ⟨st,pp,pi⟩ = false):chK 7 1000 st pp pi 0 0 t3 0 0 0 t0 t1 t2 t3 t4 t5 t6 t7 t8 t9 c u (EDu D) [] = false /\ chN 7 1000 st pp pi 0 0 t3 0 0 0 t0 t1 t2 t3 t4 t5 t6 t7 t8 t9 c u (EDu D) [] = true /\ (qJV 7 1000 st pp pi 0 0 t3 0 0 0 t0 t1 t2 t3 t4 t5 t6 t7 t8 t9 c u (EDu D) [] != 0) = true:=by
 obtain ⟨e,h1,h2⟩:=qux (pp:=pp) (pi:=pi) (c:=c) (u:=u) ht hst hl
 have hne:e ≠ 0:=fun h=>by rw [h2.1 h] at hc; cases hc
 have hx:∃ e,e ≠ 0 /\ qal IP 18 [lnC 7 1000 st pp pi 0 0 t3 0 0 0 t0 t1 t2 t3 t4 t5 t6 t7 t8 t9 c u (EDu D) []] [] = some (.ret (.int .i64 e),[]):=⟨e,hne,h1⟩
 have he:qJV 7 1000 st pp pi 0 0 t3 0 0 0 t0 t1 t2 t3 t4 t5 t6 t7 t8 t9 c u (EDu D) [] = hx.choose:=by unfold qJV; exact dif_pos hx
 refine ⟨qql h1 (by intro h; simp at h; exact hne h),?_,?_⟩
 ·unfold chN
  rw [he]
  exact qeU hx.choose_spec.2
 ·rw [he]
  exact bne_iff_ne.2 hx.choose_spec.1
theorem qGk (hD:D.all qci = true) (h0:1 <= D.length) (hl:D.length <= 1000) (p0:0 <= pp) (p1:pp <= 1000000000000000) (i0:0 <= pi) (i1:pi <= 1000000000000000) (on:Int):qal IP 12 [lnC 7 1000 st pp pi 0 0 t3 0 0 0 t0 t1 t2 t3 t4 t5 t6 t7 t8 t9 c u (EDu D) [],.int .i64 on] [] = some (.ret (.view 2 (EPa (owL (duI (qaO D on) - pi) (duP (qaO D on) - pp)))),[]):=by
 have h1:=qvH (st:=st) (t0:=t0) (t1:=t1) (t2:=t2) (t3:=t3) (t4:=t4) (t5:=t5) (t6:=t6) (t7:=t7) (t8:=t8) (t9:=t9) (c:=c) (u:=u) hD h0 hl p0 p1 i0 i1 on
 generalize EPa (owL (duI (qaO D on) - pi) (duP (qaO D on) - pp)) = w at h1 ⊢
 have h:=c12 (7,1000,st,pp,pi,0,0,t3,0,0,0,t0,t1,t2,t3,t4,t5,t6,t7,t8,t9,c,u,EDu D,[],on) w h1
 have e':(qal IP 12 (aE p12 (7,1000,st,pp,pi,0,0,t3,0,0,0,t0,t1,t2,t3,t4,t5,t6,t7,t8,t9,c,u,EDu D,[],on)) (aH p12 (7,1000,st,pp,pi,0,0,t3,0,0,0,t0,t1,t2,t3,t4,t5,t6,t7,t8,t9,c,u,EDu D,[],on)) = some (rE r12 w)) = (qal IP 12 [lnC 7 1000 st pp pi 0 0 t3 0 0 0 t0 t1 t2 t3 t4 t5 t6 t7 t8 t9 c u (EDu D) [],.int .i64 on] [] = some (.ret (.view 2 w),[])):=by kernel_rfl
 exact e'.mp h
theorem qOb (hD:D.all qci = true) (h0:1 <= D.length) (hl:D.length <= 1000) (p0:0 <= pp) (p1:pp <= 1000000000000000) (i0:0 <= pi) (i1:pi <= 1000000000000000) (on:Int):qay 7 1000 st pp pi 0 0 t3 0 0 0 t0 t1 t2 t3 t4 t5 t6 t7 t8 t9 c u (EDu D) [] on = EPa (owL (duI (qaO D on) - pi) (duP (qaO D on) - pp)) /\ owK 7 1000 st pp pi 0 0 t3 0 0 0 t0 t1 t2 t3 t4 t5 t6 t7 t8 t9 c u (EDu D) [] on = true:=by
 have h1:=qGk (st:=st) (t0:=t0) (t1:=t1) (t2:=t2) (t3:=t3) (t4:=t4) (t5:=t5) (t6:=t6) (t7:=t7) (t8:=t8) (t9:=t9) (c:=c) (u:=u) hD h0 hl p0 p1 i0 i1 on
 have hx:∃ w,qal IP 12 [lnC 7 1000 st pp pi 0 0 t3 0 0 0 t0 t1 t2 t3 t4 t5 t6 t7 t8 t9 c u (EDu D) [],.int .i64 on] [] = some (.ret (.view 2 w),[]):=⟨_,h1⟩
 have he:qay 7 1000 st pp pi 0 0 t3 0 0 0 t0 t1 t2 t3 t4 t5 t6 t7 t8 t9 c u (EDu D) [] on = hx.choose:=by unfold qay; exact dif_pos hx
 have hs:=hx.choose_spec
 have e:qay 7 1000 st pp pi 0 0 t3 0 0 0 t0 t1 t2 t3 t4 t5 t6 t7 t8 t9 c u (EDu D) [] on = EPa (owL (duI (qaO D on) - pi) (duP (qaO D on) - pp)):=by
  rw [he]
  have:=Option.some.inj (hs.symm.trans h1)
  have:=congrArg Prod.fst this
  exact (AV.view.inj (Res.ret.inj this)).2
 refine ⟨e,?_⟩
 unfold owK
 rw [e]
 exact qeU h1
theorem qS3 (a b:Int):owL a b = (if a > 0 then [(3,a)] else []) ++ (if b > 0 then [(4,b)] else []):=by
 unfold owL
 have e:∀ x:Int,decide (x <= 0) = !decide (x > 0):=fun x=>by
  by_cases h:x > 0
  ·rw [decide_eq_true h,decide_eq_false (show ¬ x <= 0 by omega)]; rfl
  ·rw [decide_eq_false h,decide_eq_true (show x <= 0 by omega)]; rfl
 simp only [e]
 by_cases ha:a > 0 <;> by_cases hb:b > 0 <;> simp [List.filter_cons,ha,hb]
theorem qSg (n:Int):qj4 n (EPa []) = some (5,n,EPa []):=by rw [qpL,qk8]; rfl
theorem qj9 (n k a:Int) (l:List (Int × Int)):qj4 n (EPa ((k,a) :: l)) = some (k,n,EPa ((k,a) :: l)):=by
 rw [qpL,qk8,ev_br,show (((EPa ((k,a) :: l)).length:Int) == 0) = false from beq_eq_false_iff_ne.2 (by simp; omega),cond_false,ev_br]
 rfl
theorem qOe (ht:qiN t0 t1 t2 t3 t4 t5 t6 t7 t8 t9) {n on:Int} (hp:qs1 D t1 n on ⟨1,pp,pi⟩ = true):Ok (qff 7 1000 1 pp pi 0 0 t3 0 0 0 t0 t1 t2 t3 t4 t5 t6 t7 t8 t9 c u (EDu D) [] n on) fun r=>r = (7,1000,(payT D n on ⟨1,pp,pi⟩).st,(payT D n on ⟨1,pp,pi⟩).pp,(payT D n on ⟨1,pp,pi⟩).pi,0,0,t3,0,0,0,t0,t1,t2,t3,t4,t5,t6,t7,t8,t9,c,u,EDu D,[],EPa (payL D n on ⟨1,pp,pi⟩),0):=by
 unfold qs1 at hp
 simp only [Bool.and_eq_true,decide_eq_true_eq] at hp
 obtain ⟨hc,n0,n1,o0,o1,_⟩:=hp
 obtain ⟨⟨hp0,hi0⟩,⟨hl1,hl2⟩,hD,ho,hpl,hil,hS⟩:=qe7 hc
 simp only at hp0 hi0 hpl hil
 have hl:D.length <= 1000:=by omega
 have hb:=qbh hD hl D.length
 rw [List.take_length] at hb
 have hF:=qnk on hD
 have hFl:(qaO D on).length <= 1000:=Nat.le_trans (List.length_filter_le _ _) hl
 have hbF:=qbh hF hFl (qaO D on).length
 rw [List.take_length] at hbF
 obtain ⟨hW,hK⟩:=qOb (st:=1) (t0:=t0) (t1:=t1) (t2:=t2) (t3:=t3) (t4:=t4) (t5:=t5) (t6:=t6) (t7:=t7) (t8:=t8) (t9:=t9) (c:=c) (u:=u) hD hl1 hl hp0 (by omega) hi0 (by omega) on
 have hd:(!(decide (on >= 0) && decide (on <= 73048))) = false:=by rw [decide_eq_true o0,decide_eq_true o1]; rfl
 rw [qfI,qeO,hW]
 refine qaE (qzx ht (.inl rfl) hl hc) (qam (b:=false) (by rw [decide_eq_false (show ¬ n < 1 by omega),decide_eq_false (show ¬ n > 1000000000000 by omega)]; rfl) (qam (b:=false) (by rw [qNw,hd]; rfl) (qbN rfl (qbN rfl (qaE hK ?_)))))
 rw [qS3]
 have hpt:payT D n on ⟨1,pp,pi⟩ = ⟨bif qbM D ⟨1,pp + tkP D n on ⟨1,pp,pi⟩,pi + tkI D n on ⟨1,pp,pi⟩⟩ then 1 else 2,pp + tkP D n on ⟨1,pp,pi⟩,pi + tkI D n on ⟨1,pp,pi⟩⟩:=rfl
 rw [hpt]
 have hpl':payL D n on ⟨1,pp,pi⟩ = (if duI (qaO D on) - pi > 0 then [(3,tkI D n on ⟨1,pp,pi⟩)] else []) ++ ((if duP (qaO D on) - pp > 0 /\ n - tkI D n on ⟨1,pp,pi⟩ ≠ 0 then [(4,tkP D n on ⟨1,pp,pi⟩)] else []) ++ (if n - tkI D n on ⟨1,pp,pi⟩ - tkP D n on ⟨1,pp,pi⟩ > 0 then [(5,n - tkI D n on ⟨1,pp,pi⟩ - tkP D n on ⟨1,pp,pi⟩)] else [])):=rfl
 rw [hpl']
 have hI:tkI D n on ⟨1,pp,pi⟩ = if duI (qaO D on) - pi > 0 then min n (duI (qaO D on) - pi) else 0:=rfl
 have hP:tkP D n on ⟨1,pp,pi⟩ = if duP (qaO D on) - pp > 0 /\ n - tkI D n on ⟨1,pp,pi⟩ ≠ 0 then min (n - tkI D n on ⟨1,pp,pi⟩) (duP (qaO D on) - pp) else 0:=rfl
 generalize tkI D n on ⟨1,pp,pi⟩ = I at hI hP ⊢
 generalize tkP D n on ⟨1,pp,pi⟩ = P at hP ⊢
 have hAb:duI (qaO D on) - pi <= 1000000000000000:=by omega
 have hBb:duP (qaO D on) - pp <= 1000000000000000:=by omega
 generalize duI (qaO D on) - pi = A at hI hAb ⊢
 generalize duP (qaO D on) - pp = B at hP hBb ⊢
 have h5:∀ x:Int,EPa (if x > 0 then [((5:Int),x)] else []) = if x > 0 then [AV.agg [.int .i64 5,.int .i64 x]] else []:=fun x=>by split <;> rfl
 by_cases ha:A > 0
 ·rw [if_pos ha] at hI
  have hmk:∀ l,H35P.mk 3 (EPa ((3,A) :: l)) n = I:=fun l=>by
   show (if (if (3:Int) = 3 then A else _) < n then (if (3:Int) = 3 then A else _) else n) = I
   rw [if_pos rfl,hI]
   split <;> omega
  have hw1:IntKind.i64.wrap (n - I) = n - I:=Go.Eng.wrap64 (by omega) (by omega)
  have hw2:IntKind.i64.wrap (pi + I) = pi + I:=Go.Eng.wrap64 (by omega) (by omega)
  simp only [if_pos ha]
  by_cases hbp:B > 0
  ·simp only [if_pos hbp,List.singleton_append]
   refine qbN (qFH (qj9 n 3 A [(4,B)]) (by decide)) (qaE (quO (qj9 n 3 A [(4,B)])) (qaE (qEq (qWX A B) (by decide) rfl rfl (by omega)) ?_))
   simp only [hmk,hw1]
   by_cases hz:n - I = 0
   ·have hP0:P = 0:=by rw [hP,if_neg]; exact fun h=>h.2 hz
    refine qbN (qTA (qNS A B) (.inr hz)) (qaE (qMv (qNS A B) (.inr hz)) (qk5 (L:=n - I - P) (P:=pp + P) (I:=pi + I) (ps:=[.agg [.int .i64 3,.int .i64 I]]) hl hD hl1 (by omega) (by rw [hP0]; exact Go.Eng.wrap64 (by omega) (by omega)) hw2 ?_))
    rw [if_neg (show ¬ (B > 0 /\ n - I ≠ 0) from fun h=>h.2 hz),List.nil_append,<- h5]
    rfl
   ·have hP1:P = min (n - I) B:=by rw [hP,if_pos ⟨hbp,hz⟩]
    have hmk4:H35P.mk 4 (EPa [(3,A),(4,B)]) (n - I) = P:=by
     show (if (if (3:Int) = 4 then A else if (4:Int) = 4 then B else 0) < n - I then (if (3:Int) = 4 then A else if (4:Int) = 4 then B else 0) else n - I) = P
     rw [if_neg (show ¬ (3:Int) = 4 by decide),if_pos (show (4:Int) = 4 from rfl),hP1]
     split <;> omega
    refine qaE (qTB (qNS A B) (by decide) rfl rfl hz rfl) ?_
    simp only [hmk4]
    refine qk5 (L:=n - I - P) (P:=pp + P) (I:=pi + I) (ps:=[.agg [.int .i64 3,.int .i64 I],.agg [.int .i64 4,.int .i64 P]]) hl hD hl1 (Go.Eng.wrap64 (by omega) (by omega)) (Go.Eng.wrap64 (by omega) (by omega)) hw2 ?_
    rw [if_pos (show B > 0 /\ n - I ≠ 0 from ⟨hbp,hz⟩),<- h5]
    rfl
  ·have hP0:P = 0:=by rw [hP,if_neg]; exact fun h=>hbp h.1
   simp only [if_neg hbp,List.append_nil]
   refine qbN (qFH (qj9 n 3 A []) (by decide)) (qaE (quO (qj9 n 3 A [])) (qaE (qEq (q3n A) (by decide) rfl rfl (by omega)) ?_))
   simp only [hmk,hw1]
   refine qbN (qTA (q1J A) (.inl (by decide))) (qaE (qMv (q1J A) (.inl (by decide))) (qk5 (L:=n - I - P) (P:=pp + P) (I:=pi + I) (ps:=[.agg [.int .i64 3,.int .i64 I]]) hl hD hl1 (by omega) (by rw [hP0]; exact Go.Eng.wrap64 (by omega) (by omega)) hw2 ?_))
   rw [if_neg (show ¬ (B > 0 /\ n - I ≠ 0) from fun h=>hbp h.1),List.nil_append,<- h5]
   rfl
 ·rw [if_neg ha] at hI
  subst hI
  simp only [if_neg ha,List.nil_append]
  by_cases hbp:B > 0
  ·have hn0:n - 0 ≠ 0:=by omega
   have hP1:P = min n B:=by rw [hP,if_pos ⟨hbp,hn0⟩,Int.sub_zero]
   have hmk4:H35P.mk 4 (EPa [(4,B)]) n = P:=by
    show (if (if (4:Int) = 4 then B else 0) < n then (if (4:Int) = 4 then B else 0) else n) = P
    rw [if_pos (show (4:Int) = 4 from rfl),hP1]
    split <;> omega
   simp only [if_pos hbp]
   refine qbN (qFH (qj9 n 4 B []) (by decide)) (qbN (qFH (qj9 n 4 B []) (by decide)) (qaE (quO (qj9 n 4 B [])) (qaE (qEq (q3o B) (by decide) rfl rfl (by omega)) ?_)))
   simp only [hmk4]
   refine qk5 (L:=n - 0 - P) (P:=pp + P) (I:=pi + 0) (ps:=[.agg [.int .i64 4,.int .i64 P]]) hl hD hl1 (by rw [Int.sub_zero]; exact Go.Eng.wrap64 (by omega) (by omega)) (Go.Eng.wrap64 (by omega) (by omega)) (Int.add_zero pi).symm ?_
   rw [if_pos (show B > 0 /\ n - 0 ≠ 0 from ⟨hbp,hn0⟩),<- h5]
   rfl
  ·have hP0:P = 0:=by rw [hP,if_neg]; exact fun h=>hbp h.1
   subst hP0
   simp only [if_neg hbp]
   refine qaE (quO (qSg n)) (qk5 (L:=n - 0 - 0) (P:=pp + 0) (I:=pi + 0) (ps:=[]) hl hD hl1 (by omega) (Int.add_zero pp).symm (Int.add_zero pi).symm ?_)
   rw [if_neg (show ¬ (B > 0 /\ n - 0 ≠ 0) from fun h=>hbp h.1),<- h5]
   rfl
end
end Go.Proofs.H35
namespace Go.Proofs.H35
open Go Go.Eng Go.Tk
open Go.Proofs.H35P (isC qf7 qeU lnC qJV qay qMI qXb bx0 bx1 chK chN dyK owK lfK fiK t0K t1K t2K qff qfI qeO qgb qne qkD qgC)
set_option maxRecDepth 20000
theorem qiw {α:Type} {o:Option α} {v:α} (h:Ok o fun r=>r = v):o = some v:=by obtain ⟨r,h1,rfl⟩:=h; exact h1
theorem wrap_add (a b:Int):IntKind.i64.wrap (IntKind.i64.wrap a + b) = IntKind.i64.wrap (a + b):=by
 simp only [IntKind.wrap_i64]; omega
theorem qr5 (a b:Int):IntKind.i64.wrap (a + IntKind.i64.wrap b) = IntKind.i64.wrap (a + b):=by rw [Int.add_comm,wrap_add,Int.add_comm]
def noR (e:Int):qgb:=(0,0,0,0,0,0,0,0,0,0,0,0,0,0,0,0,0,0,0,0,0,[],[],[],[],[],e)
section
variable {st pp pi t0 t1 t2 t3 t4 t5 t6 t7 t8 t9:Int} {c u:Bs} {D:List Du}
theorem qTb (ht:qiN t0 t1 t2 t3 t4 t5 t6 t7 t8 t9) (hst:st = 1 \/ st = 2) (hl:D.length <= 1000) {n on:Int} (hp:qs1 D t1 n on ⟨st,pp,pi⟩ = false):Ok (qff 7 1000 st pp pi 0 0 t3 0 0 0 t0 t1 t2 t3 t4 t5 t6 t7 t8 t9 c u (EDu D) [] n on) fun r=>r = noR 1 \/ r = noR 17:=by
 rw [qfI,qeO]
 cases hc:qpi D t1 ⟨st,pp,pi⟩ with
 | false=>
  obtain ⟨h1,h2,h3⟩:=qRU (c:=c) (u:=u) ht hst hl hc
  refine qbN h1 (qaE h2 ?_)
  rw [h3,qNw]
  exact qam (b:=true) rfl (qam (b:=true) rfl (qam (b:=true) rfl (qaE rfl (qah (.inl rfl)))))
 | true=>
  refine qaE (qzx ht hst hl hc) ?_
  rw [qNw]
  refine qam (b:=decide (n < 1) || decide (n > 1000000000000)) (by cases decide (n < 1) <;> rfl) (qam (b:=(decide (n < 1) || decide (n > 1000000000000)) || !(decide (on >= 0) && decide (on <= 73048))) (by cases (decide (n < 1) || decide (n > 1000000000000)) <;> rfl) (qao (fun _=>qah (.inl rfl)) (fun h=>?_)))
  simp only [Bool.or_eq_false_iff,decide_eq_false_iff_not,Bool.not_eq_false',Bool.and_eq_true,decide_eq_true_eq] at h
  have h2:st = 2:=by
   rcases hst with rfl | rfl
   ·have:qs1 D t1 n on ⟨1,pp,pi⟩ = true:=by
     unfold qs1
     simp only [Bool.and_eq_true,decide_eq_true_eq]
     exact ⟨hc,by omega,by omega,by omega,by omega,rfl⟩
    rw [this] at hp; cases hp
   ·rfl
  subst h2
  exact qaE rfl (qah (.inr rfl))
abbrev qrs (t0 t1 t2 t3 t4 t5 t6 t7 t8 t9:Int) (c u:Bs) (D:List Du):List AV:=[.int .i64 0,.int .i64 0,.int .i64 t3,.int .i64 0,.int .i64 0,.int .i64 0,.int .i64 t0,.int .i64 t1,.int .i64 t2,.int .i64 t3,.int .i64 t4,.int .i64 t5,.int .i64 t6,.int .i64 t7,.int .i64 t8,.int .i64 t9,.str c,.str u,.view 4 (EDu D),.view 14 []]
theorem qvM {n on:Int} {r:qgb} (h:qff 7 1000 st pp pi 0 0 t3 0 0 0 t0 t1 t2 t3 t4 t5 t6 t7 t8 t9 c u (EDu D) [] n on = some r):qal IP 7 [lnV (.int .i64 7) (.int .i64 1000) ⟨st,pp,pi⟩ (qrs t0 t1 t2 t3 t4 t5 t6 t7 t8 t9 c u D),.int .i64 n,.int .i64 on] [] = some (rE qgC r):=by
 have h:=qne (7,1000,st,pp,pi,0,0,t3,0,0,0,t0,t1,t2,t3,t4,t5,t6,t7,t8,t9,c,u,EDu D,[],n,on) r h
 have e:(qal IP 7 (aE qkD (7,1000,st,pp,pi,0,0,t3,0,0,0,t0,t1,t2,t3,t4,t5,t6,t7,t8,t9,c,u,EDu D,[],n,on)) (aH qkD (7,1000,st,pp,pi,0,0,t3,0,0,0,t0,t1,t2,t3,t4,t5,t6,t7,t8,t9,c,u,EDu D,[],n,on)) = some (rE qgC r)) = (qal IP 7 [lnV (.int .i64 7) (.int .i64 1000) ⟨st,pp,pi⟩ (qrs t0 t1 t2 t3 t4 t5 t6 t7 t8 t9 c u D),.int .i64 n,.int .i64 on] [] = some (rE qgC r)):=by kernel_rfl
 exact e.mp h
open Classical in
theorem qDo (ht:qiN t0 t1 t2 t3 t4 t5 t6 t7 t8 t9) {n on:Int} (hp:qs1 D t1 n on ⟨st,pp,pi⟩ = true):qrl (.int .i64 7) (.int .i64 1000) ⟨st,pp,pi⟩ (qrs t0 t1 t2 t3 t4 t5 t6 t7 t8 t9 c u D) D n on = true:=by
 have h1:st = 1:=by
  unfold qs1 at hp
  simp only [Bool.and_eq_true,beq_iff_eq] at hp
  exact hp.2.2.2.2.2
 subst h1
 have h:=qvM (qiw (qOe (c:=c) (u:=u) ht hp))
 unfold qrl
 refine decide_eq_true (h.trans (congrArg some ?_))
 generalize payT D n on ⟨1,pp,pi⟩ = T
 kernel_rfl
theorem qSW (e:Int):rE qgC (noR e) = (.ret (qTa e),[]):=by kernel_rfl
open Classical in
theorem qGl (ht:qiN t0 t1 t2 t3 t4 t5 t6 t7 t8 t9) (hst:st = 1 \/ st = 2) (hl:D.length <= 1000) {n on:Int} (hp:qs1 D t1 n on ⟨st,pp,pi⟩ = false):qrl (.int .i64 7) (.int .i64 1000) ⟨st,pp,pi⟩ (qrs t0 t1 t2 t3 t4 t5 t6 t7 t8 t9 c u D) D n on = false /\ (qiJ (.int .i64 7) (.int .i64 1000) ⟨st,pp,pi⟩ (qrs t0 t1 t2 t3 t4 t5 t6 t7 t8 t9 c u D) n on 1 = true \/ qiJ (.int .i64 7) (.int .i64 1000) ⟨st,pp,pi⟩ (qrs t0 t1 t2 t3 t4 t5 t6 t7 t8 t9 c u D) n on 1 = false /\ qiJ (.int .i64 7) (.int .i64 1000) ⟨st,pp,pi⟩ (qrs t0 t1 t2 t3 t4 t5 t6 t7 t8 t9 c u D) n on 17 = true):=by
 obtain ⟨r,hr,h⟩:=qTb (c:=c) (u:=u) ht hst hl hp
 have h7:=qvM hr
 have hne:∀ e:Int,e ≠ 0 -> (Res.ret (qTa e),([]:Eng.Heap)) ≠ (.ret (qYX (.int .i64 7) (.int .i64 1000) ⟨st,pp,pi⟩ (qrs t0 t1 t2 t3 t4 t5 t6 t7 t8 t9 c u D) D n on),[]):=fun e he h=>by
  have:=congrArg Prod.fst h
  have:=AV.tup.inj (Res.ret.inj this)
  simp only [List.cons.injEq,AV.int.injEq] at this
  exact he this.2.2.1.2
 rcases h with rfl | rfl
 ·rw [qSW] at h7
  refine ⟨?_,.inl ?_⟩
  ·unfold qrl; exact decide_eq_false fun h=>hne 1 (by decide) (Option.some.inj (h7.symm.trans h))
  ·unfold qiJ; exact decide_eq_true h7
 ·rw [qSW] at h7
  refine ⟨?_,.inr ⟨?_,?_⟩⟩
  ·unfold qrl; exact decide_eq_false fun h=>hne 17 (by decide) (Option.some.inj (h7.symm.trans h))
  ·unfold qiJ; exact decide_eq_false fun h=>by
    have:=congrArg Prod.fst (Option.some.inj (h7.symm.trans h))
    have:=AV.tup.inj (Res.ret.inj this)
    simp only [List.cons.injEq,AV.int.injEq] at this
    exact absurd this.2.2.1.2 (by decide)
  ·unfold qiJ; exact decide_eq_true h7
end
theorem qrT {k:Int} {l:List (Int × Int)} {n:Nat} (h:n < l.length):qE9 k (l.take (n + 1)) = qE9 k (l.take n) + (if (l[n]).1 = k then (l[n]).2 else 0):=by
 unfold qE9
 rw [List.take_succ_eq_append_getElem h,List.filter_append,List.map_append,List.sum_append]
 by_cases e:(l[n]).1 = k
 ·rw [if_pos e,List.filter_cons_of_pos (by simp [e])]; simp
 ·rw [if_neg e,List.filter_cons_of_neg (by simp [e])]; simp
theorem qEp {l:List (Int × Int)} {n:Nat} (h:n < l.length):Tk.sumL (l.take (n + 1)) = Tk.sumL (l.take n) + (l[n]).2:=by
 unfold Tk.sumL
 rw [List.take_succ_eq_append_getElem h,List.map_append,List.sum_append]; simp
theorem qu6 {l:List (Int × Int)} (hl:l.length <= 1000) (k:Int):ql8 (EPa l) k = some (IntKind.i64.wrap (qE9 k l)):=by
 have hloop:qva (EPa l,k,0,0) = some (0,(EPa l,k,IntKind.i64.wrap (qE9 k l),(l.length:Int))):=by
  rw [qqF]
  have:=qct (st:=fun v=>(qig v).ev) (fun n:Nat=>(EPa l,k,IntKind.i64.wrap (qE9 k (l.take n)),(n:Int))) l.length 0 0 (Nat.zero_le _) (fun n _ hn=>?_) ?_
  ·rw [List.take_length] at this; exact this
  ·refine qiw ?_
   simp only [qig,qkV]
   refine qaE (qlz hn) (qaE (qbV qGo hn) ?_)
   rw [qTg hn,qOm hn]
   refine qao (fun h=>qaE (qbV qGo hn) (qah ?_)) (fun h=>qah ?_)
   ·have h:(l[n]).1 = k:=by simpa using h
    rw [wrap_add,qbH hn (by omega),qrT hn,if_pos h]
   ·have h:¬ (l[n]).1 = k:=by simpa using h
    rw [qbH hn (by omega),qrT hn,if_neg h,Int.add_zero]
  ·simp only [qig,qkV]
   exact qiw (qbN (qpj (Nat.lt_irrefl _)) (qah rfl))
 rw [qAq,qoJ,hloop]
 rfl
end Go.Proofs.H35
namespace Go.Proofs.H35
open Go Go.Eng Go.Tk
set_option maxRecDepth 20000
def qim (d:Du):Int:=IntKind.i64.wrap (d.pr + d.it)
section
variable {t0 t1 t2 t3 t4 t5 t6 t7 t8 t9:Int} {c u:Bs} {D:List Du}
theorem qD8 (D:List Du) (P:Int) (amt:Du -> Int) (start:Int):∀ k,(qdS D P amt start k).1.st = 1 \/ (qdS D P amt start k).1.st = 2
 | 0=>.inl rfl
 | k + 1=>by
  have ih:=qD8 D P amt start k
  cases hg:D[k]? with
  | none=>simp only [qdS,hg]; exact ih
  | some d=>
   generalize hr:qdS D P amt start k = r at ih
   obtain ⟨s,dy,q⟩:=r
   have e:qdS D P amt start (k + 1) = bif qs1 D P (amt d) d.day s then (payT D (amt d) d.day s,d.day,q + tkP D (amt d) d.day s) else (s,d.day,q):=by simp only [qdS,hr,hg]
   rw [e]
   cases qs1 D P (amt d) d.day s with
   | false=>exact ih
   | true=>
    show (bif qbM D _ then s.st else 2) = 1 \/ (bif qbM D _ then s.st else 2) = 2
    generalize qbM D _ = b
    cases b
    ·exact .inr rfl
    ·exact ih
def rst (t0 t1 t2 t3 t4 t5 t6 t7 t8 t9:Int) (c u:Bs) (D:List Du) (K:Int) (m:Nat) (r:Ln × Int × Int):qdD:=(K,r.2.1,IntKind.i64.wrap r.2.2,(m:Int),t0,t1,t2,t3,t4,t5,t6,t7,t8,t9,c,u,7,1000,r.1.st,r.1.pp,r.1.pi,0,0,t3,0,0,0,t0,t1,t2,t3,t4,t5,t6,t7,t8,t9,c,u,EDu D,[])
theorem qGw (ht:qiN t0 t1 t2 t3 t4 t5 t6 t7 t8 t9) (hl:D.length <= 1000) {K m:Nat} (hm:m < K) (hK:K <= D.length):(qgI (rst t0 t1 t2 t3 t4 t5 t6 t7 t8 t9 c u D K m (qdS D t1 qim t3 m))).ev = some (.next (rst t0 t1 t2 t3 t4 t5 t6 t7 t8 t9 c u D K (m + 1) (qdS D t1 qim t3 (m + 1)))):=by
 have hmD:m < D.length:=by omega
 have hst:=qD8 D t1 qim t3 m
 have hget:D[m]? = some D[m]:=List.getElem?_eq_getElem hmD
 generalize hr:qdS D t1 qim t3 m = r at hst ⊢
 obtain ⟨⟨st,pp,pi⟩,dy,q⟩:=r
 have e:qdS D t1 qim t3 (m + 1) = bif qs1 D t1 (qim D[m]) D[m].day ⟨st,pp,pi⟩ then (payT D (qim D[m]) D[m].day ⟨st,pp,pi⟩,D[m].day,q + tkP D (qim D[m]) D[m].day ⟨st,pp,pi⟩) else (⟨st,pp,pi⟩,D[m].day,q):=by simp only [qdS,hr,hget]
 rw [e]
 refine qiw ?_
 simp only [qgI,qkT,rst]
 refine qaE (decide_eq_true (by omega)) (qaE (qE6 hmD) (qaE (qE6 hmD) (qaE (qE6 hmD) ?_)))
 rw [du1 hmD,du2 hmD,du3 hmD,qJR]
 have ha:IntKind.i64.wrap (D[m].pr + D[m].it) = qim D[m]:=rfl
 rw [ha]
 cases hp:qs1 D t1 (qim D[m]) D[m].day ⟨st,pp,pi⟩ with
 | true=>
  refine qaE (qDo ht hp) (qam (qu6 (show (payL D (qim D[m]) D[m].day ⟨st,pp,pi⟩).length <= 1000 from ?_) 4) (qah ?_))
  ·unfold payL
   simp only [List.length_append]
   have h1:∀ (p:Prop) [Decidable p] (x:Int × Int),(if p then [x] else []).length <= 1:=fun p _ x=>by split <;> simp
   have a:=h1 (duI (qaO D D[m].day) - pi > 0) (3,tkI D (qim D[m]) D[m].day ⟨st,pp,pi⟩)
   have b:=h1 (duP (qaO D D[m].day) - pp > 0 /\ qim D[m] - tkI D (qim D[m]) D[m].day ⟨st,pp,pi⟩ ≠ 0) (4,tkP D (qim D[m]) D[m].day ⟨st,pp,pi⟩)
   have c:=h1 (qim D[m] - tkI D (qim D[m]) D[m].day ⟨st,pp,pi⟩ - tkP D (qim D[m]) D[m].day ⟨st,pp,pi⟩ > 0) (5,qim D[m] - tkI D (qim D[m]) D[m].day ⟨st,pp,pi⟩ - tkP D (qim D[m]) D[m].day ⟨st,pp,pi⟩)
   omega
  ·rw [qDn,wrap_add,qr5,qbH hmD (by omega)]
   rfl
 | false=>
  obtain ⟨h1,h2 | ⟨h2,h3⟩⟩:=qGl (c:=c) (u:=u) ht hst hl hp
  ·refine qbN h1 (qaE h2 (qah ?_))
   rw [qbH hmD (by omega)]; rfl
  ·refine qbN h1 (qbN h2 (qaE h3 (qah ?_)))
   rw [qbH hmD (by omega)]; rfl
theorem qOu (ht:qiN t0 t1 t2 t3 t4 t5 t6 t7 t8 t9) (hl:D.length <= 1000) {K:Nat} (hK:K <= D.length):qqv (rst t0 t1 t2 t3 t4 t5 t6 t7 t8 t9 c u D K 0 (⟨1,0,0⟩,t3,0)) = some (0,rst t0 t1 t2 t3 t4 t5 t6 t7 t8 t9 c u D K K (qdS D t1 qim t3 K)):=by
 rw [qqw]
 refine qct (st:=fun v=>(qgI v).ev) (fun m:Nat=>rst t0 t1 t2 t3 t4 t5 t6 t7 t8 t9 c u D K m (qdS D t1 qim t3 m)) K 0 0 (Nat.zero_le _) (fun m _ hm=>qGw ht hl hm hK) ?_
 refine qiw ?_
 simp only [qgI,qkT,rst]
 exact qbN (decide_eq_false (Int.lt_irrefl _)) (qah rfl)
end
abbrev q1l:Type:=Int × Int × Int × Int × Int × Int × Int × Int × Int × Int × Bs × Bs × Int × Int × Int × Int × Int × Int × Int × Int × Int × Int × Int × Int × Int × Int × Int × Int × Int × Int × Int × Int × Int × Bs × Bs × List AV × List AV
def sst (on q n s:Int) (i:Int) (l:List AV) (r:q1l):qdE:=(on,q,n,l,s,i,r)
theorem qOB {l:List (Int × Int)} (hl:l.length <= 1000) (on q n:Int) (r:q1l):qqx (sst on q n 0 0 (EPa l)  r) = some (0,sst on q n (IntKind.i64.wrap (Tk.sumL l)) (l.length:Int) (EPa l)  r):=by
 rw [qqy]
 have:=qct (st:=fun v=>(qif v).ev) (fun m:Nat=>sst on q n (IntKind.i64.wrap (Tk.sumL (l.take m))) (m:Int) (EPa l)  r) l.length 0 0 (Nat.zero_le _) (fun m _ hm=>?_) ?_
 ·rw [List.take_length] at this; exact this
 ·refine qiw ?_
  simp only [qif,qkU,sst]
  refine qaE (qlz hm) (qaE (qbV qGo hm) (qah ?_))
  rw [qOm hm,wrap_add,qbH hm (by omega),qEp hm]
 ·refine qiw ?_
  simp only [qif,qkU,sst]
  exact qbN (qpj (Nat.lt_irrefl _)) (qah rfl)
end Go.Proofs.H35
namespace Go.Proofs.H35
open Go Go.Eng Go.Tk
set_option maxRecDepth 20000
section
variable {t0 t1 t2 t3 t4 t5 t6 t7 t8 t9:Int} {c u:Bs} {D:List Du}
def qV7 (st pp pi:Int) (t0 t1 t2 t3 t4 t5 t6 t7 t8 t9:Int) (c u:Bs) (D:List Du) (on:Int) (q:qyh) (f:qjx):Prop:=
 q.2 ≠ 0 \/ ((qpi D t1 ⟨st,pp,pi⟩ = true /\ st = 1 /\ 0 <= on /\ on <= 73048) /\ ∃ n fee:Int,n = IntKind.i64.wrap (IntKind.i64.wrap (qtI D on ⟨st,pp,pi⟩ + (duP D - pp)) + fee) /\ q = (n,0) /\
  ((0 <= (qh1 D on ⟨st,pp,pi⟩).pr /\ (qh1 D on ⟨st,pp,pi⟩).pr <= 1000000000000) -> (0 <= (qh1 D on ⟨st,pp,pi⟩).it /\ (qh1 D on ⟨st,pp,pi⟩).it <= 1000000000000) -> f = (7,1000,2,duP (qg9 D on ⟨st,pp,pi⟩),duI (qg9 D on ⟨st,pp,pi⟩),0,0,t3,0,0,0,t0,t1,t2,t3,t4,t5,t6,t7,t8,t9,c,u,EDu (qg9 D on ⟨st,pp,pi⟩),[],EPa (qvT (IntKind.i64.wrap (0 + fee)) (qtI D on ⟨st,pp,pi⟩) (duP D - pp)),0)))
theorem qMP (ht:qiN t0 t1 t2 t3 t4 t5 t6 t7 t8 t9) {st pp pi:Int} (hst:st = 1 \/ st = 2) (hl:D.length <= 120) (on:Int) (hx:qpi D t1 ⟨st,pp,pi⟩ = true -> (0 <= (qh1 D on ⟨st,pp,pi⟩).pr /\ (qh1 D on ⟨st,pp,pi⟩).pr <= 1000000000000) /\ (0 <= (qh1 D on ⟨st,pp,pi⟩).it /\ (qh1 D on ⟨st,pp,pi⟩).it <= 1000000000000)) :
  ∃ q f,qmi 7 1000 st pp pi 0 0 t3 0 0 0 t0 t1 t2 t3 t4 t5 t6 t7 t8 t9 c u (EDu D) [] on = some q /\ qfa 7 1000 st pp pi 0 0 t3 0 0 0 t0 t1 t2 t3 t4 t5 t6 t7 t8 t9 c u (EDu D) [] on = some f /\ qV7 st pp pi t0 t1 t2 t3 t4 t5 t6 t7 t8 t9 c u D on q f:=by
 obtain ⟨r,hr,h⟩:=qGq (st:=st) (pp:=pp) (pi:=pi) (c:=c) (u:=u) (D:=D) ht hst (by omega) on
 have hq:qmi 7 1000 st pp pi 0 0 t3 0 0 0 t0 t1 t2 t3 t4 t5 t6 t7 t8 t9 c u (EDu D) [] on = some (r.2.2.2.2.2.2.2.2.2.2.2.2.2.2.2.2.2.2.2.2.2.2.2.2.2.2.2.1,r.2.2.2.2.2.2.2.2.2.2.2.2.2.2.2.2.2.2.2.2.2.2.2.2.2.2.2.2.2):=by
  rw [qAW,qpe,hr]; rfl
 rcases h with h | ⟨hc,n,fee,hn,rfl⟩
 ·have hf:qfa 7 1000 st pp pi 0 0 t3 0 0 0 t0 t1 t2 t3 t4 t5 t6 t7 t8 t9 c u (EDu D) [] on = some (0,0,0,0,0,0,0,0,0,0,0,0,0,0,0,0,0,0,0,0,0,[],[],[],[],[],r.2.2.2.2.2.2.2.2.2.2.2.2.2.2.2.2.2.2.2.2.2.2.2.2.2.2.2.2.2):=by
   refine qiw ?_
   rw [qlQ,qho]
   exact qam hr (qaE (bne_iff_ne.2 h) (qah rfl))
  exact ⟨_,_,hq,hf,.inl h⟩
 ·obtain ⟨x1,x2⟩:=hx hc.1
  have hf:=qFN (c:=c) (u:=u) hc.1 (by omega) hr x1 x2 ⟨hc.2.2.1,hc.2.2.2⟩
  exact ⟨_,_,hq,hf,.inr ⟨hc,n,fee,hn,rfl,fun _ _=>rfl⟩⟩
theorem qNJ {on:Int} {s:Ln} (hD:D.all qci = true) (hon:0 <= on /\ on <= 73048) (h1:0 <= (qh1 D on s).pr /\ (qh1 D on s).pr <= 1000000000000) (h2:0 <= (qh1 D on s).it /\ (qh1 D on s).it <= 1000000000000) (hl:1 <= D.length /\ D.length <= 120):(qg9 D on s).all qci = true /\ 1 <= (qg9 D on s).length /\ (qg9 D on s).length <= 121:=by
 have hone:qci (qh1 D on s) = true:=by
  unfold qci
  simp only [Bool.and_eq_true,decide_eq_true_eq]
  exact ⟨hon.1,hon.2,h1.1,h1.2,h2.1,h2.2⟩
 have hlen:(D.take (qaO D on).length).length + (D.drop (qaO D on).length).length = D.length:=by rw [<- List.length_append,List.take_append_drop]
 have hF:=qiO hD (qaO D on).length
 rw [qA3]
 generalize D.take (qaO D on).length = T at hF hlen ⊢
 generalize D.drop (qaO D on).length = U at hlen ⊢
 cases U with
 | nil=>
  simp only [qPm,List.length_nil] at hlen ⊢
  exact ⟨hF,by omega,by omega⟩
 | cons d U=>
  simp only [qPm,List.length_cons,List.length_append,List.length_nil] at hlen ⊢
  refine ⟨?_,by omega,by omega⟩
  rw [List.all_append,hF]
  show (true && (qci _ && true)) = true
  rw [hone]; rfl
theorem qT5 (hq:qE8 = true) (x0 x1 x2 x3 x4 x5 x6 x7 x8 x9:Int) (c u s:Bs) (ws hs:List Int) {b:Nat} (hb:b <= 255) :
  Ok (quL x0 x1 x2 x3 x4 x5 x6 x7 x8 x9 c u s (EIn ws) (EIn hs) b) fun r=>r = true:=by
 rw [qAc,qov]
 refine qax (qNx x0 x1 x2 x3 x4 x5 x6 x7 x8 x9 c u s ws hs) fun y0 he=>qao (fun _=>qaE hq (qah rfl)) fun h=>?_
 obtain ⟨⟨h5,hh⟩,hw,hs'⟩:=he (by simpa using h)
 refine qax (qiI x0 x1 x2 x3 x4 x5 x6 x7 x8 x9 c u (s:=s) (ws:=ws) (hs:=hs) (by omega) (by omega) (by omega)) ?_
 rintro r (⟨e,he,rfl⟩ | ⟨ht,D,hl,rfl⟩)
 ·have h1:(e != 0) = true:=bne_iff_ne.2 he
  refine qam (b:=true) (by dsimp only; rw [h1]; rfl) (qaE rfl (qam (b:=true) (by dsimp only; rw [h1,hq]; rfl) (qah rfl)))
 have hl0:(((EDu D).length:Int) == 0) = false:=by rw [List.length_map]; exact beq_eq_false_iff_ne.2 (by omega)
 refine qam (b:=false) (by dsimp only; rw [hl0]; rfl) (qbN rfl (qaE (by dsimp only; rw [List.length_map]; exact decide_eq_true (by omega)) ?_))
 have hK:b % D.length <= D.length:=Nat.le_of_lt (Nat.mod_lt _ (by omega))
 have hmod:(IntKind.i64.wrap (b:Int)).tmod ((EDu D).length:Int) = ((b % D.length:Nat):Int):=by
  rw [Go.Eng.wrap64 (by omega) (by omega),List.length_map]; rfl
 have hrun:=qOu (c:=c) (u:=u) ht (show D.length <= 1000 by omega) hK
 have hful:=qNK (D:=D) (P:=x1) (amt:=qim) (start:=x3) (show x1 <= 1000000000000 by unfold qiN at ht; omega) hK
 have hst:=qD8 D x1 qim x3 (b % D.length)
 generalize qdS D x1 qim x3 (b % D.length) = R at hrun hful hst
 obtain ⟨⟨st,pp,pi⟩,on,q⟩:=R
 simp only at hful hst
 dsimp only
 rw [hmod]
 refine qam (b:=rst x0 x1 x2 x3 x4 x5 x6 x7 x8 x9 c u D (b % D.length:Nat) (b % D.length) (⟨st,pp,pi⟩,on,q)) ?_ ?_
 ·show pj 0 (qqv (rst x0 x1 x2 x3 x4 x5 x6 x7 x8 x9 c u D (b % D.length:Nat) 0 (⟨1,0,0⟩,x3,0))) = _
  rw [hrun]; rfl
 dsimp only [rst]
 by_cases hs1:st = 1
 ·subst hs1
  refine qbN rfl ?_
  obtain ⟨Q,F,hQ,hF,hB⟩:=qMP (pp:=pp) (pi:=pi) (c:=c) (u:=u) (D:=D) ht (.inl rfl) hl.2 on fun hc=>⟨(hful hc).1,(hful hc).2.1⟩
  refine qam hQ (qam hF ?_)
  refine qam (b:=(Q.2 != 0) || decide (Q.1 < 1)) (by cases (Q.2 != 0) <;> rfl) (qam (b:=((Q.2 != 0) || decide (Q.1 < 1)) || decide (Q.1 > 1000000000000)) (by cases ((Q.2 != 0) || decide (Q.1 < 1)) <;> rfl) (qao (fun _=>qaE hq (qah rfl)) fun h=>?_))
  simp only [Bool.or_eq_false_iff,decide_eq_false_iff_not,bne_eq_false_iff_eq] at h
  obtain hB | ⟨⟨hc,_,ho⟩,n,fee,hn,rfl,hF'⟩:=hB
  ·exact absurd h.1.1 hB
  obtain ⟨g1,g2,g3,g4,g5⟩:=hful hc
  obtain rfl:=hF' g1 g2
  obtain ⟨⟨hp0,hi0⟩,⟨hl1,hl2⟩,hD,hor,hpl,hil,hS⟩:=qe7 hc
  simp only at hp0 hi0 hpl hil h
  obtain ⟨fa,fl1,fl2⟩:=qNJ (s:=⟨1,pp,pi⟩) hD ho g1 g2 hl
  have hset:(qvT (IntKind.i64.wrap (0 + fee)) (qtI D on ⟨1,pp,pi⟩) (duP D - pp)).length <= 1000:=by
   unfold qvT
   exact Nat.le_trans (List.length_filter_le _ _) (by simp)
  refine qbN rfl ?_
  refine qam (b:=sst on (IntKind.i64.wrap q) n (IntKind.i64.wrap (Tk.sumL (qvT (IntKind.i64.wrap (0 + fee)) (qtI D on ⟨1,pp,pi⟩) (duP D - pp)))) ((qvT (IntKind.i64.wrap (0 + fee)) (qtI D on ⟨1,pp,pi⟩) (duP D - pp)).length:Int) (EPa (qvT (IntKind.i64.wrap (0 + fee)) (qtI D on ⟨1,pp,pi⟩) (duP D - pp)))
   (x0,x1,x2,x3,x4,x5,x6,x7,x8,x9,c,u,7,1000,2,duP (qg9 D on ⟨1,pp,pi⟩),duI (qg9 D on ⟨1,pp,pi⟩),0,0,x3,0,0,0,x0,x1,x2,x3,x4,x5,x6,x7,x8,x9,c,u,EDu (qg9 D on ⟨1,pp,pi⟩),[])) ?_ ?_
  ·show pj 0 (qqx (sst on (IntKind.i64.wrap q) n 0 0 (EPa (qvT (IntKind.i64.wrap (0 + fee)) (qtI D on ⟨1,pp,pi⟩) (duP D - pp)))
    (x0,x1,x2,x3,x4,x5,x6,x7,x8,x9,c,u,7,1000,2,duP (qg9 D on ⟨1,pp,pi⟩),duI (qg9 D on ⟨1,pp,pi⟩),0,0,x3,0,0,0,x0,x1,x2,x3,x4,x5,x6,x7,x8,x9,c,u,EDu (qg9 D on ⟨1,pp,pi⟩),[]))) = _
   rw [qOB hset]; rfl
  dsimp only [sst]
  have e1:IntKind.i64.wrap (Tk.sumL (qvT (IntKind.i64.wrap (0 + fee)) (qtI D on ⟨1,pp,pi⟩) (duP D - pp))) = n:=by
   rw [hn,qGA,wrap_add,Int.add_assoc,wrap_add]
   congr 1; omega
  refine qaE (beq_iff_eq.2 e1) (qam (qu6 hset 4) ?_)
  rw [qEb,wrap_add,qr5,g4]
  have e2:IntKind.i64.wrap (pp + (duP D - pp)) = x1:=by
   rw [show pp + (duP D - pp) = duP D by omega,g5]
   unfold qiN at ht
   exact Go.Eng.wrap64 (by omega) (by omega)
  refine qaE (beq_iff_eq.2 e2) (qaE rfl ?_)
  have hout:=qcf (st:=2) (pp:=duP (qg9 D on ⟨1,pp,pi⟩)) (pi:=duI (qg9 D on ⟨1,pp,pi⟩)) (t0:=x0) (t1:=x1) (t2:=x2) (t3:=x3) (t4:=x4) (t5:=x5) (t6:=x6) (t7:=x7) (t8:=x8) (t9:=x9) (c:=c) (u:=u) (D:=qg9 D on ⟨1,pp,pi⟩) (by omega) fa (qpB fa) (Int.le_refl _)
  have hbF:=qiT fa
  have how:=qvH (st:=2) (pp:=duP (qg9 D on ⟨1,pp,pi⟩)) (pi:=duI (qg9 D on ⟨1,pp,pi⟩)) (t0:=x0) (t1:=x1) (t2:=x2) (t3:=x3) (t4:=x4) (t5:=x5) (t6:=x6) (t7:=x7) (t8:=x8) (t9:=x9) (c:=c) (u:=u) (D:=qg9 D on ⟨1,pp,pi⟩) fa fl1 (by omega) (qpB fa) (by omega) (quD fa) (by omega) on
  rw [g3,Int.sub_self,Int.sub_self,qGj] at how
  refine qam hout (qaE (beq_iff_eq.2 (Int.sub_self _)) (qam how (qaE rfl (qaE hq (qah rfl)))))
 ·exact qaE (bne_iff_ne.2 hs1) (qaE hq (qah rfl))
end
end Go.Proofs.H35

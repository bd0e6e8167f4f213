/- Loans: what settles a loan. -/
import Derived.Test.YtbieppilagmdjaaGreatDoorCvA
set_option linter.unusedVariables false
set_option linter.unusedSimpArgs false
set_option linter.unnecessarySimpa false
namespace Go.Proofs.H35
open Go Go.Eng Go.Tk
set_option maxRecDepth 20000
theorem qcW {D:List Du} (on:Int) {n:Nat} (h:n < D.length):qaO (D.take (n + 1)) on = qaO (D.take n) on ++ (if D[n].day <= on then [D[n]] else []):=by
 rw [List.take_succ_eq_append_getElem h]
 simp only [qaO,List.filter_append,List.filter_cons,List.filter_nil]
 by_cases c:D[n].day <= on
 ·simp [c]
 ·simp [c]
theorem qyj (a b:List Du):EDu (a ++ b) = EDu a ++ EDu b:=List.map_append
theorem qEG {D:List Du} (hl:D.length <= 1000) (on:Int):qp7 (EDu D) on = some (EDu (qaO D on)):=by
 have hloop:Ok (qqO (.inl (on,EDu D,((EDu D).length:Int),0))) fun p=>(p.1 = 0 /\ qaO D on = []) \/ (p.1 = 1 /\ p.2 = .inr (on,EDu D,((EDu D).length:Int),(D.length:Int),EDu (qaO D on))):=by
  rw [qqP]
  refine qdP (fun v=>∃ n:Nat,n <= D.length /\ ((qaO (D.take n) on = [] /\ v = .inl (on,EDu D,((EDu D).length:Int),(n:Int))) \/ v = .inr (on,EDu D,((EDu D).length:Int),(n:Int),EDu (qaO (D.take n) on))))
   (Sum.elim (fun v=>D.length - v.2.2.2.toNat) (fun v=>D.length - v.2.2.2.1.toNat)) (fun k w=>(k = 0 /\ qaO D on = []) \/ (k = 1 /\ w = .inr (on,EDu D,((EDu D).length:Int),(D.length:Int),EDu (qaO D on)))) ?_ _ ⟨0,Nat.zero_le _,.inl ⟨rfl,rfl⟩⟩
  rintro _ ⟨n,hn,⟨he,rfl⟩ | rfl⟩
  ·show Ok (qkX on (EDu D) ((EDu D).length:Int) (n:Int)).ev _
   unfold qkX
   by_cases hlt:n < D.length
   ·refine qaE (qlz hlt) (qaE (qE6 hlt) ?_)
    rw [du0 hlt,du1 hlt,du2 hlt,du3 hlt,qbH hlt (by omega)]
    have hm:D.length - (((n + 1:Nat):Int)).toNat < D.length - ((n:Int)).toNat:=by omega
    refine qao (fun h=>qbO ⟨⟨n + 1,hlt,.inr ?_⟩,hm⟩) (fun h=>qbO ⟨⟨n + 1,hlt,.inl ⟨?_,rfl⟩⟩,hm⟩)
    ·rw [qcW on hlt,he,if_pos (of_decide_eq_true h)]; rfl
    ·rw [qcW on hlt,he,if_neg (of_decide_eq_false h)]; rfl
   ·obtain rfl:n = D.length:=by omega
    exact qbN (qpj hlt) (qaQ (.inl ⟨rfl,by rwa [List.take_length] at he⟩))
  ·show Ok (qkY on (EDu D) ((EDu D).length:Int) (n:Int) (EDu (qaO (D.take n) on))).ev _
   unfold qkY
   by_cases hlt:n < D.length
   ·refine qaE (qlz hlt) (qaE (qE6 hlt) ?_)
    rw [du0 hlt,du1 hlt,du2 hlt,du3 hlt,qbH hlt (by omega)]
    have hm:D.length - (((n + 1:Nat):Int)).toNat < D.length - ((n:Int)).toNat:=by omega
    have hlen:(qaO (D.take n) on).length <= 1000:=Nat.le_trans (List.length_filter_le _ _) (by rw [List.length_take]; omega)
    have hroom:room ((EDu (qaO (D.take n) on)).length + 1) 32 = true:=by
     have:((EDu (qaO (D.take n) on)).length + 1) * 32 <= lim:=by rw [List.length_map]; unfold lim; omega
     exact decide_eq_true this
    refine qao (fun h=>qaE hroom (qbO ⟨⟨n + 1,hlt,.inr ?_⟩,hm⟩)) (fun h=>qbO ⟨⟨n + 1,hlt,.inr ?_⟩,hm⟩)
    ·rw [qcW on hlt,if_pos (of_decide_eq_true h),qyj]; rfl
    ·rw [qcW on hlt,if_neg (of_decide_eq_false h),List.append_nil]
   ·obtain rfl:n = D.length:=by omega
    exact qbN (qpj hlt) (qaQ (.inr ⟨rfl,by rw [List.take_length]⟩))
 obtain ⟨⟨k,w⟩,hk,hq⟩:=hloop
 rw [qAK,qo3,hk]
 rcases hq with ⟨h1,h2⟩ | ⟨h1,h2⟩
 ·simp only at h1
  subst h1
  rw [h2]; rfl
 ·simp only at h1 h2
  subst h1; subst h2
  rfl
theorem qcg {D:List Du} (h:D.all qci = true) (hl:D.length <= 1000):qbI (EDu D) = some (duP D,duI D):=by
 rw [qAJ,qo2]
 have e:qvd (0,0,EDu D,((EDu D).length:Int),0) = some (0,(duP D,duI D,EDu D,((EDu D).length:Int),(D.length:Int))):=by
  rw [qqN]
  have:=qct (st:=fun v=>(qoe v).ev) (fun n:Nat=>(duP (D.take n),duI (D.take n),EDu D,((EDu D).length:Int),(n:Int))) D.length 0 0 (Nat.zero_le _) (fun n _ hn=>?_) ?_
  ·simpa [duP,duI] using this
  ·show (qfx (duP (D.take n)) (duI (D.take n)) (EDu D) ((EDu D).length:Int) (n:Int)).ev = _
   unfold qfx
   have hb:=qbh h hl (n + 1)
   rw [qiS hn,qiR hn] at hb
   have hc:=qbh h hl n
   rw [ev_br,qlz hn,cond_true,ev_br,qE6 hn,cond_true,du2 hn,du3 hn,qbH hn (by omega),Go.Eng.wrap64 (by omega) (by omega),Go.Eng.wrap64 (by omega) (by omega),qiS hn,qiR hn]
   rfl
  ·show (qfx _ _ _ _ _).ev = _
   unfold qfx
   rw [ev_br,qpj (Nat.lt_irrefl _)]
   rfl
 rw [e]
 rfl
theorem qce (n:Int):qbL n = some (decide (n >= -1000000000000) && decide (n <= 1000000000000)):=by
 rw [qwy,qja,qc2,ev_bi_some]; rfl
theorem qh7 (n:Int):Ok (qp4 n) fun b=>b = true -> -1000000000000 <= n /\ n <= 1000000000000:=by
 rw [qAG,qoZ]
 simp only [qc2]
 refine qam rfl (qah fun h=>?_)
 simp only [Bool.and_eq_true,decide_eq_true_eq] at h
 omega
theorem qxo {a:Int} (h0:0 <= a) (p:Int):Ok (qpR a p 6) fun _=>True:=by
 rw [qAt,qoM]
 refine qax (qh7 a) (fun b hb=>?_)
 simp only [qjF,qfJ,sm_some,gv_some,qFm]
 refine qam rfl (qam rfl (qam rfl (qao (fun _=>qah trivial) (fun h=>?_))))
 simp only [Bool.or_eq_false_iff,Bool.not_eq_false',decide_eq_false_iff_not] at h
 have h1:=hb h.1.1.1
 have p0:0 <= p:=by omega
 have p1:p <= 1000000:=by omega
 have d0:0 <= a * p:=Int.mul_nonneg h0 p0
 have d1:a * p <= 1000000000000 * 1000000:=Int.mul_le_mul h1.2 p1 p0 (by omega)
 refine qam (qj0 ⟨by omega,by omega⟩ ⟨by omega,by omega⟩) ?_
 generalize a * p = v at d0 d1
 have w1:(wid v).1 = 0:=by simp only [wid]; omega
 have w2:(wid v).2 = v:=by simp only [wid]; omega
 rw [w1,w2]
 exact qax (qdz d0 (by omega) (by omega) (by omega) (by omega) (by omega)) (fun _ _=>qah trivial)
def nxT (S:List Du):Int × Int × Int × Int:=match S with
 | []=>(0,0,0,0)
 | d :: _=>(d.no,d.day,d.pr,d.it)
section
variable {st pp pi t0 t1 t2 t3 t4 t5 t6 t7 t8 t9:Int} {c u:Bs} {D:List Du} (ht:qiN t0 t1 t2 t3 t4 t5 t6 t7 t8 t9) (hst:st = 1 \/ st = 2) (hl:D.length <= 1000)
theorem qSf (a:Int):Ok (qjU 7 1000 st pp pi 0 0 t3 0 0 0 t0 t1 t2 t3 t4 t5 t6 t7 t8 t9 c u (EDu D) [] a) fun _=>True:=by
 rw [qwE,qjg]
 refine qao (fun _=>qah trivial) (fun h=>?_)
 exact qax (qxo (by have:=of_decide_eq_false h; omega) _) (fun _ _=>qah trivial)
theorem qvA (F S:List Du):qj5 7 1000 st pp pi 0 0 t3 0 0 0 t0 t1 t2 t3 t4 t5 t6 t7 t8 t9 c u (EDu D) [] (EDu F) (EDu S) = some (nxT S):=by
 rw [qAs,qoL]
 cases S with
 | nil=>rfl
 | cons d S=>rfl
theorem qCo (S:List Du):(nxT S).2.2.2 = nxI S:=by cases S <;> rfl
theorem qvh {F S:List Du} (hF:F.all qci = true) (hFl:F.length <= 1000) (hD:D.all qci = true) (h0:0 <= pp) (h1:pp <= duP D) (hl:D.length <= 1000):Ok (ql7 7 1000 st pp pi 0 0 t3 0 0 0 t0 t1 t2 t3 t4 t5 t6 t7 t8 t9 c u (EDu D) [] (EDu F) (EDu S)) fun _=>True:=by
 rw [qAm,qoF]
 exact qam (qcg hF hFl) (qam (qcf hl hD h0 h1) (qah trivial))
theorem qit {F S:List Du} (hF:F.all qci = true) (hFl:F.length <= 1000) (hS:S.all qci = true) (h0:0 <= pi) (h1:pi <= 1000000000000000):ql4 7 1000 st pp pi 0 0 t3 0 0 0 t0 t1 t2 t3 t4 t5 t6 t7 t8 t9 c u (EDu D) [] (EDu F) (EDu S) = some (max 0 (duI F + nxI S - pi)):=by
 rw [qAd,qow,qcg hF hFl,ev_bi_some,qvA,ev_bi_some,ev_at]
 have b:=qbh hF hFl F.length
 rw [List.take_length] at b
 have hn:0 <= nxI S /\ nxI S <= 1000000000000:=by
  cases S with
  | nil=>exact ⟨Int.le_refl _,by decide⟩
  | cons d S=>
   rw [List.all_cons,Bool.and_eq_true] at hS
   have:=hS.1
   simp only [qci,Bool.and_eq_true,decide_eq_true_eq] at this
   exact ⟨this.2.2.2.2.1,this.2.2.2.2.2⟩
 have e:∀ x:Int × Int × Int × Int,x.2.2.2 = nxI S -> (some (if IntKind.i64.wrap (IntKind.i64.wrap ((duP F,duI F).2 + x.2.2.2) - pi) > 0 then IntKind.i64.wrap (IntKind.i64.wrap ((duP F,duI F).2 + x.2.2.2) - pi) else 0):Option Int) = some (max 0 (duI F + nxI S - pi)):=by
  intro x hx
  rw [hx,Go.Eng.wrap64 (n:=(duP F,duI F).2 + nxI S) (by show _ <= duI F + nxI S; omega) (by show duI F + nxI S <= _; omega)]
  show some (if IntKind.i64.wrap (duI F + nxI S - pi) > 0 then IntKind.i64.wrap (duI F + nxI S - pi) else 0) = _
  rw [Go.Eng.wrap64 (by omega) (by omega)]
  congr 1
  split <;> omega
 exact e _ (qCo S)
def qYT (st pp pi:Int) (t0 t1 t2 t3 t4 t5 t6 t7 t8 t9:Int) (c u:Bs) (D:List Du) (on:Int) (r:qsa):Prop:=
 r.2.2.2.2.2.2.2.2.2.2.2.2.2.2.2.2.2.2.2.2.2.2.2.2.2.2.2 ≠ 0 \/ ((qpi D t1 ⟨st,pp,pi⟩ = true /\ 0 <= on /\ on <= 73048) /\ r = (7,1000,st,pp,pi,0,0,t3,0,0,0,t0,t1,t2,t3,t4,t5,t6,t7,t8,t9,c,u,EDu D,[],EDu (D.take (qaO D on).length),EDu (D.drop (qaO D on).length),0))
include ht hst hl in
theorem qOa (on:Int):Ok (qjS 7 1000 st pp pi 0 0 t3 0 0 0 t0 t1 t2 t3 t4 t5 t6 t7 t8 t9 c u (EDu D) [] on) fun r=>qYT st pp pi t0 t1 t2 t3 t4 t5 t6 t7 t8 t9 c u D on r:=by
 rw [qwz,qjb]
 obtain ⟨e,he,hk⟩:=quw (pp:=pp) (pi:=pi) (c:=c) (u:=u) ht hst hl
 refine qam he ?_
 rw [qaU]
 refine qam (b:=((e != 0) || !(decide (on >= 0) && decide (on <= 73048)))) (by cases (e != 0) <;> rfl) (qao (fun _=>qah (.inl (show (1:Int) ≠ 0 by decide))) (fun h=>?_))
 simp only [Bool.or_eq_false_iff,Bool.not_eq_false',Bool.and_eq_true,decide_eq_true_eq,bne_eq_false_iff_eq] at h
 refine qam (qEG hl on) ?_
 have hlen:(qaO D on).length <= D.length:=List.length_filter_le _ _
 have e1:leB ((EDu (qaO D on)).length:Int) (EDu D).length = true:=by rw [List.length_map,List.length_map]; simp [leB]; omega
 have e3:(leB ((EDu (qaO D on)).length:Int) (EDu D).length && true) = true:=by rw [e1]; rfl
 refine qaE e3 (qaE e1 (qah (.inr ⟨⟨hk.1 h.1,by omega,by omega⟩,?_⟩)))
 rw [List.length_map,Int.toNat_natCast,<- List.map_take,<- List.map_drop]
def qTh (st pp pi:Int) (t0 t1 t2 t3 t4 t5 t6 t7 t8 t9:Int) (c u:Bs) (D:List Du) (on:Int) (r:qr9):Prop:=
 r.2.2.2.2.2.2.2.2.2.2.2.2.2.2.2.2.2.2.2.2.2.2.2.2.2.2.2.2.2 ≠ 0 \/ ((qpi D t1 ⟨st,pp,pi⟩ = true /\ st = 1 /\ 0 <= on /\ on <= 73048) /\ ∃ n fee:Int,n = IntKind.i64.wrap (IntKind.i64.wrap (qtI D on ⟨st,pp,pi⟩ + (duP D - pp)) + fee) /\
  r = (7,1000,st,pp,pi,0,0,t3,0,0,0,t0,t1,t2,t3,t4,t5,t6,t7,t8,t9,c,u,EDu D,[],EDu (D.take (qaO D on).length),EDu (D.drop (qaO D on).length),n,fee,0))
include ht hst hl in
theorem qGq (on:Int):Ok (qgk 7 1000 st pp pi 0 0 t3 0 0 0 t0 t1 t2 t3 t4 t5 t6 t7 t8 t9 c u (EDu D) [] on) fun r=>qTh st pp pi t0 t1 t2 t3 t4 t5 t6 t7 t8 t9 c u D on r:=by
 rw [qwv,qi7]
 refine qax (qOa ht hst hl on) ?_
 rintro r (hr | ⟨⟨hc,h0,h1⟩,rfl⟩)
 ·exact qaE (bne_iff_ne.2 hr) (qah (.inl hr))
 obtain ⟨⟨hp0,hi0⟩,⟨_,hl2⟩,hD,ho,hpl,hil,hS⟩:=qe7 hc
 simp only at hp0 hi0 hpl hil
 have hF:=qiO hD (qaO D on).length
 have hR:=qup hD (qaO D on).length
 have hFl:(D.take (qaO D on).length).length <= 1000:=by rw [List.length_take]; omega
 have hb:=qbh hD hl D.length
 rw [List.take_length] at hb
 refine qbN rfl ?_
 by_cases h2':¬ st = 1
 ·exact qaE (bne_iff_ne.2 h2') (qah (.inl (show (17:Int) ≠ 0 by decide)))
 have h1':st = 1:=Decidable.not_not.1 h2'
 refine qbN (bne_eq_false_iff_eq.2 h1') (qax (qvh hF hFl hD hp0 hpl hl) fun y1 _=>qam (qce y1) (qao (fun _=>qah (.inl (show (6:Int) ≠ 0 by decide))) fun _=>?_))
 refine qax (qvh hF hFl hD hp0 hpl hl) fun y3 _=>qax (qSf y3) fun y4 _=>qao (fun h=>qah (.inl (bne_iff_ne.1 h))) fun h=>?_
 have hi1:pi <= 1000000000000000:=by omega
 refine qam (qit hF hFl hR hi0 hi1) (qam (qcf hl hD hp0 hpl) (qam (qce _) (qao (fun _=>qah (.inl (show (6:Int) ≠ 0 by decide))) fun _=>qah (.inr ⟨⟨hc,h1',h0,h1⟩,_,y4.1,?_,rfl⟩))))
 have e0:IntKind.i64.wrap (0 + 0) = 0:=rfl
 have hq:0 <= qtI D on ⟨st,pp,pi⟩ /\ qtI D on ⟨st,pp,pi⟩ <= 9000000000000000:=by
  unfold qtI
  have b:=qbh hD hl (qaO D on).length
  have hn:0 <= nxI (D.drop (qaO D on).length) /\ nxI (D.drop (qaO D on).length) <= 1000000000000:=by
   cases hq:D.drop (qaO D on).length with
   | nil=>exact ⟨Int.le_refl _,by decide⟩
   | cons d S=>
    rw [hq,List.all_cons,Bool.and_eq_true] at hR
    have:=hR.1
    simp only [qci,Bool.and_eq_true,decide_eq_true_eq] at this
    exact ⟨this.2.2.2.2.1,this.2.2.2.2.2⟩
  simp only
  omega
 have e1:IntKind.i64.wrap (0 + qtI D on ⟨st,pp,pi⟩) = qtI D on ⟨st,pp,pi⟩:=by rw [Int.zero_add]; exact Go.Eng.wrap64 (by omega) (by omega)
 rw [e0]
 show IntKind.i64.wrap (IntKind.i64.wrap (IntKind.i64.wrap (0 + qtI D on ⟨st,pp,pi⟩) + (duP D - pp)) + y4.1) = _
 rw [e1]
end
end Go.Proofs.H35

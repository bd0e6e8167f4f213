/- Numbers as texts: what the document's functions come to. -/
import Derived.Test.YtgpbobelbcbcaaaGreatDoorX10Par
import Derived.Test.YtgpbobelbcbcaaaGreatDoorX10Ref
import Derived.Test.YtgpbobelbcbcaaaGreatDoorTkF
import Derived.Test.YtgpbobelbcbcaaaGreatDoorPsE
set_option linter.unusedVariables false
set_option linter.unusedSimpArgs false
set_option linter.unnecessarySimpa false
namespace Go.Proofs.H10
open Go Go.Eng Go.Tk
set_option maxRecDepth 20000
theorem qBf {s:Bs} (hl:s.length <= big):qtZ (s,0) = some (qhf (fun c=>!at8 qbd c) (fun _=>0) 1 s,s,((s.findIdx (fun c=>!at8 qbd c):Nat):Int)):=by
 rw [qt3]
 refine qa8 (hd:=fun i=>(s,(i:Int))) _ _ 1 (fun i hn=>?_) ?_
 ·simp only [qoz,qoA,qbn hn,qcp hn,qbg hn,ev_br,cond_true,qat hn hl,br_eq]
  have e:at8 qbd s[i] = (decide ((s[i].toNat:Int) >= 48) && decide ((s[i].toNat:Int) <= 57)):=rfl
  rw [e]
  by_cases h1:(s[i].toNat:Int) < 48
  ·have h2:decide ((s[i].toNat:Int) >= 48) = false:=decide_eq_false (by omega)
   rw [decide_eq_true h1,h2]; rfl
  ·have h2:decide ((s[i].toNat:Int) >= 48) = true:=decide_eq_true (by omega)
   rw [decide_eq_false h1,h2]
   by_cases h3:(s[i].toNat:Int) > 57
   ·have h4:decide ((s[i].toNat:Int) <= 57) = false:=decide_eq_false (by omega)
    rw [decide_eq_true h3,h4]; rfl
   ·have h4:decide ((s[i].toNat:Int) <= 57) = true:=decide_eq_true (by omega)
    rw [decide_eq_false h3,h4]; rfl
 ·simp [qoz,qoA]
theorem qed {s:Bs} (hl:s.length <= big):qpE s = some (qgG s):=by
 rw [qEQ,qsX,qBf hl,qbG]
 have ha:s.any (fun c=>!at8 qbd c) = !s.all (at8 qbd):=by
  rw [List.not_all_eq_any_not]
 rw [ha]
 unfold qgG
 cases h:s.all (at8 qbd)
 ·rfl
 ·refine (biN (by rfl)).trans ((biS (by rfl)).trans ?_)
  cases s with
  | nil=>rfl
  | cons c r=>
   have e1:decide ((((c :: r).length:Nat):Int) > 0) = true:=decide_eq_true (by simp only [List.length_cons]; omega)
   have e2:inB (c :: r).length 0 = true:=qcp (n:=0) (by simp)
   have e3:qaA (c :: r) 0 = (c.toNat:Int):=qbg (s:=c :: r) (n:=0) (by simp)
   have e4:((c.toNat:Int) != 48) = (some c != some 48):=by
    by_cases hc:c = 48
    ·subst hc; rfl
    ·have h2:c.toNat ≠ 48:=fun h=>hc (UInt8.toNat_inj.1 h)
     have h3:((c.toNat:Int) != 48) = true:=by simp; omega
     have h4:(some c != some 48) = true:=by simpa using hc
     rw [h3,h4]
   simp only [e1,e2,e3,e4,br_eq,cond_true,List.head?_cons]
   by_cases hc:(c :: r) = [48]
   ·rw [hc]; rfl
   ·have h5:((c :: r) == [48]) = false:=by simpa using hc
    rw [h5]
    cases r with
    | nil=>
     have:(some c != some 48) = true:=by
      simp only [bne_iff_ne,ne_eq,Option.some.injEq]
      rintro rfl; exact hc rfl
     rw [this]; rfl
    | cons d r=>
     have h6:((((c :: d :: r).length:Nat):Int) == 1) = false:=by simp; omega
     rw [h6]
     cases (some c != some 48) <;> rfl
theorem pj0 {τ:Type} {o:Option (Nat × τ)} {w:τ} (h:o = some (1,w)):pj 0 o = none:=by rw [h]; rfl
theorem pj1 {τ:Type} {o:Option (Nat × τ)} {w:τ} (h:o = some (1,w)):pj 1 o = some w:=by rw [h]; rfl
theorem qSw {τ:Type} {o:Option (Nat × τ)} {w:τ} (h:o = some (0,w)):pj 0 o = some w:=by rw [h]; rfl
theorem qwe:∀ (s:Bs) (a:Nat),a <= qa1 a s
 | [],a=>Nat.le_refl _
 | c :: s,a=>by
  have e:qa1 a (c :: s) = qa1 (a * 10 + (c.toNat - 48)) s:=rfl
  rw [e]
  exact Nat.le_trans (by omega) (qwe s _)
theorem qpX {d:Bs} (hl:d.length <= big) (hd:d.all (at8 qbd) = true) (b:Bool) {L:Nat} (hL:L = 9223372036854775807 \/ L = 9223372036854775808):∀ (k i a:Nat),i + k = d.length -> a <= L ->
  ∃ j v w,qeu (b,d,(L:Int),(a:Int),(i:Int)) = some (j,b,d,(L:Int),v,w) /\ ((qa1 a (d.drop i) <= L /\ j = 1 /\ v = (qa1 a (d.drop i):Int)) \/ (L < qa1 a (d.drop i) /\ j = 0)):=by
 intro k
 induction k with
 | zero=>
  intro i a hi ha
  have hi':d.drop i = []:=List.drop_eq_nil_of_le (by omega)
  rw [hi',qi4]
  refine ⟨1,_,_,qaj (j:=1) ?_,.inl ⟨ha,rfl,rfl⟩⟩
  have:decide ((i:Int) < (d.length:Int)) = false:=decide_eq_false (by omega)
  show (qhm b d (L:Int) (a:Int) (i:Int)).ev = _
  rw [qhm]
  exact (brF this).trans rfl
 | succ k ih=>
  intro i a hi ha
  have hn:i < d.length:=by omega
  have hc:=List.all_eq_true.1 hd d[i] (List.getElem_mem hn)
  have hdig:48 <= d[i].toNat /\ d[i].toNat <= 57:=by
   simp only [at8,qbd,Bool.and_eq_true,decide_eq_true_eq] at hc; omega
  rw [drop_at hn]
  have e:qa1 a (d[i] :: d.drop (i + 1)) = qa1 (a * 10 + (d[i].toNat - 48)) (d.drop (i + 1)):=rfl
  rw [e]
  have w8:IntKind.u8.wrap ((d[i].toNat:Int) - 48) = ((d[i].toNat - 48:Nat):Int):=by
   rw [qXc (by omega) (by omega)]; omega
  have wu:∀ x:Int,0 <= x -> x < 18446744073709551616 -> IntKind.u64.wrap x = x:=by
   intro x h0 h1
   simp only [IntKind.wrap,IntKind.bits,IntKind.signed]
   simp
   omega
  have hdv:(((L:Int) - ((d[i].toNat - 48:Nat):Int)).tdiv 10) = (((L - (d[i].toNat - 48)) / 10:Nat):Int):=by
   rw [show ((L:Int) - ((d[i].toNat - 48:Nat):Int)) = ((L - (d[i].toNat - 48):Nat):Int) by omega]
   rfl
  have wx:IntKind.u64.wrap ((IntKind.u64.wrap ((L:Int) - IntKind.u64.wrap (IntKind.u8.wrap ((d[i].toNat:Int) - 48)))).tdiv 10) = (((L - (d[i].toNat - 48)) / 10:Nat):Int):=by
   rw [w8,wu ((d[i].toNat - 48:Nat):Int) (by omega) (by omega),wu ((L:Int) - _) (by omega) (by omega),hdv,wu _ (by omega) (by omega)]
  by_cases hov:(L - (d[i].toNat - 48)) / 10 < a
  ·have hlt:L < a * 10 + (d[i].toNat - 48):=by omega
   refine ⟨0,(a:Int),(i:Int),?_,.inr ⟨Nat.lt_of_lt_of_le hlt (qwe _ _),rfl⟩⟩
   rw [qi4]
   refine qaj (j:=0) ?_
   have h1:decide ((a:Int) > (((L - (d[i].toNat - 48)) / 10:Nat):Int)) = true:=decide_eq_true (by omega)
   simp only [qoB,qhm,qbn hn,qcp hn,qbg hn,ev_br,ev_at,cond_true,wx,h1]
  ·have hle:a * 10 + (d[i].toNat - 48) <= L:=by omega
   obtain ⟨j,v,w,h1,h2⟩:=ih (i + 1) (a * 10 + (d[i].toNat - 48)) (by omega) hle
   refine ⟨j,v,w,?_,h2⟩
   rw [qi4] at h1 ⊢
   have h3:decide ((a:Int) > (((L - (d[i].toNat - 48)) / 10:Nat):Int)) = false:=decide_eq_false (by omega)
   have h4:IntKind.u64.wrap (IntKind.u64.wrap ((a:Int) * 10) + IntKind.u64.wrap (IntKind.u8.wrap ((d[i].toNat:Int) - 48))) = ((a * 10 + (d[i].toNat - 48):Nat):Int):=by
    rw [w8,wu ((d[i].toNat - 48:Nat):Int) (by omega) (by omega),wu ((a:Int) * 10) (by omega) (by omega),wu _ (by omega) (by omega)]
    omega
   rw [qau (v':=(b,d,(L:Int),((a * 10 + (d[i].toNat - 48):Nat):Int),((i + 1:Nat):Int))) ?_,h1]
   simp only [qoB,qhm,qbn hn,qcp hn,qbg hn,ev_br,ev_at,cond_true,cond_false,wx,h3,h4,qat hn hl]
theorem qAX {s:Bs} (hl:s.length <= big):∃ v e,qtC s = some (v,e) /\ (match qk4 s with | some n=>v = n /\ e = 0 | none=>e ≠ 0 \/ v < 0):=by
 rw [qER,qsY]
 have plain:∀ {s:Bs},s.length <= big -> qgG s = true -> ∃ v e,(DT.bi (pj 0 (qeu (false,s,9223372036854775807,0,0))) (fun _=>DT.at (((0:Int),(6:Int))))
   (.bi (pj 1 (qeu (false,s,9223372036854775807,0,0))) (fun y3=>.br (y3.fst) (.at ((IntKind.i64.wrap (IntKind.u64.wrap (IntKind.u64.wrap (-1 - y3.snd.snd.snd.fst) + 1)),0))) (.at ((IntKind.i64.wrap y3.snd.snd.snd.fst,0)))) (.no))).ev = some (v,e) /\ (match qk4 s with | some n=>v = n /\ e = 0 | none=>e ≠ 0 \/ v < 0):=by
  intro s hl hi
  have hd:s.all (at8 qbd) = true:=(qbb.1 hi).1
  obtain ⟨j,v,w,h1,h2⟩:=qpX hl hd false (L:=9223372036854775807) (.inl rfl) s.length 0 0 (by simp) (by omega)
  have h1:qeu (false,s,9223372036854775807,0,0) = some (j,false,s,9223372036854775807,v,w):=h1
  rw [List.drop_zero] at h2
  have hg:=qiY hi
  unfold qk4
  rw [hi,hg,h1]
  rcases h2 with ⟨q1,rfl,rfl⟩ | ⟨q1,rfl⟩
  ·rw [decide_eq_false (by omega)]
   refine ⟨_,0,(biN (by rfl)).trans ((biS (by rfl)).trans ((brF rfl).trans rfl)),?_⟩
   simp only [Bool.not_false,Bool.and_true,cond_true]
   exact ⟨wrap64 (by omega) (by omega),trivial⟩
  ·rw [decide_eq_true (by omega)]
   exact ⟨0,6,(biS (by rfl)).trans rfl,.inl (by decide)⟩
 cases s with
 | nil=>
  refine ⟨0,2,?_,.inl (by decide)⟩
  refine (biS (v:=false) (by rfl)).trans ((brF rfl).trans ((biS (qed hl)).trans ((biS (v:=true) (by rfl)).trans ((brT rfl).trans rfl))))
 | cons c r=>
  have e1:decide ((((c :: r).length:Nat):Int) > 0) = true:=decide_eq_true (by simp only [List.length_cons]; omega)
  have e2:inB (c :: r).length 0 = true:=qcp (n:=0) (by simp)
  have e3:qaA (c :: r) 0 = (c.toNat:Int):=qbg (s:=c :: r) (n:=0) (by simp)
  rw [e1,e2,e3]
  by_cases hc:c = 45
  ·subst hc
   have hr:r.length <= big:=by simp only [List.length_cons] at hl; omega
   have hns:qk4 (45 :: r) = none:=by
    unfold qk4
    have:qgG (45 :: r) = false:=by
     rw [<- Bool.not_eq_true]
     intro h
     have:=(qbb.1 h).1
     simp [at8,qbd] at this
    rw [this]; rfl
   rw [hns]
   refine (fun h=>h) ?_
   have hb:(DT.bi (br true (br true (some ((((45:UInt8).toNat:Nat):Int) == 45)) none) (some false)):(Bool -> DT qkI) -> DT qkI -> DT qkI) = DT.bi (some true):=rfl
   rw [hb,ev_bi_some]
   cases hi:qgG r
   ·refine ⟨0,2,(brT rfl).trans ((brT ?_).trans ((biS (qed hr)).trans ?_)),.inl (by decide)⟩
    ·simp only [leB,List.length_cons,Bool.and_eq_true,decide_eq_true_eq]; omega
    ·rw [hi]
     exact (biS (v:=true) (by rfl)).trans ((brT rfl).trans rfl)
   ·have hd:r.all (at8 qbd) = true:=(qbb.1 hi).1
    by_cases h0:r = [48]
    ·subst h0
     exact ⟨0,2,(brT rfl).trans ((brT rfl).trans ((biS (qed hr)).trans ((biS (v:=true) (by rfl)).trans ((brT rfl).trans rfl)))),.inl (by decide)⟩
    ·obtain ⟨j,v,w,h1,h2⟩:=qpX hr hd true (L:=9223372036854775808) (.inr rfl) r.length 0 0 (by simp) (by omega)
     have h1:qeu (true,r,9223372036854775808,0,0) = some (j,true,r,9223372036854775808,v,w):=h1
     rw [List.drop_zero] at h2
     have hq:(r == [48]) = false:=by simpa using h0
     have hN:=qed hr
     rw [hi] at hN
     have hle:leB 1 (45 :: r).length = true:=by simp only [leB,List.length_cons,Bool.and_eq_true,decide_eq_true_eq]; omega
     have hb2:(br (!true) (some true) (br true (some (List.drop 1 (45 :: r) == [48])) (some false))) = some false:=by
      show (br (!true) (some true) (br true (some (r == [48])) (some false))) = some false
      rw [hq]; rfl
     rcases h2 with ⟨q1,rfl,rfl⟩ | ⟨q1,rfl⟩
     ·refine ⟨_,0,(brT rfl).trans ((brT hle).trans ((biS hN).trans ((biS (v:=false) hb2).trans ((brF rfl).trans ((brT rfl).trans ((biN (pj0 h1)).trans ((biS (pj1 h1)).trans ((brT rfl).trans rfl)))))))),.inr ?_⟩
      have hpos:1 <= qa1 0 r:=by
       obtain ⟨q2,q3,q4⟩:=qbb.1 hi
       cases r with
       | nil=>exact absurd rfl q3
       | cons c t=>
        have hc:=List.all_eq_true.1 q2 c (by simp)
        simp only [at8,qbd,Bool.and_eq_true,decide_eq_true_eq] at hc
        have hne:c.toNat ≠ 48:=by
         intro h48
         have hc48:c = 48:=UInt8.toNat_inj.1 h48
         subst hc48
         unfold qgG at hi
         cases t with
         | nil=>exact h0 rfl
         | cons d t=>simp at hi; omega
        have e:qa1 0 (c :: t) = qa1 (0 * 10 + (c.toNat - 48)) t:=rfl
        rw [e]
        exact Nat.le_trans (by omega) (qwe t _)
      have wu:∀ x:Int,IntKind.u64.wrap x = x % 18446744073709551616:=by
       intro x
       simp only [IntKind.wrap,IntKind.bits,IntKind.signed]
       simp
      have w1:IntKind.u64.wrap (-1 - ((qa1 0 r:Nat):Int)) = 18446744073709551615 - ((qa1 0 r:Nat):Int):=by rw [wu]; omega
      have w2:IntKind.u64.wrap (18446744073709551615 - ((qa1 0 r:Nat):Int) + 1) = 18446744073709551616 - ((qa1 0 r:Nat):Int):=by rw [wu]; omega
      show IntKind.i64.wrap (IntKind.u64.wrap (IntKind.u64.wrap (-1 - ((qa1 0 r:Nat):Int)) + 1)) < 0
      rw [w1,w2]
      have w3:IntKind.i64.wrap (18446744073709551616 - ((qa1 0 r:Nat):Int)) = -((qa1 0 r:Nat):Int):=by
       simp only [IntKind.wrap,IntKind.bits,IntKind.signed]
       simp
       omega
      rw [w3]; omega
     ·exact ⟨0,6,(brT rfl).trans ((brT hle).trans ((biS hN).trans ((biS (v:=false) hb2).trans ((brF rfl).trans ((brT rfl).trans ((biS (qSw h1)).trans rfl)))))),.inl (by decide)⟩
  ·have hne:((c.toNat:Int) == 45) = false:=by
    have:c.toNat ≠ 45:=fun h=>hc (UInt8.toNat_inj.1 h)
    simp; omega
   rw [hne]
   have hb:(DT.bi (br true (br true (some false) none) (some false)):(Bool -> DT qkI) -> DT qkI -> DT qkI) = DT.bi (some false):=rfl
   rw [hb,ev_bi_some]
   cases hi:qgG (c :: r)
   ·refine ⟨0,2,(brF rfl).trans ((biS (qed hl)).trans ?_),?_⟩
    ·rw [hi]; exact (biS (v:=true) (by rfl)).trans ((brT rfl).trans rfl)
    ·unfold qk4; rw [hi]; exact .inl (by decide)
   ·obtain ⟨v,e,h1,h2⟩:=plain hl hi
    refine ⟨v,e,(brF rfl).trans ((biS (qed hl)).trans ?_),h2⟩
    rw [hi]
    exact (biS (v:=false) (by rfl)).trans ((brF rfl).trans ((brF rfl).trans h1))
theorem qmu {T:List Tok} (hb:∀ t ∈ T,t.text.length <= 1000000) {l:List Tok} (hl:l <:+ T):∃ v b,qgT (ET T) (pos T l) = some (v,b) /\ (match qdP l with | some n=>v = n /\ b = true | none=>b = false):=by
 rw [qAc,qlq,List.length_map]
 cases l with
 | nil=>
  have h0:decide (pos T [] >= (T.length:Int)) = true:=decide_eq_true (by rw [qiv]; omega)
  refine ⟨0,false,(biS (v:=true) (by rw [h0]; rfl)).trans ((brT rfl).trans rfl),rfl⟩
 | cons t l=>
  have hbt:t.text.length <= big:=by
   have:=hb t (hl.subset (by simp))
   simp only [big]; omega
  rw [qE1 hl,qBQ hl,qA7 hl,qxz hl,qhG]
  cases hk:(t.kind == 2)
  ·exact ⟨0,false,(biS (v:=true) (by rw [bne,hk]; rfl)).trans ((brT rfl).trans rfl),rfl⟩
  ·obtain ⟨v,e,h1,h2⟩:=qAX hbt
   rw [cond_true]
   cases hn:qk4 t.text with
   | none=>
    rw [hn] at h2
    refine ⟨v,false,(biS (v:=false) (by rw [bne,hk]; rfl)).trans ((brF rfl).trans ((brT rfl).trans ((biS h1).trans ((biS (v:=false) ?_).trans rfl)))),rfl⟩
    by_cases h0:e = 0
    ·have hv:¬ (v >= 0):=by
      rcases h2 with h2 | h2
      ·exact absurd h0 h2
      ·omega
     show br (e == 0) (some (decide (v >= 0))) (some false) = some false
     rw [beq_iff_eq.2 h0,decide_eq_false hv]; rfl
    ·show br (e == 0) (some (decide (v >= 0))) (some false) = some false
     rw [beq_eq_false_iff_ne.2 h0]; rfl
   | some n=>
    rw [hn] at h2
    obtain ⟨rfl,rfl⟩:=h2
    have hn0:=(qzb hn).2.1
    refine ⟨v,true,(biS (v:=false) (by rw [bne,hk]; rfl)).trans ((brF rfl).trans ((brT rfl).trans ((biS h1).trans ((biS (v:=true) ?_).trans rfl)))),rfl,rfl⟩
    show br ((0:Int) == 0) (some (decide (v >= 0))) (some false) = some true
    rw [decide_eq_true hn0]; rfl
end Go.Proofs.H10

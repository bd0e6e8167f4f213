/- The document's tokens: what the printed functions come to. -/
import Derived.Test.YtgpbobelbcbcaaaGreatDoorD10_1
import Derived.Test.YtgpbobelbcbcaaaGreatDoorD10_2
import Derived.Test.YtgpbobelbcbcaaaGreatDoorD10_3
import Derived.Test.YtgpbobelbcbcaaaGreatDoorD10_4
import Derived.Test.YtgpbobelbcbcaaaGreatDoorD10_5
import Derived.Test.YtgpbobelbcbcaaaGreatDoorD10_6
import Derived.Test.YtgpbobelbcbcaaaGreatDoorD10_7
import Derived.Test.YtgpbobelbcbcaaaGreatDoorD10_8
import Derived.Test.YtgpbobelbcbcaaaGreatDoorD10_9
import Derived.Test.YtgpbobelbcbcaaaGreatDoorX10Tok
import Derived.Test.YtgpbobelbcbcaaaGreatDoorTkF
set_option linter.unusedVariables false
set_option linter.unusedSimpArgs false
set_option linter.unnecessarySimpa false
namespace Go.Proofs.H10
open Go Go.Eng Go.Tk
set_option maxRecDepth 20000
theorem qik (x:Int):qgW x = some (qbd x):=by
 rw [qAm,qlB]; by_cases h:x >= 48 <;> simp [qbd,h]
theorem qwW {s:Bs} (hl:s.length <= big):qrc (s,0) = some (0,s,((s.takeWhile (at8 qbd)).length:Int)):=by
 rw [qpO]
 refine qjg (fun n h=>?_) ?_
 ·simp only [qjk,qkl,qbn h,qcp h,qbg h,qik,qat h hl,br_eq,cond_true,sm_some,gv_some,ev_bi_some,ev_br,ev_at,cond_some]
 ·simp [qjk,qkl]
theorem qmC {s:Bs} (hl:s.length <= big):qjU s = some ((plS s:Nat):Int):=by
 rw [qAn,qlC,qwW hl]
 have e1:decide (((s.takeWhile (at8 qbd)).length:Int) > 1) = decide ((s.takeWhile (at8 qbd)).length > 1):=by
  by_cases h:(s.takeWhile (at8 qbd)).length > 1
  ·rw [decide_eq_true h,decide_eq_true (by omega)]
  ·rw [decide_eq_false h,decide_eq_false (by omega)]
 simp only [pj_some,if_true,ev_bi_some,e1,br_eq]
 unfold plS
 cases hd:decide ((s.takeWhile (at8 qbd)).length > 1)
 ·rfl
 ·have hs:0 < s.length:=by
   have:=qgK (p:=at8 qbd) s
   have:=of_decide_eq_true hd
   omega
  have e2:inB s.length 0 = true:=qcp (n:=0) hs
  have e3:(qaA s 0 == 48) = (s.head? == some 48):=by
   cases s with
   | nil=>simp at hs
   | cons c r=>
    have:qaA (c :: r) 0 = (c.toNat:Int):=by simp [qaA,qd5]
    rw [this,Bool.eq_iff_iff,beq_iff_eq,beq_iff_eq,List.head?_cons,Option.some.injEq,<- UInt8.toNat_inj]
    exact Int.ofNat_inj
  simp only [cond_true,e2,e3,ev_bi_some,Bool.true_and]
  cases (s.head? == some 48) <;> rfl
theorem qw1 {s:Bs} (hl:s.length <= big) {n:Nat} (hn:n <= s.length):∃ v,qj9 (s,(n:Int)) = some ((bif (s.drop n).all (at8 qbd) then 1 else 0),v):=by
 rw [qpV]
 have key:∀ (k n:Nat),n + k = s.length -> ∃ v,qaw (fun v=>(qgu v).ev) (s,(n:Int)) = some ((bif (s.drop n).all (at8 qbd) then 1 else 0),v):=by
  intro k
  induction k with
  | zero=>
   intro n hn
   have:n = s.length:=by omega
   subst this
   rw [qaj (j:=1) (by simp [qgu,qkx])]
   exact ⟨_,by rw [List.drop_length]; rfl⟩
  | succ k ih=>
   intro n hn
   have h:n < s.length:=by omega
   rw [drop_at h,List.all_cons]
   have hst:(qgu (s,(n:Int))).ev = some (bif !at8 qbd s[n] then .done 0 else .next (s,((n + 1:Nat):Int))):=by
    simp only [qgu,qkx,qbn h,qcp h,qbg h,qik,qat h hl,ev_br,cond_true,ev_bi_some,ev_at,cond_some,at8]
   cases hd:at8 qbd s[n]
   ·rw [hd] at hst
    exact ⟨_,by rw [qaj hst]; rfl⟩
   ·rw [hd] at hst
    rw [qau hst]
    exact ih (n + 1) (by omega)
 exact key (s.length - n) n (by omega)
theorem qwK {s:Bs} (hl:s.length <= big):qmL s = some (qm1 s):=by
 rw [qAx,qlN,qmC hl]
 simp only [ev_bi_some,br_eq]
 unfold qm1
 have e0:(((plS s:Nat):Int) == 0) = !(plS s != 0):=by
  rw [Bool.eq_iff_iff,beq_iff_eq]; simp
 rw [e0]
 cases h0:(plS s != 0)
 ·rfl
 ·have h0':plS s ≠ 0:=by simpa using h0
  have hple:plS s <= (s.takeWhile (at8 qbd)).length:=by
   unfold plS; cases (decide ((s.takeWhile (at8 qbd)).length > 1) && s.head? == some 48) <;> simp
  have htl:=qgK (p:=at8 qbd) s
  have hs:0 < s.length:=by omega
  have e2:IntKind.i64.wrap ((s.length:Int) - 1) = ((s.length - 1:Nat):Int):=qvt hs hl
  have e3:inB s.length ((s.length - 1:Nat):Int) = true:=qcp (by omega)
  have e4:(qaA s ((s.length - 1:Nat):Int) != 37) = !(s.getLast? == some 37):=by
   rw [qbg (by omega),List.getLast?_eq_getElem?,List.getElem?_eq_getElem (by omega),Bool.eq_iff_iff]
   simp only [bne_iff_ne,ne_eq,Bool.not_eq_true',beq_eq_false_iff_ne,Option.some.injEq,<- UInt8.toNat_inj]
   exact not_congr Int.ofNat_inj
  simp only [Bool.not_true,cond_false,e2,e3,e4,cond_true,ev_bi_some,Bool.true_and]
  cases hq:(s.getLast? == some 37)
  ·rfl
  ·simp only [Bool.not_true,ev_br,cond_false,Bool.true_and]
   have hpl:plS s <= s.length - 1:=by
    rcases Nat.lt_or_ge (plS s) s.length with h | h
    ·omega
    ·have hall:(s.takeWhile (at8 qbd)) = s:=by
      have:=qiH (p:=at8 qbd) s
      rw [show (s.takeWhile (at8 qbd)).length = s.length by omega,List.take_length] at this
      exact this.symm
     have:=List.all_eq_true.1 (qoR.1 hall) 37 (List.mem_of_getLast? (by simpa using hq))
     cases this
   rw [qbA (show s.length - 1 <= s.length by omega)]
   have e5:leB ((plS s:Nat):Int) (((s.length - 1:Nat):Int)).toNat = true:=by rw [Int.toNat_natCast]; exact qbA hpl
   rw [e5]
   have e6:List.take ((((s.length - 1:Nat):Int)).toNat - (((plS s:Nat):Int)).toNat) (List.drop (((plS s:Nat):Int)).toNat s) = (s.drop (plS s)).dropLast:=by
    rw [Int.toNat_natCast,Int.toNat_natCast,List.dropLast_eq_take,List.length_drop]
    congr 1; omega
   simp only [e6,Bool.and_self,ev_br,cond_true]
   have hrl:((s.drop (plS s)).dropLast).length <= big:=by rw [List.length_dropLast,List.length_drop]; omega
   generalize (s.drop (plS s)).dropLast = r at hrl
   unfold qEU
   cases hr:r with
   | nil=>rfl
   | cons c t=>
    rw [<- hr]
    have hne:(r == []) = false:=by rw [hr]; rfl
    have h1:1 <= r.length:=by rw [hr]; simp
    have f1:decide ((r.length:Int) < 2) = !decide (2 <= r.length):=by
     by_cases h:2 <= r.length
     ·rw [decide_eq_true h,decide_eq_false (by omega)]; rfl
     ·rw [decide_eq_false h,decide_eq_true (by omega)]; rfl
    have f2:decide ((r.length:Int) > 5) = !decide (r.length <= 5):=by
     by_cases h:r.length <= 5
     ·rw [decide_eq_true h,decide_eq_false (by omega)]; rfl
     ·rw [decide_eq_false h,decide_eq_true (by omega)]; rfl
    have f3:inB r.length 0 = true:=qcp (n:=0) h1
    have f4:(qaA r 0 != 46) = !(r.head? == some 46):=by
     have:qaA r 0 = (c.toNat:Int):=by rw [hr]; simp [qaA,qd5]
     rw [this,hr,List.head?_cons,Bool.eq_iff_iff]
     simp only [bne_iff_ne,ne_eq,Bool.not_eq_true',beq_eq_false_iff_ne,Option.some.injEq,<- UInt8.toNat_inj]
     exact not_congr Int.ofNat_inj
    have f5:IntKind.i64.wrap ((r.length:Int) - 1) = ((r.length - 1:Nat):Int):=qvt h1 hrl
    have f6:inB r.length ((r.length - 1:Nat):Int) = true:=qcp (by omega)
    have f7:(qaA r ((r.length - 1:Nat):Int) == 48) = (r.getLast? == some 48):=by
     rw [qbg (by omega),List.getLast?_eq_getElem?,List.getElem?_eq_getElem (by omega),Bool.eq_iff_iff,beq_iff_eq,beq_iff_eq,Option.some.injEq,<- UInt8.toNat_inj]
     exact Int.ofNat_inj
    obtain ⟨v,hv⟩:=qw1 hrl (n:=1) h1
    have hv':qj9 (r,1) = some ((bif (r.drop 1).all (at8 qbd) then 1 else 0),v):=hv
    have f8:(r.getLast? != some 48) = !(r.getLast? == some 48):=rfl
    simp only [hne,cond_false,f1,f2,f3,f4,f5,f6,f7,f8,hv',Bool.false_or]
    cases decide (2 <= r.length) <;> cases decide (r.length <= 5) <;> cases (r.head? == some 46) <;> cases (r.getLast? == some 48) <;> cases (r.drop 1).all (at8 qbd) <;> rfl
theorem qwZ {s:Bs} (hl:s.length <= 1000000) (w:Nat):∀ (k i n q:Nat),i + k = s.length - 1 -> n <= 1000000 -> q <= i ->
  match rlp w i n q (s.dropLast.drop i) with
  | some x=>∃ v:Int,qg2 (s,(w:Int),(n:Int),(q:Int),(i:Int)) = some (1,s,(w:Int),(x.1:Int),(x.2:Int),v)
  | none=>∃ v,qg2 (s,(w:Int),(n:Int),(q:Int),(i:Int)) = some (0,v):=by
 intro k
 induction k with
 | zero=>
  intro i n q hi hn hq
  have hd:s.dropLast.drop i = []:=List.drop_eq_nil_of_le (by simp; omega)
  rw [hd,qfv]
  simp only [rlp]
  refine ⟨(i:Int),?_⟩
  rw [qaj (j:=1)]
  have e1:decide ((i:Int) < IntKind.i64.wrap ((s.length:Int) - 1)) = false:=by
   rw [wrap64 (by omega) (by omega)]
   exact decide_eq_false (by omega)
  simp only [qhP,qkv,e1,ev_br,cond_false,ev_at]
 | succ k ih=>
  intro i n q hi hn hq
  have hlt:i < s.length:=by omega
  have hlt2:i < s.dropLast.length:=by simp; omega
  have hg:s.dropLast[i] = s[i]:=by simp
  rw [drop_at hlt2,hg]
  have e1:decide ((i:Int) < IntKind.i64.wrap ((s.length:Int) - 1)) = true:=by
   rw [wrap64 (by omega) (by omega)]
   exact decide_eq_true (by omega)
  have hb:s.length <= big:=Nat.le_trans hl (by decide)
  have hst:(qhP (s,(w:Int),(n:Int),(q:Int),(i:Int))).ev = some (bif at8 qbd s[i] then (bif decide (10 * n + (s[i].toNat - 48) > 1000000) then .done 0 else .next (s,(w:Int),((10 * n + (s[i].toNat - 48):Nat):Int),(((bif decide (i > w) then q + 1 else q):Nat):Int),((i + 1:Nat):Int))) else .next (s,(w:Int),(n:Int),(q:Int),((i + 1:Nat):Int))):=by
   simp only [qhP,qkv,e1,qcp hlt,qbg hlt,qik,ev_br,ev_bi_some,cond_true,qat hlt hb]
   show (bif at8 qbd s[i] then _ else _) = _
   cases hd:at8 qbd s[i]
   ·rfl
   ·have hr:=qdK hd
    have e2:IntKind.u8.wrap ((s[i].toNat:Int) - 48) = ((s[i].toNat - 48:Nat):Int):=by rw [qXc (by omega) (by omega)]; omega
    have e3:IntKind.i64.wrap (IntKind.i64.wrap (10 * (n:Int)) + IntKind.i64.wrap ((s[i].toNat - 48:Nat):Int)) = ((10 * n + (s[i].toNat - 48):Nat):Int):=by
     rw [wrap64 (n:=10 * (n:Int)) (by omega) (by omega),wrap64 (n:=((s[i].toNat - 48:Nat):Int)) (by omega) (by omega),wrap64 (by omega) (by omega)]
     push_cast; rfl
    have e4:decide (((10 * n + (s[i].toNat - 48):Nat):Int) > 1000000) = decide (10 * n + (s[i].toNat - 48) > 1000000):=by
     by_cases h:10 * n + (s[i].toNat - 48) > 1000000
     ·rw [decide_eq_true h,decide_eq_true (by omega)]
     ·rw [decide_eq_false h,decide_eq_false (by omega)]
    have e5:decide ((i:Int) > (w:Int)) = decide (i > w):=by
     by_cases h:i > w
     ·rw [decide_eq_true h,decide_eq_true (by omega)]
     ·rw [decide_eq_false h,decide_eq_false (by omega)]
    have e6:IntKind.i64.wrap ((q:Int) + 1) = ((q + 1:Nat):Int):=by rw [wrap64 (by omega) (by omega)]; omega
    simp only [cond_true,e2,e3,e4,e5,e6,ev_br,ev_at]
    cases decide (10 * n + (s[i].toNat - 48) > 1000000) <;> cases decide (i > w) <;> rfl
  rw [qfv]
  simp only [rlp]
  cases hd:at8 qbd s[i]
  ·rw [hd] at hst
   rw [qau hst,<- qfv]
   exact ih (i + 1) n q (by omega) hn (by omega)
  ·rw [hd] at hst
   simp only [cond_true] at hst ⊢
   by_cases hbig:10 * n + (s[i].toNat - 48) > 1000000
   ·rw [decide_eq_true hbig] at hst ⊢
    exact ⟨_,qaj hst⟩
   ·rw [decide_eq_false hbig] at hst ⊢
    rw [cond_false,qau hst,<- qfv]
    exact ih (i + 1) _ _ (by omega) (by omega) (by cases decide (i > w) <;> simp <;> omega)
theorem qw0:∀ (k q n:Nat),q + k = 4 -> n * 10 ^ k <= 10000000000 -> ∃ v:Int,qrf ((n:Int),(q:Int)) = some (0,((n * 10 ^ k:Nat):Int),v):=by
 intro k
 induction k with
 | zero=>
  intro q n hq hn
  rw [qhD,qaj (j:=0)]
  ·exact ⟨_,by rw [Nat.pow_zero,Nat.mul_one]⟩
  ·have:decide ((q:Int) < 4) = false:=decide_eq_false (by omega)
   simp only [qjr,qkw,this,ev_br,cond_false,ev_at]
 | succ k ih=>
  intro q n hq hn
  have e0:n * 10 ^ (k + 1) = 10 * n * 10 ^ k:=by rw [Nat.pow_succ,Nat.mul_comm 10 n,Nat.mul_assoc,Nat.mul_comm 10]
  have hp:1 <= 10 ^ k:=Nat.one_le_pow _ _ (by decide)
  have hle:10 * n <= 10 * n * 10 ^ k:=Nat.le_mul_of_pos_right _ hp
  rw [e0] at hn ⊢
  rw [qhD,qau (v':=(((10 * n:Nat):Int),((q + 1:Nat):Int)))]
  ·have:=ih (q + 1) (10 * n) (by omega) hn
   rw [qhD] at this
   exact this
  ·have:decide ((q:Int) < 4) = true:=decide_eq_true (by omega)
   have e1:IntKind.i64.wrap (10 * (n:Int)) = ((10 * n:Nat):Int):=by rw [wrap64 (by omega) (by omega)]; push_cast; rfl
   have e2:IntKind.i64.wrap ((q:Int) + 1) = ((q + 1:Nat):Int):=by rw [wrap64 (by omega) (by omega)]; omega
   simp only [qjr,qkw,this,e1,e2,ev_br,cond_true,ev_at]
theorem qwJ {s:Bs} (hl:s.length <= 1000000):qmJ s = some (qbN s):=by
 have hb:s.length <= big:=Nat.le_trans hl (by decide)
 rw [qAw,qlM,qwK hb]
 cases hf:qm1 s
 ·rw [qK4 hf]; rfl
 ·obtain ⟨a,p,ha,hp,rfl⟩:=qA0 hf
  obtain ⟨hp4,hpd⟩:=qp8 hp
  have had:=(qbb.1 ha).1
  have hdl:(a ++ (qcP p ++ [37])).dropLast = a ++ qcP p:=by rw [<- List.append_assoc,List.dropLast_concat]
  have hpl:plS (a ++ (qcP p ++ [37])) = a.length:=by
   unfold qcP
   cases (p != [])
   ·exact qrx ha rfl []
   ·exact qrx ha (d:=46) rfl (p ++ [37])
  have h0:=qwZ hl a.length ((a ++ (qcP p ++ [37])).length - 1) 0 0 0 (by omega) (by omega) (Nat.le_refl _)
  rw [List.drop_zero,hdl,qLa had hpd] at h0
  rw [qK6 ha hp]
  simp only [ev_bi_some,Bool.not_true,ev_br,cond_false,qmC hb,hpl]
  by_cases hbig:qa1 0 (a ++ p) > 1000000
  ·rw [decide_eq_true hbig] at h0
   obtain ⟨v,hv⟩:=h0
   have hge:qa1 0 (a ++ p) * 10 ^ (4 - p.length) > 1000000:=Nat.lt_of_lt_of_le hbig (Nat.le_mul_of_pos_right _ (Nat.one_le_pow _ _ (by decide)))
   rw [decide_eq_true hge]
   have hv':qg2 (a ++ (qcP p ++ [37]),(a.length:Int),0,0,0) = some (0,v):=hv
   rw [hv']; rfl
  ·rw [decide_eq_false hbig] at h0
   obtain ⟨v,hv⟩:=h0
   have hv':qg2 (a ++ (qcP p ++ [37]),(a.length:Int),0,0,0) = some (1,a ++ (qcP p ++ [37]),(a.length:Int),((qa1 0 (a ++ p):Nat):Int),((p.length:Nat):Int),v):=hv
   have hpw:10 ^ (4 - p.length) <= 10 ^ 4:=Nat.pow_le_pow_right (by decide) (by omega)
   obtain ⟨u,hu⟩:=qw0 (4 - p.length) p.length (qa1 0 (a ++ p)) (by omega) (by
    have:=Nat.mul_le_mul (show qa1 0 (a ++ p) <= 1000000 by omega) hpw
    omega)
   rw [hv']
   have n0:pj 0 (some (1,a ++ (qcP p ++ [37]),(a.length:Int),((qa1 0 (a ++ p):Nat):Int),((p.length:Nat):Int),v)) = none:=rfl
   have n1:pj 1 (some (1,a ++ (qcP p ++ [37]),(a.length:Int),((qa1 0 (a ++ p):Nat):Int),((p.length:Nat):Int),v)) = some (a ++ (qcP p ++ [37]),(a.length:Int),((qa1 0 (a ++ p):Nat):Int),((p.length:Nat):Int),v):=rfl
   rw [n0,ev_bi_none,n1,ev_bi_some]
   simp only [hu,pj_some,if_true,ev_bi_some]
   have e4:decide (((qa1 0 (a ++ p) * 10 ^ (4 - p.length):Nat):Int) > 1000000) = decide (qa1 0 (a ++ p) * 10 ^ (4 - p.length) > 1000000):=by
    by_cases h:qa1 0 (a ++ p) * 10 ^ (4 - p.length) > 1000000
    ·rw [decide_eq_true h,decide_eq_true (by omega)]
    ·rw [decide_eq_false h,decide_eq_false (by omega)]
   rw [ev_br,e4]
   cases decide (qa1 0 (a ++ p) * 10 ^ (4 - p.length) > 1000000) <;> rfl
end Go.Proofs.H10

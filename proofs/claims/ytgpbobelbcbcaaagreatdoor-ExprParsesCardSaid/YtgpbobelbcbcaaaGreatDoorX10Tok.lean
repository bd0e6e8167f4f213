/- The program's tokens: what the printed functions come to. -/
import Derived.Test.YtgpbobelbcbcaaaGreatDoorD10_1
import Derived.Test.YtgpbobelbcbcaaaGreatDoorD10_2
import Derived.Test.YtgpbobelbcbcaaaGreatDoorD10_3
import Derived.Test.YtgpbobelbcbcaaaGreatDoorD10_4
import Derived.Test.YtgpbobelbcbcaaaGreatDoorD10_5
import Derived.Test.YtgpbobelbcbcaaaGreatDoorD10_6
import Derived.Test.YtgpbobelbcbcaaaGreatDoorD10_7
import Derived.Test.YtgpbobelbcbcaaaGreatDoorD10_8
import Derived.Test.YtgpbobelbcbcaaaGreatDoorD10_9
import Derived.Test.YtgpbobelbcbcaaaGreatDoorTkA
set_option linter.unusedVariables false
set_option linter.unusedSimpArgs false
set_option linter.unnecessarySimpa false
namespace Go.Proofs.H10
open Go Go.Eng Go.Tk
set_option maxRecDepth 20000
theorem qpD (x:Int):qpC x = some (qp1 x):=by
 rw [qEM,qsT]; by_cases h:x >= 97 <;> simp [qp1,h]
theorem qid (x:Int):qga x = some (qbd x):=by
 rw [qz8,qln]; by_cases h:x >= 48 <;> simp [qbd,h]
theorem qpB (x:Int):qmV x = some (qdv x):=by
 rw [qEL,qsS,qpD,qid,qdv]
 cases qp1 x <;> cases qbd x <;> simp
theorem qAM (x:Int):qpw x = some (qeH x):=by
 rw [qEw,qsC,qpB,qeH]
 cases qdv x <;> cases (x == 46) <;> simp
theorem qAL (x:Int):qpv x = some (qhx x):=by
 rw [qEv,qsB]; rfl
theorem qBe {s:Bs} (hl:s.length <= big):qyD (s,0) = some (0,s,((s.takeWhile (at8 qhx)).length:Int)):=by
 rw [qtX]
 refine qjg (fun n h=>?_) ?_
 ·simp only [qox,qoy,qbn h,qcp h,qbg h,w32,qAL,qat h hl,br_eq,cond_true,sm_some,gv_some,ev_bi_some,ev_br,ev_at,cond_some]
 ·simp [qox,qoy]
theorem qAV {s:Bs} (hl:s.length <= big):qmW s = some (s.takeWhile (at8 qhx)):=by
 rw [qEO,qsV,qBe hl]
 simp [qbA (qgK s),qiH]
theorem qA9 {s:Bs} (hl:s.length <= big):qyz (s,0) = some (0,s,((s.takeWhile (at8 qdv)).length:Int)):=by
 rw [qtR]
 refine qjg (fun n h=>?_) ?_
 ·simp only [qoo,qop,qbn h,qcp h,qbg h,w32,qpB,qat h hl,br_eq,cond_true,sm_some,gv_some,ev_bi_some,ev_br,ev_at,cond_some]
 ·simp [qoo,qop]
theorem qAP {s:Bs} (hl:s.length <= big):qtw s = some (s.takeWhile (at8 qdv)):=by
 rw [qEE,qsL,qA9 hl]
 simp [qbA (qgK s),qiH]
theorem qBa {s:Bs} (hl:s.length <= big):qyA (s,0) = some (0,s,((s.takeWhile (at8 qeH)).length:Int)):=by
 rw [qtS]
 refine qjg (fun n h=>?_) ?_
 ·simp only [qoq,qor,qbn h,qcp h,qbg h,w32,qAM,qat h hl,br_eq,cond_true,sm_some,gv_some,ev_bi_some,ev_br,ev_at,cond_some]
 ·simp [qoq,qor]
theorem qAQ {s:Bs} (hl:s.length <= big):qtx s = some (s.takeWhile (at8 qeH)):=by
 rw [qEF,qsM,qBa hl]
 simp [qbA (qgK s),qiH]
theorem qBb {s:Bs} (hl:s.length <= big):qyB (s,0) = some (0,s,((s.takeWhile (at8 qbd)).length:Int)):=by
 rw [qtT]
 refine qjg (fun n h=>?_) ?_
 ·simp only [qos,qot,qbn h,qcp h,qbg h,w32,qid,qat h hl,br_eq,cond_true,sm_some,gv_some,ev_bi_some,ev_br,ev_at,cond_some]
 ·simp [qos,qot]
theorem qpA {s:Bs} (hl:s.length <= big):qh2 s = some (s.takeWhile (at8 qbd)):=by
 rw [qEG,qsN,qBb hl]
 simp [qbA (qgK s),qiH]
theorem qBd {s:Bs} (hl:s.length <= big):∀ (k n:Nat),n + k = s.length -> ∃ j,(j = 0 \/ j = 1) /\ qtW (s,(n:Int)) = some (j,s,((n + blk false (s.drop n):Nat):Int)):=by
 intro k
 induction k using Nat.strongRecOn with
 | _ k ih=>
  intro n hn
  rw [qi2]
  by_cases h:n < s.length
  ·have hst:(qkz (s,(n:Int))).ev = some (bif spI (s[n].toNat:Int) then .next (s,((n + 1:Nat):Int)) else bif (s[n].toNat:Int) == 35 then .next (s,((n + ((s.drop n).takeWhile (at8 qhx)).length:Nat):Int)) else .done 0):=by
    have hw:IntKind.i64.wrap ((n:Int) + (((s.drop n).takeWhile (at8 qhx)).length:Int)) = ((n + ((s.drop n).takeWhile (at8 qhx)).length:Nat):Int):=by
     have:=qgK (p:=at8 qhx) (s.drop n)
     simp only [List.length_drop,big] at this hl
     rw [wrap64 (by omega) (by omega)]; simp
    have hd:(s.drop n).length <= big:=by simp; omega
    simp only [qkz,qow,qbn h,qcp h,qbg h,qat h hl,qbA (Nat.le_of_lt h),Int.toNat_natCast,qAV hd,hw,ev_bi_some,ev_br,ev_at,cond_true,spI]
    cases ((s[n].toNat:Int) == 32) <;> cases ((s[n].toNat:Int) == 9) <;> cases ((s[n].toNat:Int) == 10) <;> cases ((s[n].toNat:Int) == 35) <;> rfl
   rw [drop_at h]
   simp only [blk]
   cases hs:spI (s[n].toNat:Int)
   ·cases hc:((s[n].toNat:Int) == 35)
    ·rw [hs,hc] at hst
     exact ⟨0,.inl rfl,by rw [qaj hst]; simp⟩
    ·rw [hs,hc] at hst
     rw [qau hst]
     have ht:((s.drop n).takeWhile (at8 qhx)).length = ((s.drop (n + 1)).takeWhile (at8 qhx)).length + 1:=by
      have:at8 qhx s[n] = true:=by
       simp only [at8,qhx,bne_iff_ne,ne_eq]
       have:(s[n].toNat:Int) = 35:=by simpa using hc
       omega
      rw [drop_at h,List.takeWhile_cons_of_pos this,List.length_cons]
     have hle:=qgK (p:=at8 qhx) (s.drop n)
     simp only [List.length_drop] at hle
     obtain ⟨j,h1,h2⟩:=ih (k - ((s.drop n).takeWhile (at8 qhx)).length) (by omega) (n + ((s.drop n).takeWhile (at8 qhx)).length) (by omega)
     rw [qi2] at h2
     refine ⟨j,h1,h2.trans ?_⟩
     have e:s.drop (n + ((s.drop n).takeWhile (at8 qhx)).length) = (s.drop (n + 1)).drop ((s.drop (n + 1)).takeWhile (at8 qhx)).length:=by rw [List.drop_drop,ht]; congr 1; omega
     rw [e,cond_false,cond_true,qqP (s.drop (n + 1)),ht]
     congr 4; omega
   ·rw [hs] at hst
    rw [qau hst]
    obtain ⟨j,h1,h2⟩:=ih (k - 1) (by omega) (n + 1) (by omega)
    rw [qi2] at h2
    refine ⟨j,h1,h2.trans ?_⟩
    rw [cond_true]; congr 4; omega
  ·have hn':n = s.length:=by omega
   subst hn'
   refine ⟨1,.inr rfl,?_⟩
   rw [qaj (j:=1) (by simp [qkz,qow])]
   simp [blk]
theorem qAT {s:Bs} (hl:s.length <= big):qdf s = some ((blk false s:Nat):Int):=by
 obtain ⟨j,h1,h2⟩:=qBd hl s.length 0 (by omega)
 rw [qEK,qsR]
 simp only [Int.natCast_zero] at h2
 rw [h2]
 rcases h1 with rfl | rfl <;> simp
theorem qwu:qmt = some (ES wordsS):=by
 rw [qAb,qlp]; rfl
theorem qwt:qms = some (ES marksS):=by
 rw [qAa,qlo]; rfl
theorem qA8 {l:List Bs} (hl:l.length <= big) (s:Bs):qtH (ES l,s,(l.length:Int),0) = some (qhf (s == ·) (fun _=>0) 1 l,ES l,s,(l.length:Int),((l.findIdx (s == ·):Nat):Int)):=by
 rw [qtI]
 refine qa8 (hd:=fun n=>(ES l,s,(l.length:Int),(n:Int))) (jx:=fun _=>0) (s == ·) 1 (fun n h=>?_) ?_
 ·simp only [qom,qon,qbn h,qBv h,qs0 h,ev_br,ev_at,cond_true,qat h hl]
  cases (s == l[n]) <;> rfl
 ·simp [qom,qon]
theorem qz9 {l:List Bs} (hl:l.length <= big) (s:Bs):qtp (ES l) s = some (has l s):=by
 rw [qD5,qr0,qD8,qr7,List.length_map,qA8 hl,qbG,has]
 cases l.any (s == ·) <;> simp
theorem qgb (s:Bs):qgV s = some (qeK s):=by
 rw [qAj,qly,qwu]
 simp only [ev_bi_some,qz9 (l:=wordsS) (by decide),ev_at,qeK]
theorem qjY {s:Bs} (hl:s.length <= big):qmT s = some (qgG s):=by
 rw [qED,qsK,qpA hl]
 cases s with
 | nil=>rfl
 | cons c r=>
  have e1:((c :: r).takeWhile (at8 qbd) == c :: r) = (c :: r).all (at8 qbd):=by
   rw [Bool.eq_iff_iff,beq_iff_eq]; exact qoR
  have e2:qaA (c :: r) 0 = (c.toNat:Int):=by simp [qaA,qd5]
  have e3:((c.toNat:Int) != 48) = (some c != some 48):=by
   rw [Bool.eq_iff_iff,bne_iff_ne,bne_iff_ne,ne_eq,ne_eq,Decidable.not_iff_not,Option.some.injEq,<- UInt8.toNat_inj]
   exact Int.ofNat_inj
  have e4:inB (c :: r).length 0 = true:=by simp [inB]
  simp only [sm_some,gv_some,br_eq,cond_true,e1,e2,e3,e4,qgG,List.head?_cons,cond_some,ev_bi_some,ev_at]
  cases (c :: r).all (at8 qbd) <;> cases (((c :: r).length:Int) == 1) <;> simp
theorem qAG {s:Bs} (hl:s.length <= big):qts s [37] = some (bif s.getLast? == some 37 then (s.dropLast,true) else (s,false)):=by
 rw [qEj,qsn,qKp,qzB,qD4,qrY]
 simp only [big] at hl
 cases hs:s with
 | nil=>rfl
 | cons c r=>
  rw [<- hs]
  have h1:1 <= s.length:=by rw [hs]; simp
  have e1:decide ((s.length:Int) >= (([37]:Bs).length:Int)) = true:=by simp; omega
  have e2:IntKind.i64.wrap ((s.length:Int) - (([37]:Bs).length:Int)) = ((s.length - 1:Nat):Int):=by
   rw [wrap64 (by simp; omega) (by simp; omega)]; simp; omega
  have e3:leB ((s.length - 1:Nat):Int) s.length = true:=qbA (by omega)
  have e4:s.take (s.length - 1) = s.dropLast:=by rw [List.dropLast_eq_take]
  have e5:(s.drop (s.length - 1) == [37]) = (s.getLast? == some 37):=by
   have hne:s ≠ []:=by rw [hs]; simp
   have:=List.dropLast_concat_getLast hne
   rw [List.getLast?_eq_some_getLast hne]
   conv=>lhs; lhs; rw [<- this]
   rw [List.drop_append_of_le_length (by simp),show (s.dropLast ++ [s.getLast hne]).length - 1 = s.dropLast.length by simp,List.drop_length]
   simp
  simp only [e1,e2,e3,e4,e5,br_eq,cond_true,ev_bi_some,Int.toNat_natCast,Bool.and_true,ev_br,ev_at]
  cases (s.getLast? == some 37) <;> rfl
theorem qAh (t:Bs):qtr t [46] = some (Lib.indexByte t 46):=by
 rw [qD7,qr4]
 have e1:((([46]:Bs).length:Int) == 0) = false:=rfl
 have e2:((([46]:Bs).length:Int) == 1) = true:=rfl
 have e3:inB ([46]:Bs).length 0 = true:=rfl
 have e4:(qaA [46] 0).toNat.toUInt8 = 46:=rfl
 simp only [e1,e2,e3,e4,br_eq,cond_false,cond_true,ev_bi_some,ev_br,ev_at]
 cases h:(([46]:Bs) == t)
 ·rfl
 ·have:=eq_of_beq h
  subst this; rfl
theorem qmr {t:Bs} (hl:t.length <= big):qmq t [46] = some (qcH t):=by
 rw [qz7,qlm,qEa,qsb,qAh,qKF]
 simp only [big] at hl
 have hdw:=drop_tw (p:=(· != 46)) t
 by_cases h:(t.takeWhile (· != 46)).length < t.length
 ·have e1:decide (((t.takeWhile (· != 46)).length:Int) >= 0) = true:=by simp
  have e2:IntKind.i64.wrap (((t.takeWhile (· != 46)).length:Int) + (([46]:Bs).length:Int)) = (((t.takeWhile (· != 46)).length + 1:Nat):Int):=by
   rw [wrap64 (by simp; omega) (by simp; omega)]; simp
  have e3:leB ((t.takeWhile (· != 46)).length:Int) t.length = true:=qbA (Nat.le_of_lt h)
  have e4:leB (((t.takeWhile (· != 46)).length + 1:Nat):Int) t.length = true:=qbA h
  simp only [ev_bi_some,if_pos h,e1,e2,e3,e4,ev_br,ev_at,cond_true,Int.toNat_natCast,Bool.and_true,qiH]
  unfold qcH
  rw [<- hdw]
  rw [List.drop_eq_getElem_cons h]
 ·simp only [ev_bi_some,if_neg h]
  unfold qcH
  have hdn:t.drop (t.takeWhile (· != 46)).length = []:=List.drop_eq_nil_of_le (Nat.not_lt.1 h)
  rw [<- hdw,hdn]
  rfl
theorem qBi (w:Bs) {p:Bs} (hp:p.length <= 4):qyK (w,p) = some (0,w,qgm p):=by
 rw [qua]
 have key:∀ (k:Nat) (p:Bs),p.length + k = 4 -> qaw (fun v=>(qkC v).ev) (w,p) = some (0,w,qgm p):=by
  intro k
  induction k with
  | zero=>
   intro p h
   have:qgm p = p:=by unfold qgm; rw [show 4 - p.length = 0 by omega]; simp
   rw [this,qaj (j:=0)]
   have:decide ((p.length:Int) < 4) = false:=by simp; omega
   simp [qkC,qoH,this]
  | succ k ih=>
   intro p h
   have e1:decide ((p.length:Int) < 4) = true:=by simp; omega
   have e2:decide (p.length + 1 <= 4611686018427387904) = true:=by simp; omega
   rw [qau (v':=(w,p ++ [48])) (by simp only [qkC,qoH,e1,e2,ev_br,ev_at,cond_true]),ih (p ++ [48]) (by simp; omega)]
   have:qgm (p ++ [48]) = qgm p:=by
    unfold qgm
    rw [show 4 - p.length = (4 - (p ++ [48]).length) + 1 by simp; omega,List.replicate_succ,List.append_assoc]; rfl
   rw [this]
 exact key (4 - p.length) p (by omega)
theorem qmA {s:Bs} (hl:s.length <= big):qih s = some (qbN s):=by
 rw [qAi,qlx,qAG hl,qbN]
 cases hs:(s.getLast? == some 37)
 ·have h1:(qcH s).1.length <= big:=by
   have:=qgK (p:=(· != 46)) s
   unfold qcH; split <;> simp <;> omega
  simp only [cond_false,ev_bi_some,qmr hl,qjY h1,Bool.not_false,br_eq,cond_true,ev_br,ev_at]
 ·have hd:s.dropLast.length <= big:=by simp; omega
  have h1:(qcH s.dropLast).1.length <= big:=by
   have:=qgK (p:=(· != 46)) s.dropLast
   unfold qcH; split <;> simp at * <;> omega
  have h2:(qcH s.dropLast).2.1.length <= big:=by
   have:=drop_tw (p:=(· != 46)) s.dropLast
   unfold qcH
   split
   ·simp
   ·rename_i x y e
    have h3:=congrArg List.length (this.trans e)
    simp at h3 hd ⊢
    omega
  simp only [cond_true,ev_bi_some,qmr hd,qjY h1,Bool.not_true,br_eq,cond_false,sm_some,gv_some]
  have h0:(qcH s.dropLast).2.2 = false -> (qcH s.dropLast).2.1 = []:=by
   unfold qcH; split <;> simp
  generalize qcH s.dropLast = c at h0 h1 h2
  obtain ⟨w,p,pt⟩:=c
  simp only at h0 h1 h2 ⊢
  cases hi:qgG w
  ·simp only [Bool.not_false,cond_true,ev_bi_some,ev_br,ev_at,Bool.true_or]
  ·simp only [Bool.not_true,cond_false,Bool.false_or,ev_bi_some]
   have hpart:(bif pt then bif p == [] then some true else bif decide ((p.length:Int) > 4) then some true else bif sm (qh2 p) then bif !gv (qh2 p) == p then some true else bif inB p.length (IntKind.i64.wrap ((p.length:Int) - 1)) then some (qaA p (IntKind.i64.wrap ((p.length:Int) - 1)) == 48) else none else none else some false) = some (pt && !qd8 p):=by
    cases pt
    ·rfl
    ·cases hp:p with
     | nil=>rfl
     | cons x y=>
      rw [<- hp]
      have hne:p ≠ []:=by rw [hp]; simp
      have h1':1 <= p.length:=by rw [hp]; simp
      have e0:(p == []) = false:=by simpa using hne
      have e1:(p.takeWhile (at8 qbd) == p) = p.all (at8 qbd):=by
       rw [Bool.eq_iff_iff,beq_iff_eq]; exact qoR
      have e2:IntKind.i64.wrap ((p.length:Int) - 1) = ((p.length - 1:Nat):Int):=by
       simp only [big] at h2
       rw [wrap64 (by omega) (by omega)]; omega
      have e3:inB p.length ((p.length - 1:Nat):Int) = true:=qcp (by omega)
      have e4:(qaA p ((p.length - 1:Nat):Int) == 48) = (p.getLast? == some 48):=by
       rw [qbg (by omega),List.getLast?_eq_getElem?,List.getElem?_eq_getElem (by omega),Bool.eq_iff_iff,beq_iff_eq,beq_iff_eq,Option.some.injEq,<- UInt8.toNat_inj]
       exact Int.ofNat_inj
      have e5:decide ((p.length:Int) > 4) = !decide (p.length <= 4):=by
       by_cases h:p.length <= 4 <;> simp [h] <;> omega
      simp only [cond_true,cond_false,e0,qpA h2,sm_some,gv_some,e1,e2,e3,e4,e5,qd8,bne,Bool.true_and]
      cases decide (p.length <= 4) <;> cases p.all (at8 qbd) <;> cases (p.getLast? == some 48) <;> rfl
   rw [hpart]
   simp only [ev_bi_some,ev_br,ev_at]
   cases hg:(pt && !qd8 p)
   ·simp only [cond_false]
    have e6:decide ((w.length:Int) > 3) = decide (w.length > 3):=by
     by_cases h:w.length > 3 <;> simp [h] <;> omega
    rw [e6]
    cases h3:decide (w.length > 3)
    ·simp only [cond_false]
     have hw3:w.length <= 3:=by simpa using h3
     have hp4:p.length <= 4 /\ p.all (at8 qbd) = true:=by
      cases pt
      ·rw [h0 rfl]; exact ⟨by simp,rfl⟩
      ·have hb:qd8 p = true:=by simpa using hg
       simp only [qd8,Bool.and_eq_true,decide_eq_true_eq] at hb
       exact ⟨hb.2.1,hb.2.2.1⟩
     have hw:w ≠ [] /\ w.all (at8 qbd) = true:=by
      simp only [qgG,Bool.and_eq_true,bne_iff_ne,ne_eq] at hi
      exact ⟨hi.2.1,hi.1⟩
     have hq:qgm p = p ++ List.replicate (4 - p.length) 48:=rfl
     have hl7:(w ++ qgm p).length <= 7:=by rw [hq]; simp; omega
     have had:(w ++ qgm p).all (at8 qbd) = true:=by
      rw [hq,List.all_append,List.all_append,hw.2,hp4.2]
      simp [at8,qbd]
     have hne:w ++ qgm p ≠ []:=by simp [hw.1]
     have hlt:qa1 0 (w ++ qgm p) < 9223372036854775808:=by
      have h7:=qqS (w ++ qgm p) 0 0 had (by omega)
      have:10 ^ (0 + (w ++ qgm p).length) <= 10 ^ 7:=Nat.pow_le_pow_right (by omega) (by omega)
      omega
     have hat:=qqO had hne
     rw [if_pos hlt] at hat
     have e7:decide (w.length + (qgm p).length <= 4611686018427387904) = true:=by
      rw [List.length_append] at hl7; simp; omega
     have e8:pOk (w ++ qgm p) = true:=by simp only [pOk]; simp at hl7 ⊢; omega
     rw [qBi w hp4.1]
     simp only [pj_some,if_true,ev_bi_some,e7,e8,hat,nOk,qJO,Bool.and_self,ev_br,cond_true,ev_at,cond_some]
    ·rfl
   ·rfl
def qTI:Nat:=281474976710656
theorem qlc {n:Nat} (h:n <= qTI):n <= big:=Nat.le_trans h (by decide)
theorem qAU {s:Bs} (hl:s.length <= qTI):qtA s = some ((qxa s).1,0,(qxa s).2.1,(qxa s).2.2):=by
 rw [qEN,qsU,qjY (qlc hl),qmA (qlc hl),qxa]
 have e:pOk s = true:=decide_eq_true hl
 simp only [ev_bi_some,ev_br,ev_at,e,Bool.true_and]
 cases qgG s
 ·simp only [cond_false]
  cases ((qbN s).2 == 0) <;> cases ((qbN s).2 == 1) <;> rfl
 ·simp only [cond_true]
  cases Lib.parseIntB 64 s <;> rfl
theorem qAH (s m:Bs):qtt s m = some (preB m s):=by
 rw [qEk,qso,qKr,qzC]
 have e:decide ((s.length:Int) >= (m.length:Int)) = decide (m.length <= s.length):=by
  by_cases h:m.length <= s.length <;> simp [h] <;> omega
 simp only [e,preB,qSg,Int.toNat_natCast]
 cases decide (m.length <= s.length) <;> simp
theorem qBj (s:Bs):qub (s,ES marksS,(marksS.length:Int),0,0,0,[]) = some (qhf (preB · s) (fun _=>0) 1 marksS,s,ES marksS,(marksS.length:Int),((marksS.findIdx (preB · s):Nat):Int),0,0,[]):=by
 rw [quc]
 refine qa8 (hd:=fun n=>(s,ES marksS,(marksS.length:Int),(n:Int),(0:Int),(0:Int),([]:Bs))) (jx:=fun _=>0) (preB · s) 1 (fun n h=>?_) ?_
 ·simp only [qoI,qoJ,qbn h,qBv h,qs0 h,qAH,ev_bi_some,ev_br,ev_at,cond_true,qat h (show marksS.length <= big by decide)]
  cases (preB marksS[n] s) <;> rfl
 ·simp [qoI,qoJ]
theorem qwC {s:Bs} (hne:s ≠ []) (hl:s.length <= qTI):qdM s = some ((qaC s).1,0,(qaC s).2.1,(qaC s).2.2):=by
 have hb:=qlc hl
 rw [qAk,qlz]
 cases s with
 | nil=>exact absurd rfl hne
 | cons c r=>
  have e1:inB (c :: r).length 0 = true:=by simp [inB]
  have e2:qaA (c :: r) 0 = (c.toNat:Int):=by simp [qaA,qd5]
  simp only [e1,e2,w32,qpD,qid,qAP hb,qAQ hb,qgb,qwt,ev_bi_some,ev_br,ev_at,cond_true,qaC]
  rw [show at8 qp1 c = qp1 (c.toNat:Int) from rfl,show at8 qbd c = qbd (c.toNat:Int) from rfl]
  cases qp1 (c.toNat:Int)
  ·cases qbd (c.toNat:Int)
   ·simp only [cond_false,List.length_map,qBj,qbG,qJ7,pj_some]
    by_cases h:marksS.findIdx (preB · (c :: r)) < marksS.length
    ·have hf:=List.find?_eq_getElem?_findIdx (p:=(preB · (c :: r))) (xs:=marksS)
     rw [List.getElem?_eq_getElem h] at hf
     simp only [decide_eq_true h,cond_true,if_true,ev_bi_some,ev_at,qs0 h,hf]
    ·have hf:marksS.find? (preB · (c :: r)) = none:=by
      rw [List.find?_eq_getElem?_findIdx]; exact List.getElem?_eq_none (Nat.not_lt.1 h)
     rw [hf]
     simp [h]
   ·have h2:((c :: r).takeWhile (at8 qeH)).length <= qTI:=Nat.le_trans (qgK _) hl
    simp only [cond_false,cond_true,qAU h2,ev_bi_some,ev_at]
  ·simp only [cond_true]
   have e:decide ((((c :: r).takeWhile (at8 qdv)).length:Int) > 16) = decide (((c :: r).takeWhile (at8 qdv)).length > 16):=by
    by_cases h:((c :: r).takeWhile (at8 qdv)).length > 16 <;> simp [h] <;> omega
   rw [e]
   cases qeK ((c :: r).takeWhile (at8 qdv)) <;> cases decide (((c :: r).takeWhile (at8 qdv)).length > 16) <;> rfl
noncomputable def qrX (o:Option (Nat × qdJ)):DT qCF:=
  .bi (pj 0 o) (fun y0=>.at (([],0,0)))
   (.bi (pj 1 o) (fun y0=>
    .at (([],IntKind.i64.wrap ((sl y0).snd + (↑(Lib.countByte (List.take (gv (qdf (sl y0).fst)).toNat (sl y0).fst) 10):Int)),(gv (qdM (List.drop (gv (qdf (sl y0).fst)).toNat (sl y0).fst))).snd.snd.snd)))
    (.bi (pj 2 o) (fun y0=>.at (((sr y0).snd.snd,0,0)))
     (.bi (pj 3 o) (fun y0=>
      .at (([],IntKind.i64.wrap ((sr y0).snd.fst + (↑(Lib.countByte (List.take (gv (qdf (sr y0).fst)).toNat (sr y0).fst) 10):Int)),(gv (qdM (List.drop (gv (qdf (sr y0).fst)).toNat (sr y0).fst))).snd.snd.snd)))
      (.no))))
theorem qBM (s:Bs):qsA s = .br (decide ((s.length:Int) > 2048)) (.at (([],0,5))) (qrX (qkP (Sum.inl (s,1)))):=rfl
def hdT (s:Bs) (line:Int):List Tok -> qdJ
 | []=>.inl (s,line)
 | acc=>.inr (s,line,ET acc)
theorem qzz:∀ (k:Nat) (s:Bs) (line:Int) (acc:List Tok),s.length < k -> 0 <= line -> line + s.length <= 10000 -> acc.length + s.length <= 10000 ->
  (qrX (qkP (hdT s line acc))).ev = some (ET (qd9 k s line acc).1,(qd9 k s line acc).2.1,(qd9 k s line acc).2.2)
 | 0,s,line,acc,h,_,_,_=>by omega
 | k + 1,s,line,acc,h,h0,h1,h2=>by
  have hl:s.length <= qTI:=Nat.le_trans (show s.length <= 10000 by omega) (by decide)
  have hb:=qAT (qlc hl)
  have hn:=qiP false s
  have hc:(s.take (blk false s)).count 10 <= blk false s:=Nat.le_trans List.count_le_length (by simp; omega)
  have hw:IntKind.i64.wrap (line + (Lib.countByte (s.take (blk false s)) 10:Int)) = line + ((s.take (blk false s)).count 10:Nat):=by
   show IntKind.i64.wrap (line + ((s.take (blk false s)).count 10:Nat)) = _
   exact wrap64 (by omega) (by omega)
  rw [qni]
  simp only [qd9]
  cases hd:s.drop (blk false s) with
  | nil=>
   cases acc with
   | nil=>
    rw [qaj (j:=0)]
    ·rfl
    ·simp only [hdT,qfc,Sum.elim_inl,qjt,hb,ev_bi_some,qbA hn,Int.toNat_natCast,hd,Bool.and_true,ev_br,ev_at,cond_true]; rfl
   | cons a acc=>
    rw [qaj (j:=2)]
    ·rfl
    ·simp only [hdT,qfc,Sum.elim_inr,qju,hb,ev_bi_some,qbA hn,Int.toNat_natCast,hd,Bool.and_true,ev_br,ev_at,cond_true]; rfl
  | cons c r=>
   have hlen:=congrArg List.length hd
   simp only [List.length_drop,List.length_cons] at hlen
   have hx:=qwC (s:=c :: r) (by simp) (by simp only [qTI,List.length_cons] at hl ⊢; omega)
   have he:((c :: r:Bs) == []) = false:=rfl
   cases hz:((qaC (c :: r)).2.2 != 0)
   ·have hz':(qaC (c :: r)).2.2 = 0:=by simpa using hz
    obtain ⟨g1,t,g2⟩:=qc7 hz'
    have g3:(qaC (c :: r)).2.1.length <= (c :: r).length:=by
     have:=congrArg List.length g2
     rw [List.length_append] at this; omega
    have g4:1 <= (qaC (c :: r)).2.1.length:=by
     cases hq:(qaC (c :: r)).2.1 with
     | nil=>exact absurd hq g1
     | cons _ _=>simp
    have hst:(qfc (hdT s line acc)).ev = some (.next (hdT ((c :: r).drop (qaC (c :: r)).2.1.length) (line + ((s.take (blk false s)).count 10:Nat)) (acc ++ [⟨(qaC (c :: r)).1,line + ((s.take (blk false s)).count 10:Nat),(qaC (c :: r)).2.1⟩]))):=by
     cases acc with
     | nil=>
      simp only [hdT,qfc,Sum.elim_inl,qjt,hb,ev_bi_some,qbA hn,qbA g3,Int.toNat_natCast,hd,he,hx,hz,hw,Bool.and_true,ev_br,ev_at,cond_true,cond_false]
      rfl
     | cons a acc=>
      have hr:room ((ET (a :: acc)).length + 1) 32 = true:=qiy (by simp only [List.length_map,lim]; omega)
      simp only [hdT,qfc,Sum.elim_inr,qju,hb,ev_bi_some,qbA hn,qbA g3,Int.toNat_natCast,hd,he,hx,hz,hw,hr,Bool.and_true,ev_br,ev_at,cond_true,cond_false,List.cons_append,List.map_append]
      simp [hdT,Tok.av]
    rw [qau hst,<- qni]
    simp only [hz,cond_false]
    simp only [List.length_cons] at g3
    exact qzz k _ _ _ (by simp only [List.length_drop,List.length_cons]; omega) (by omega) (by simp only [List.length_drop,List.length_cons]; omega) (by simp only [List.length_drop,List.length_cons,List.length_append,List.length_nil]; omega)
   ·cases acc with
    | nil=>
     rw [qaj (j:=1)]
     ·simp (decide:=true) only [qrX,hdT,pj_some,if_true,if_false,ev_bi_none,ev_bi_some,ev_at,sl_inl,hb,gv_some,Int.toNat_natCast,hd,hx,hw,hz,cond_true]; rfl
     ·simp only [hdT,qfc,Sum.elim_inl,qjt,hb,ev_bi_some,qbA hn,Int.toNat_natCast,hd,he,hx,hz,Bool.and_true,ev_br,ev_at,cond_true,cond_false]
    | cons a acc=>
     rw [qaj (j:=3)]
     ·simp (decide:=true) only [qrX,hdT,pj_some,if_true,if_false,ev_bi_none,ev_bi_some,ev_at,sr_inr,hb,gv_some,Int.toNat_natCast,hd,hx,hw,hz,cond_true]; rfl
     ·simp only [hdT,qfc,Sum.elim_inr,qju,hb,ev_bi_some,qbA hn,Int.toNat_natCast,hd,he,hx,hz,Bool.and_true,ev_br,ev_at,cond_true,cond_false]
theorem qAK (s:Bs):qtv s = some (ET (qeJ s).1,(qeJ s).2.1,(qeJ s).2.2):=by
 rw [qEu,qBM,qeJ]
 cases h:decide ((s.length:Int) > 2048)
 ·have h':s.length <= 2048:=by
   have:=of_decide_eq_false h; omega
  simp only [ev_br,cond_false]
  exact qzz (s.length + 1) s 1 [] (by omega) (by omega) (by omega) (by simp; omega)
 ·rfl
end Go.Proofs.H10

/- The program's tokens: what the printed functions come to. -/
import Derived.Test.YthljpgljbpdmjaaGreatDoorD15p_1
import Derived.Test.YthljpgljbpdmjaaGreatDoorD15p_2
import Derived.Test.YthljpgljbpdmjaaGreatDoorD15p_3
import Derived.Test.YthljpgljbpdmjaaGreatDoorD15p_4
import Derived.Test.YthljpgljbpdmjaaGreatDoorD15p_5
import Derived.Test.YthljpgljbpdmjaaGreatDoorD15p_6
import Derived.Test.YthljpgljbpdmjaaGreatDoorD15p_7
import Derived.Test.YthljpgljbpdmjaaGreatDoorD15p_8
import Derived.Test.YthljpgljbpdmjaaGreatDoorD15p_9
import Derived.Test.YthljpgljbpdmjaaGreatDoorD15p_10
import Derived.Test.YthljpgljbpdmjaaGreatDoorD15p_11
import Derived.Test.YthljpgljbpdmjaaGreatDoorTkA
set_option linter.unusedVariables false
set_option linter.unusedSimpArgs false
set_option linter.unnecessarySimpa false
namespace Go.Proofs.H15p
open Go Go.Eng Go.Tk
set_option maxRecDepth 20000
theorem qnJ (x:Int):qjH x = some (qAg x):=by
 rw [qDa,qlL]; by_cases h:x >= 97 <;> simp [qAg,h]
theorem qhT (x:Int):qfC x = some (qhH x):=by
 rw [qDm,qlX]; by_cases h:x >= 48 <;> simp [qhH,h]
theorem qnI (x:Int):qhM x = some (qgX x):=by
 rw [qC9,qlK,qnJ,qhT,qgX]
 cases qAg x <;> cases qhH x <;> simp
theorem qED (x:Int):qrU x = some (qug x):=by
 rw [qJB,qvd,qnI,qug]
 cases qgX x <;> cases (x == 46) <;> simp
theorem qEC (x:Int):qrT x = some (qli x):=by
 rw [qJA,qvc]; rfl
theorem qFd {s:Bs} (hl:s.length <= big):qBC (s,0) = some (0,s,((s.takeWhile (at8 qli)).length:Int)):=by
 rw [qw6]
 refine qlz (fun n h=>?_) ?_
 ·simp only [qqB,qqC,qaI h,qiN h,qcV h,w32,qEC,qah h hl,br_eq,cond_true,sm_some,gv_some,ev_bi_some,ev_br,ev_at,cond_some]
 ·simp [qqB,qqC]
theorem qy3 {s:Bs} (hl:s.length <= big):qhN s = some (s.takeWhile (at8 qli)):=by
 rw [qDc,qlN,qFd hl]
 simp [qbp (qit s),qkT]
theorem qE4 {s:Bs} (hl:s.length <= big):qBx (s,0) = some (0,s,((s.takeWhile (at8 qgX)).length:Int)):=by
 rw [qwR]
 refine qlz (fun n h=>?_) ?_
 ·simp only [qql,qqm,qaI h,qiN h,qcV h,w32,qnI,qah h hl,br_eq,cond_true,sm_some,gv_some,ev_bi_some,ev_br,ev_at,cond_some]
 ·simp [qql,qqm]
theorem qEI {s:Bs} (hl:s.length <= big):qwk s = some (s.takeWhile (at8 qgX)):=by
 rw [qJK,qvm,qE4 hl]
 simp [qbp (qit s),qkT]
theorem qE5 {s:Bs} (hl:s.length <= big):qBy (s,0) = some (0,s,((s.takeWhile (at8 qug)).length:Int)):=by
 rw [qwS]
 refine qlz (fun n h=>?_) ?_
 ·simp only [qqn,qqo,qaI h,qiN h,qcV h,w32,qED,qah h hl,br_eq,cond_true,sm_some,gv_some,ev_bi_some,ev_br,ev_at,cond_some]
 ·simp [qqn,qqo]
theorem qEJ {s:Bs} (hl:s.length <= big):qwl s = some (s.takeWhile (at8 qug)):=by
 rw [qJL,qvn,qE5 hl]
 simp [qbp (qit s),qkT]
theorem qE6 {s:Bs} (hl:s.length <= big):qBz (s,0) = some (0,s,((s.takeWhile (at8 qhH)).length:Int)):=by
 rw [qwT]
 refine qlz (fun n h=>?_) ?_
 ·simp only [qqp,qqq,qaI h,qiN h,qcV h,w32,qhT,qah h hl,br_eq,cond_true,sm_some,gv_some,ev_bi_some,ev_br,ev_at,cond_some]
 ·simp [qqp,qqq]
theorem qrX {s:Bs} (hl:s.length <= big):qhx s = some (s.takeWhile (at8 qhH)):=by
 rw [qJM,qvo,qE6 hl]
 simp [qbp (qit s),qkT]
theorem qFc {s:Bs} (hl:s.length <= big):∀ (k n:Nat),n + k = s.length -> ∃ j,(j = 0 \/ j = 1) /\ qw5 (s,(n:Int)) = some (j,s,((n + blk false (s.drop n):Nat):Int)):=by
 intro k
 induction k using Nat.strongRecOn with
 | _ k ih=>
  intro n hn
  rw [qiQ]
  by_cases h:n < s.length
  ·have hst:(qkM (s,(n:Int))).ev = some (bif spI (s[n].toNat:Int) then .next (s,((n + 1:Nat):Int)) else bif (s[n].toNat:Int) == 35 then .next (s,((n + ((s.drop n).takeWhile (at8 qli)).length:Nat):Int)) else .done 0):=by
    have hw:IntKind.i64.wrap ((n:Int) + (((s.drop n).takeWhile (at8 qli)).length:Int)) = ((n + ((s.drop n).takeWhile (at8 qli)).length:Nat):Int):=by
     have:=qit (p:=at8 qli) (s.drop n)
     simp only [List.length_drop,big] at this hl
     rw [wrap64 (by omega) (by omega)]; simp
    have hd:(s.drop n).length <= big:=by simp; omega
    simp only [qkM,qqA,qaI h,qiN h,qcV h,qah h hl,qbp (Nat.le_of_lt h),Int.toNat_natCast,qy3 hd,hw,ev_bi_some,ev_br,ev_at,cond_true,spI]
    cases ((s[n].toNat:Int) == 32) <;> cases ((s[n].toNat:Int) == 9) <;> cases ((s[n].toNat:Int) == 10) <;> cases ((s[n].toNat:Int) == 35) <;> rfl
   rw [drop_at h]
   simp only [blk]
   cases hs:spI (s[n].toNat:Int)
   ·cases hc:((s[n].toNat:Int) == 35)
    ·rw [hs,hc] at hst
     exact ⟨0,.inl rfl,by rw [qak hst]; simp⟩
    ·rw [hs,hc] at hst
     rw [qaA hst]
     have ht:((s.drop n).takeWhile (at8 qli)).length = ((s.drop (n + 1)).takeWhile (at8 qli)).length + 1:=by
      have:at8 qli s[n] = true:=by
       simp only [at8,qli,bne_iff_ne,ne_eq]
       have:(s[n].toNat:Int) = 35:=by simpa using hc
       omega
      rw [drop_at h,List.takeWhile_cons_of_pos this,List.length_cons]
     have hle:=qit (p:=at8 qli) (s.drop n)
     simp only [List.length_drop] at hle
     obtain ⟨j,h1,h2⟩:=ih (k - ((s.drop n).takeWhile (at8 qli)).length) (by omega) (n + ((s.drop n).takeWhile (at8 qli)).length) (by omega)
     rw [qiQ] at h2
     refine ⟨j,h1,h2.trans ?_⟩
     have e:s.drop (n + ((s.drop n).takeWhile (at8 qli)).length) = (s.drop (n + 1)).drop ((s.drop (n + 1)).takeWhile (at8 qli)).length:=by rw [List.drop_drop,ht]; congr 1; omega
     rw [e,cond_false,cond_true,qAP (s.drop (n + 1)),ht]
     congr 4; omega
   ·rw [hs] at hst
    rw [qaA hst]
    obtain ⟨j,h1,h2⟩:=ih (k - 1) (by omega) (n + 1) (by omega)
    rw [qiQ] at h2
    refine ⟨j,h1,h2.trans ?_⟩
    rw [cond_true]; congr 4; omega
  ·have hn':n = s.length:=by omega
   subst hn'
   refine ⟨1,.inr rfl,?_⟩
   rw [qak (j:=1) (by simp [qkM,qqA])]
   simp [blk]
theorem qy1 {s:Bs} (hl:s.length <= big):qbv s = some ((blk false s:Nat):Int):=by
 obtain ⟨j,h1,h2⟩:=qFc hl s.length 0 (by omega)
 rw [qC8,qlJ]
 simp only [Int.natCast_zero] at h2
 rw [h2]
 rcases h1 with rfl | rfl <;> simp
theorem qy8:qnR = some (ES wordsS):=by
 rw [qDo,qlZ]; rfl
theorem qy7:qnQ = some (ES marksS):=by
 rw [qDn,qlY]; rfl
theorem qEZ {l:List Bs} (hl:l.length <= big) (s:Bs):qwA (ES l,s,(l.length:Int),0) = some (qgE (s == ·) (fun _=>0) 1 l,ES l,s,(l.length:Int),((l.findIdx (s == ·):Nat):Int)):=by
 rw [qwB]
 refine qaz (hd:=fun n=>(ES l,s,(l.length:Int),(n:Int))) (jx:=fun _=>0) (s == ·) 1 (fun n h=>?_) ?_
 ·simp only [qp7,qp8,qaI h,qQR h,qs0 h,ev_br,ev_at,cond_true,qah h hl]
  cases (s == l[n]) <;> rfl
 ·simp [qp7,qp8]
theorem qDM {l:List Bs} (hl:l.length <= big) (s:Bs):qv4 (ES l) s = some (has l s):=by
 rw [qJe,quM,qJg,quT,List.length_map,qEZ hl,qax,has]
 cases l.any (s == ·) <;> simp
theorem qzm (s:Bs):qn2 s = some (qro s):=by
 rw [qDF,qmi,qy8]
 simp only [ev_bi_some,qDM (l:=wordsS) (by decide),ev_at,qro]
theorem qjY {s:Bs} (hl:s.length <= big):qoB s = some (qRH s):=by
 rw [qJJ,qvl,qrX hl]
 cases s with
 | nil=>rfl
 | cons c r=>
  have e1:((c :: r).takeWhile (at8 qhH) == c :: r) = (c :: r).all (at8 qhH):=by
   rw [Bool.eq_iff_iff,beq_iff_eq]; exact qCB
  have e2:qaO (c :: r) 0 = (c.toNat:Int):=by simp [qaO,qd5]
  have e3:((c.toNat:Int) != 48) = (some c != some 48):=by
   rw [Bool.eq_iff_iff,bne_iff_ne,bne_iff_ne,ne_eq,ne_eq,Decidable.not_iff_not,Option.some.injEq,<- UInt8.toNat_inj]
   exact Int.ofNat_inj
  have e4:inB (c :: r).length 0 = true:=by simp [inB]
  simp only [sm_some,gv_some,br_eq,cond_true,e1,e2,e3,e4,qRH,List.head?_cons,cond_some,ev_bi_some,ev_at]
  cases (c :: r).all (at8 qhH) <;> cases (((c :: r).length:Int) == 1) <;> simp
theorem qEt {s:Bs} (hl:s.length <= big):qv7 s [37] = some (bif s.getLast? == some 37 then (s.dropLast,true) else (s,false)):=by
 rw [qJk,quY,qJb,quG,qJd,quL]
 simp only [big] at hl
 cases hs:s with
 | nil=>rfl
 | cons c r=>
  rw [<- hs]
  have h1:1 <= s.length:=by rw [hs]; simp
  have e1:decide ((s.length:Int) >= (([37]:Bs).length:Int)) = true:=by simp; omega
  have e2:IntKind.i64.wrap ((s.length:Int) - (([37]:Bs).length:Int)) = ((s.length - 1:Nat):Int):=by
   rw [wrap64 (by simp; omega) (by simp; omega)]; simp; omega
  have e3:leB ((s.length - 1:Nat):Int) s.length = true:=qbp (by omega)
  have e4:s.take (s.length - 1) = s.dropLast:=by rw [List.dropLast_eq_take]
  have e5:(s.drop (s.length - 1) == [37]) = (s.getLast? == some 37):=by
   have hne:s ≠ []:=by rw [hs]; simp
   have:=List.dropLast_concat_getLast hne
   rw [List.getLast?_eq_some_getLast hne]
   conv=>lhs; lhs; rw [<- this]
   rw [List.drop_append_of_le_length (by simp),show (s.dropLast ++ [s.getLast hne]).length - 1 = s.dropLast.length by simp,List.drop_length]
   simp
  simp only [e1,e2,e3,e4,e5,br_eq,cond_true,ev_bi_some,Int.toNat_natCast,Bool.and_true,ev_br,ev_at]
  cases (s.getLast? == some 37) <;> rfl
theorem qDX (t:Bs):qv5 t [46] = some (Lib.indexByte t 46):=by
 rw [qJf,quS]
 have e1:((([46]:Bs).length:Int) == 0) = false:=rfl
 have e2:((([46]:Bs).length:Int) == 1) = true:=rfl
 have e3:inB ([46]:Bs).length 0 = true:=rfl
 have e4:(qaO [46] 0).toNat.toUInt8 = 46:=rfl
 simp only [e1,e2,e3,e4,br_eq,cond_false,cond_true,ev_bi_some,ev_br,ev_at]
 cases h:(([46]:Bs) == t)
 ·rfl
 ·have:=eq_of_beq h
  subst this; rfl
theorem qnP {t:Bs} (hl:t.length <= big):qnO t [46] = some (qAQ t):=by
 rw [qDl,qlW,qJh,quU,qDX,qRG]
 simp only [big] at hl
 have hdw:=drop_tw (p:=(· != 46)) t
 by_cases h:(t.takeWhile (· != 46)).length < t.length
 ·have e1:decide (((t.takeWhile (· != 46)).length:Int) >= 0) = true:=by simp
  have e2:IntKind.i64.wrap (((t.takeWhile (· != 46)).length:Int) + (([46]:Bs).length:Int)) = (((t.takeWhile (· != 46)).length + 1:Nat):Int):=by
   rw [wrap64 (by simp; omega) (by simp; omega)]; simp
  have e3:leB ((t.takeWhile (· != 46)).length:Int) t.length = true:=qbp (Nat.le_of_lt h)
  have e4:leB (((t.takeWhile (· != 46)).length + 1:Nat):Int) t.length = true:=qbp h
  simp only [ev_bi_some,if_pos h,e1,e2,e3,e4,ev_br,ev_at,cond_true,Int.toNat_natCast,Bool.and_true,qkT]
  unfold qAQ
  rw [<- hdw]
  rw [List.drop_eq_getElem_cons h]
 ·simp only [ev_bi_some,if_neg h]
  unfold qAQ
  have hdn:t.drop (t.takeWhile (· != 46)).length = []:=List.drop_eq_nil_of_le (Nat.not_lt.1 h)
  rw [<- hdw,hdn]
  rfl
theorem qz1 (w:Bs) {p:Bs} (hp:p.length <= 4):qtZ (w,p) = some (0,w,qvE p):=by
 rw [qsk]
 have key:∀ (k:Nat) (p:Bs),p.length + k = 4 -> qap (fun v=>(qg7 v).ev) (w,p) = some (0,w,qvE p):=by
  intro k
  induction k with
  | zero=>
   intro p h
   have:qvE p = p:=by unfold qvE; rw [show 4 - p.length = 0 by omega]; simp
   rw [this,qak (j:=0)]
   have:decide ((p.length:Int) < 4) = false:=by simp; omega
   simp [qg7,qkn,this]
  | succ k ih=>
   intro p h
   have e1:decide ((p.length:Int) < 4) = true:=by simp; omega
   have e2:decide (p.length + 1 <= 4611686018427387904) = true:=by simp; omega
   rw [qaA (v':=(w,p ++ [48])) (by simp only [qg7,qkn,e1,e2,ev_br,ev_at,cond_true]),ih (p ++ [48]) (by simp; omega)]
   have:qvE (p ++ [48]) = qvE p:=by
    unfold qvE
    rw [show 4 - p.length = (4 - (p ++ [48]).length) + 1 by simp; omega,List.replicate_succ,List.append_assoc]; rfl
   rw [this]
 exact key (4 - p.length) p (by omega)
theorem qzl {s:Bs} (hl:s.length <= big):qn1 s = some (qrl s):=by
 rw [qDE,qmh,qEt hl,qrl]
 cases hs:(s.getLast? == some 37)
 ·have h1:(qAQ s).1.length <= big:=by
   have:=qit (p:=(· != 46)) s
   unfold qAQ; split <;> simp <;> omega
  simp only [cond_false,ev_bi_some,qnP hl,qjY h1,Bool.not_false,br_eq,cond_true,ev_br,ev_at]
 ·have hd:s.dropLast.length <= big:=by simp; omega
  have h1:(qAQ s.dropLast).1.length <= big:=by
   have:=qit (p:=(· != 46)) s.dropLast
   unfold qAQ; split <;> simp at * <;> omega
  have h2:(qAQ s.dropLast).2.1.length <= big:=by
   have:=drop_tw (p:=(· != 46)) s.dropLast
   unfold qAQ
   split
   ·simp
   ·rename_i x y e
    have h3:=congrArg List.length (this.trans e)
    simp at h3 hd ⊢
    omega
  simp only [cond_true,ev_bi_some,qnP hd,qjY h1,Bool.not_true,br_eq,cond_false,sm_some,gv_some]
  have h0:(qAQ s.dropLast).2.2 = false -> (qAQ s.dropLast).2.1 = []:=by
   unfold qAQ; split <;> simp
  generalize qAQ s.dropLast = c at h0 h1 h2
  obtain ⟨w,p,pt⟩:=c
  simp only at h0 h1 h2 ⊢
  cases hi:qRH w
  ·simp only [Bool.not_false,cond_true,ev_bi_some,ev_br,ev_at,Bool.true_or]
  ·simp only [Bool.not_true,cond_false,Bool.false_or,ev_bi_some]
   have hpart:(bif pt then bif p == [] then some true else bif decide ((p.length:Int) > 4) then some true else bif sm (qhx p) then bif !gv (qhx p) == p then some true else bif inB p.length (IntKind.i64.wrap ((p.length:Int) - 1)) then some (qaO p (IntKind.i64.wrap ((p.length:Int) - 1)) == 48) else none else none else some false) = some (pt && !qFw p):=by
    cases pt
    ·rfl
    ·cases hp:p with
     | nil=>rfl
     | cons x y=>
      rw [<- hp]
      have hne:p ≠ []:=by rw [hp]; simp
      have h1':1 <= p.length:=by rw [hp]; simp
      have e0:(p == []) = false:=by simpa using hne
      have e1:(p.takeWhile (at8 qhH) == p) = p.all (at8 qhH):=by
       rw [Bool.eq_iff_iff,beq_iff_eq]; exact qCB
      have e2:IntKind.i64.wrap ((p.length:Int) - 1) = ((p.length - 1:Nat):Int):=by
       simp only [big] at h2
       rw [wrap64 (by omega) (by omega)]; omega
      have e3:inB p.length ((p.length - 1:Nat):Int) = true:=qiN (by omega)
      have e4:(qaO p ((p.length - 1:Nat):Int) == 48) = (p.getLast? == some 48):=by
       rw [qcV (by omega),List.getLast?_eq_getElem?,List.getElem?_eq_getElem (by omega),Bool.eq_iff_iff,beq_iff_eq,beq_iff_eq,Option.some.injEq,<- UInt8.toNat_inj]
       exact Int.ofNat_inj
      have e5:decide ((p.length:Int) > 4) = !decide (p.length <= 4):=by
       by_cases h:p.length <= 4 <;> simp [h] <;> omega
      simp only [cond_true,cond_false,e0,qrX h2,sm_some,gv_some,e1,e2,e3,e4,e5,qFw,bne,Bool.true_and]
      cases decide (p.length <= 4) <;> cases p.all (at8 qhH) <;> cases (p.getLast? == some 48) <;> rfl
   rw [hpart]
   simp only [ev_bi_some,ev_br,ev_at]
   cases hg:(pt && !qFw p)
   ·simp only [cond_false]
    have e6:decide ((w.length:Int) > 3) = decide (w.length > 3):=by
     by_cases h:w.length > 3 <;> simp [h] <;> omega
    rw [e6]
    cases h3:decide (w.length > 3)
    ·simp only [cond_false]
     have hw3:w.length <= 3:=by simpa using h3
     have hp4:p.length <= 4 /\ p.all (at8 qhH) = true:=by
      cases pt
      ·rw [h0 rfl]; exact ⟨by simp,rfl⟩
      ·have hb:qFw p = true:=by simpa using hg
       simp only [qFw,Bool.and_eq_true,decide_eq_true_eq] at hb
       exact ⟨hb.2.1,hb.2.2.1⟩
     have hw:w ≠ [] /\ w.all (at8 qhH) = true:=by
      simp only [qRH,Bool.and_eq_true,bne_iff_ne,ne_eq] at hi
      exact ⟨hi.2.1,hi.1⟩
     have hq:qvE p = p ++ List.replicate (4 - p.length) 48:=rfl
     have hl7:(w ++ qvE p).length <= 7:=by rw [hq]; simp; omega
     have had:(w ++ qvE p).all (at8 qhH) = true:=by
      rw [hq,List.all_append,List.all_append,hw.2,hp4.2]
      simp [at8,qhH]
     have hne:w ++ qvE p ≠ []:=by simp [hw.1]
     have hlt:qyg 0 (w ++ qvE p) < 9223372036854775808:=by
      have h7:=qIX (w ++ qvE p) 0 0 had (by omega)
      have:10 ^ (0 + (w ++ qvE p).length) <= 10 ^ 7:=Nat.pow_le_pow_right (by omega) (by omega)
      omega
     have hat:=qRf had hne
     rw [if_pos hlt] at hat
     have e7:decide (w.length + (qvE p).length <= 4611686018427387904) = true:=by
      rw [List.length_append] at hl7; simp; omega
     have e8:pOk (w ++ qvE p) = true:=by simp only [pOk]; simp at hl7 ⊢; omega
     rw [qz1 w hp4.1]
     simp only [pj_some,if_true,ev_bi_some,e7,e8,hat,nOk,q3w,Bool.and_self,ev_br,cond_true,ev_at,cond_some]
    ·rfl
   ·rfl
def q1z:Nat:=281474976710656
theorem qly {n:Nat} (h:n <= q1z):n <= big:=Nat.le_trans h (by decide)
theorem qy2 {s:Bs} (hl:s.length <= q1z):qnK s = some ((qRU s).1,0,(qRU s).2.1,(qRU s).2.2):=by
 rw [qDb,qlM,qjY (qly hl),qzl (qly hl),qRU]
 have e:pOk s = true:=decide_eq_true hl
 simp only [ev_bi_some,ev_br,ev_at,e,Bool.true_and]
 cases qRH s
 ·simp only [cond_false]
  cases ((qrl s).2 == 0) <;> cases ((qrl s).2 == 1) <;> rfl
 ·simp only [cond_true]
  cases Lib.parseIntB 64 s <;> rfl
theorem qEu (s m:Bs):qv8 s m = some (preB m s):=by
 rw [qJl,quZ,qJc,quH]
 have e:decide ((s.length:Int) >= (m.length:Int)) = decide (m.length <= s.length):=by
  by_cases h:m.length <= s.length <;> simp [h] <;> omega
 simp only [e,preB,qZK,Int.toNat_natCast]
 cases decide (m.length <= s.length) <;> simp
theorem qz2 (s:Bs):qoT (s,ES marksS,(marksS.length:Int),0,0,0,[]) = some (qgE (preB · s) (fun _=>0) 1 marksS,s,ES marksS,(marksS.length:Int),((marksS.findIdx (preB · s):Nat):Int),0,0,[]):=by
 rw [qsl]
 refine qaz (hd:=fun n=>(s,ES marksS,(marksS.length:Int),(n:Int),(0:Int),(0:Int),([]:Bs))) (jx:=fun _=>0) (preB · s) 1 (fun n h=>?_) ?_
 ·simp only [qi2,qko,qaI h,qQR h,qs0 h,qEu,ev_bi_some,ev_br,ev_at,cond_true,qah h (show marksS.length <= big by decide)]
  cases (preB marksS[n] s) <;> rfl
 ·simp [qi2,qko]
theorem qzn {s:Bs} (hne:s ≠ []) (hl:s.length <= q1z):qc9 s = some ((qbC s).1,0,(qbC s).2.1,(qbC s).2.2):=by
 have hb:=qly hl
 rw [qDG,qmj]
 cases s with
 | nil=>exact absurd rfl hne
 | cons c r=>
  have e1:inB (c :: r).length 0 = true:=by simp [inB]
  have e2:qaO (c :: r) 0 = (c.toNat:Int):=by simp [qaO,qd5]
  simp only [e1,e2,w32,qnJ,qhT,qEI hb,qEJ hb,qzm,qy7,ev_bi_some,ev_br,ev_at,cond_true,qbC]
  rw [show at8 qAg c = qAg (c.toNat:Int) from rfl,show at8 qhH c = qhH (c.toNat:Int) from rfl]
  cases qAg (c.toNat:Int)
  ·cases qhH (c.toNat:Int)
   ·simp only [cond_false,List.length_map,qz2,qax,qRa,pj_some]
    by_cases h:marksS.findIdx (preB · (c :: r)) < marksS.length
    ·have hf:=List.find?_eq_getElem?_findIdx (p:=(preB · (c :: r))) (xs:=marksS)
     rw [List.getElem?_eq_getElem h] at hf
     simp only [decide_eq_true h,cond_true,if_true,ev_bi_some,ev_at,qs0 h,hf]
    ·have hf:marksS.find? (preB · (c :: r)) = none:=by
      rw [List.find?_eq_getElem?_findIdx]; exact List.getElem?_eq_none (Nat.not_lt.1 h)
     rw [hf]
     simp [h]
   ·have h2:((c :: r).takeWhile (at8 qug)).length <= q1z:=Nat.le_trans (qit _) hl
    simp only [cond_false,cond_true,qy2 h2,ev_bi_some,ev_at]
  ·simp only [cond_true]
   have e:decide ((((c :: r).takeWhile (at8 qgX)).length:Int) > 16) = decide (((c :: r).takeWhile (at8 qgX)).length > 16):=by
    by_cases h:((c :: r).takeWhile (at8 qgX)).length > 16 <;> simp [h] <;> omega
   rw [e]
   cases qro ((c :: r).takeWhile (at8 qgX)) <;> cases decide (((c :: r).takeWhile (at8 qgX)).length > 16) <;> rfl
noncomputable def quE (o:Option (Nat × qc6)):DT qHl:=
  .bi (pj 0 o) (fun y0=>.at (([],0,0)))
   (.bi (pj 1 o) (fun y0=>
    .at (([],IntKind.i64.wrap ((sl y0).snd + (↑(Lib.countByte (List.take (gv (qbv (sl y0).fst)).toNat (sl y0).fst) 10):Int)),(gv (qc9 (List.drop (gv (qbv (sl y0).fst)).toNat (sl y0).fst))).snd.snd.snd)))
    (.bi (pj 2 o) (fun y0=>.at (((sr y0).snd.snd,0,0)))
     (.bi (pj 3 o) (fun y0=>
      .at (([],IntKind.i64.wrap ((sr y0).snd.fst + (↑(Lib.countByte (List.take (gv (qbv (sr y0).fst)).toNat (sr y0).fst) 10):Int)),(gv (qc9 (List.drop (gv (qbv (sr y0).fst)).toNat (sr y0).fst))).snd.snd.snd)))
      (.no))))
theorem qFF (s:Bs):qvb s = .br (decide ((s.length:Int) > 2048)) (.at (([],0,5))) (quE (qk8 (Sum.inl (s,1)))):=rfl
def hdT (s:Bs) (line:Int):List Tok -> qc6
 | []=>.inl (s,line)
 | acc=>.inr (s,line,ET acc)
theorem qCv:∀ (k:Nat) (s:Bs) (line:Int) (acc:List Tok),s.length < k -> 0 <= line -> line + s.length <= 10000 -> acc.length + s.length <= 10000 ->
  (quE (qk8 (hdT s line acc))).ev = some (ET (qln k s line acc).1,(qln k s line acc).2.1,(qln k s line acc).2.2)
 | 0,s,line,acc,h,_,_,_=>by omega
 | k + 1,s,line,acc,h,h0,h1,h2=>by
  have hl:s.length <= q1z:=Nat.le_trans (show s.length <= 10000 by omega) (by decide)
  have hb:=qy1 (qly hl)
  have hn:=qrD false s
  have hc:(s.take (blk false s)).count 10 <= blk false s:=Nat.le_trans List.count_le_length (by simp; omega)
  have hw:IntKind.i64.wrap (line + (Lib.countByte (s.take (blk false s)) 10:Int)) = line + ((s.take (blk false s)).count 10:Nat):=by
   show IntKind.i64.wrap (line + ((s.take (blk false s)).count 10:Nat)) = _
   exact wrap64 (by omega) (by omega)
  rw [qo7]
  simp only [qln]
  cases hd:s.drop (blk false s) with
  | nil=>
   cases acc with
   | nil=>
    rw [qak (j:=0)]
    ·rfl
    ·simp only [hdT,qez,Sum.elim_inl,qjf,hb,ev_bi_some,qbp hn,Int.toNat_natCast,hd,Bool.and_true,ev_br,ev_at,cond_true]; rfl
   | cons a acc=>
    rw [qak (j:=2)]
    ·rfl
    ·simp only [hdT,qez,Sum.elim_inr,qjg,hb,ev_bi_some,qbp hn,Int.toNat_natCast,hd,Bool.and_true,ev_br,ev_at,cond_true]; rfl
  | cons c r=>
   have hlen:=congrArg List.length hd
   simp only [List.length_drop,List.length_cons] at hlen
   have hx:=qzn (s:=c :: r) (by simp) (by simp only [q1z,List.length_cons] at hl ⊢; omega)
   have he:((c :: r:Bs) == []) = false:=rfl
   cases hz:((qbC (c :: r)).2.2 != 0)
   ·have hz':(qbC (c :: r)).2.2 = 0:=by simpa using hz
    obtain ⟨g1,t,g2⟩:=qud hz'
    have g3:(qbC (c :: r)).2.1.length <= (c :: r).length:=by
     have:=congrArg List.length g2
     rw [List.length_append] at this; omega
    have g4:1 <= (qbC (c :: r)).2.1.length:=by
     cases hq:(qbC (c :: r)).2.1 with
     | nil=>exact absurd hq g1
     | cons _ _=>simp
    have hst:(qez (hdT s line acc)).ev = some (.next (hdT ((c :: r).drop (qbC (c :: r)).2.1.length) (line + ((s.take (blk false s)).count 10:Nat)) (acc ++ [⟨(qbC (c :: r)).1,line + ((s.take (blk false s)).count 10:Nat),(qbC (c :: r)).2.1⟩]))):=by
     cases acc with
     | nil=>
      simp only [hdT,qez,Sum.elim_inl,qjf,hb,ev_bi_some,qbp hn,qbp g3,Int.toNat_natCast,hd,he,hx,hz,hw,Bool.and_true,ev_br,ev_at,cond_true,cond_false]
      rfl
     | cons a acc=>
      have hr:room ((ET (a :: acc)).length + 1) 32 = true:=qil (by simp only [List.length_map,lim]; omega)
      simp only [hdT,qez,Sum.elim_inr,qjg,hb,ev_bi_some,qbp hn,qbp g3,Int.toNat_natCast,hd,he,hx,hz,hw,hr,Bool.and_true,ev_br,ev_at,cond_true,cond_false,List.cons_append,List.map_append]
      simp [hdT,Tok.av]
    rw [qaA hst,<- qo7]
    simp only [hz,cond_false]
    simp only [List.length_cons] at g3
    exact qCv k _ _ _ (by simp only [List.length_drop,List.length_cons]; omega) (by omega) (by simp only [List.length_drop,List.length_cons]; omega) (by simp only [List.length_drop,List.length_cons,List.length_append,List.length_nil]; omega)
   ·cases acc with
    | nil=>
     rw [qak (j:=1)]
     ·simp (decide:=true) only [quE,hdT,pj_some,if_true,if_false,ev_bi_none,ev_bi_some,ev_at,sl_inl,hb,gv_some,Int.toNat_natCast,hd,hx,hw,hz,cond_true]; rfl
     ·simp only [hdT,qez,Sum.elim_inl,qjf,hb,ev_bi_some,qbp hn,Int.toNat_natCast,hd,he,hx,hz,Bool.and_true,ev_br,ev_at,cond_true,cond_false]
    | cons a acc=>
     rw [qak (j:=3)]
     ·simp (decide:=true) only [quE,hdT,pj_some,if_true,if_false,ev_bi_none,ev_bi_some,ev_at,sr_inr,hb,gv_some,Int.toNat_natCast,hd,hx,hw,hz,cond_true]; rfl
     ·simp only [hdT,qez,Sum.elim_inr,qjg,hb,ev_bi_some,qbp hn,Int.toNat_natCast,hd,he,hx,hz,Bool.and_true,ev_br,ev_at,cond_true,cond_false]
theorem qEB (s:Bs):qwg s = some (ET (qkS s).1,(qkS s).2.1,(qkS s).2.2):=by
 rw [qJz,qFF,qkS]
 cases h:decide ((s.length:Int) > 2048)
 ·have h':s.length <= 2048:=by
   have:=of_decide_eq_false h; omega
  simp only [ev_br,cond_false]
  exact qCv (s.length + 1) s 1 [] (by omega) (by omega) (by omega) (by simp; omega)
 ·rfl
end Go.Proofs.H15p

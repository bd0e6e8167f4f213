/- The document's expressions (names, Validate): what the printed functions come to. -/
import Derived.Test.YthljpgljbpdmjaaGreatDoorX15pExp
set_option linter.unusedVariables false
set_option linter.unusedSimpArgs false
set_option linter.unnecessarySimpa false
namespace Go.Proofs.H15p
open Go Go.Eng Go.Tk
set_option maxRecDepth 20000
theorem qz7 {s:Bs} (hl:s.length <= big):qoZ (s,0) = some (qgE (fun c=>!at8 qgX c) (fun _=>0) 1 s,s,((s.findIdx (fun c=>!at8 qgX c):Nat):Int)):=by
 rw [qss]
 refine qaz (hd:=fun n=>(s,(n:Int))) (jx:=fun _=>0) _ 1 (fun n h=>?_) ?_
 ·simp only [qi9,qkz,qaI h,qiN h,qcV h,qah h hl,br_eq,cond_true,ev_br,ev_at,cond_some,ev_bi_some,at8,qgX,qAg,qhH]
  have e1:decide ((s[n].toNat:Int) < 97) = !decide ((s[n].toNat:Int) >= 97):=by by_cases h:(s[n].toNat:Int) >= 97 <;> simp [h] <;> omega
  have e2:decide ((s[n].toNat:Int) > 122) = !decide ((s[n].toNat:Int) <= 122):=by by_cases h:(s[n].toNat:Int) <= 122 <;> simp [h] <;> omega
  have e3:decide ((s[n].toNat:Int) < 48) = !decide ((s[n].toNat:Int) >= 48):=by by_cases h:(s[n].toNat:Int) >= 48 <;> simp [h] <;> omega
  have e4:decide ((s[n].toNat:Int) > 57) = !decide ((s[n].toNat:Int) <= 57):=by by_cases h:(s[n].toNat:Int) <= 57 <;> simp [h] <;> omega
  rw [e1,e2,e3,e4,bne]
  cases decide ((s[n].toNat:Int) >= 97) <;> cases decide ((s[n].toNat:Int) <= 122) <;> cases decide ((s[n].toNat:Int) >= 48) <;> cases decide ((s[n].toNat:Int) <= 57) <;> cases ((s[n].toNat:Int) == 95) <;> rfl
 ·simp [qi9,qkz]
theorem qzD (s:Bs):qoh s = some (qFr s):=by
 rw [qD3,qmG]
 cases s with
 | nil=>rfl
 | cons c r=>
  have e0:decide (((c :: r).length:Int) < 1) = false:=by simp only [List.length_cons,decide_eq_false_iff_not]; omega
  have e1:inB (c :: r).length 0 = true:=by simp [inB]
  have e2:qaO (c :: r) 0 = (c.toNat:Int):=by simp [qaO,qd5]
  have e3:decide (((c :: r).length:Int) > 16) = !decide ((c :: r).length <= 16):=by
   by_cases h:(c :: r).length <= 16 <;> simp only [h,decide_true,decide_false,Bool.not_true,Bool.not_false,decide_eq_true_eq,decide_eq_false_iff_not] <;> omega
  simp only [e0,e1,e2,e3,br_eq,cond_false,cond_true,cond_some,ev_bi_some,ev_br,ev_at,qFr,at8,qAg]
  cases h16:decide ((c :: r).length <= 16)
  ·rfl
  ·have hl:(c :: r).length <= big:=Nat.le_trans (of_decide_eq_true h16) (by decide)
   rw [qz7 hl,qax]
   have e4:decide ((c.toNat:Int) < 97) = !decide ((c.toNat:Int) >= 97):=by by_cases h:(c.toNat:Int) >= 97 <;> simp [h] <;> omega
   have e5:decide ((c.toNat:Int) > 122) = !decide ((c.toNat:Int) <= 122):=by by_cases h:(c.toNat:Int) <= 122 <;> simp [h] <;> omega
   rw [e4,e5]
   have e6:(c :: r).any (fun c=>!at8 qgX c) = !(c :: r).all (at8 qgX):=by rw [List.any_eq_not_all_not]; simp
   rw [e6]
   show _ = some (_ && (_ && (c :: r).all (at8 qgX)))
   cases decide ((c.toNat:Int) >= 97) <;> cases decide ((c.toNat:Int) <= 122) <;> cases (c :: r).all (at8 qgX) <;> simp
theorem qzr:qn7 = some (ES wordsS):=by
 rw [qDR,qmt]; rfl
theorem qz8 (s:Bs):qo0 (s,ES wordsS,0) = some (qgE (s == ·) (fun _=>0) 1 wordsS,s,ES wordsS,((wordsS.findIdx (s == ·):Nat):Int)):=by
 rw [qst]
 refine qaz (hd:=fun n=>(s,ES wordsS,(n:Int))) (jx:=fun _=>0) _ 1 (fun n h=>?_) ?_
 ·simp only [qja,qkA,List.length_map,qaI h,qQR h,qs0 h,ev_br,ev_at,cond_true,qah h (show wordsS.length <= big by decide)]
  rw [BEq.comm (a:=wordsS[n]) (b:=s)]
  cases (s == wordsS[n]) <;> rfl
 ·simp [qja,qkA]
theorem qzE (s:Bs):qjO s = some (qro s):=by
 rw [qD4,qmH,qzr]
 simp only [ev_bi_some,qz8,qax,qro,has]
 cases wordsS.any (s == ·) <;> simp
theorem qr6 (s:Bs):qrZ s = some (qkU s):=by
 rw [qJT,qvu,qzD,qzE,q0H]
 cases qFr s <;> simp
theorem qtn:∀ (e:Ex),Wd e -> ∀ (most:Nat),most <= 1000000 -> ∀ n,e.dep <= n -> qcx n e.op e.num e.txt (EX e.args) (most:Int) = some ((min e.nodes (most + 1):Nat):Int):=by
 intro e
 induction e using Ex.ind with
 | h o n s l ih=>
  intro hw most hmost m hm
  have hlen:=hw.len
  simp only [Ex.args] at hlen
  have hwa:∀ x ∈ l,Wd x:=fun x hx=>hw.arg (e:=.mk o n s l) hx
  simp only [Ex.dep] at hm
  cases m with
  | zero=>omega
  | succ k=>
   simp only [qcx,quP,Ex.op,Ex.num,Ex.txt,Ex.args]
   have key:∀ (r i c:Nat),i + r = l.length -> c <= most + 1 -> ∃ q,qoU (qcx k) ((most:Int),(c:Int),(i:Int),o,n,s,EX l) = some (0,(most:Int),((min (c + Ex.nodesL (l.drop i)) (most + 1):Nat):Int),q):=by
    intro r
    induction r with
    | zero=>
     intro i c hi hc
     have:i = l.length:=by omega
     subst this
     refine ⟨((l.length:Int),o,n,s,EX l),?_⟩
     rw [qgQ,qak (j:=0)]
     ·rw [List.drop_length]; simp only [Ex.nodesL,Nat.add_zero]; rw [Nat.min_eq_left hc]
     ·simp [qfS,qg8]
    | succ r ihr=>
     intro i c hi hc
     have hn:i < l.length:=by omega
     by_cases hcm:c <= most
     ·have hx:l[i] ∈ l:=List.getElem_mem hn
      have h2:=Ex.depL_mem hx
      have hwr:IntKind.i64.wrap ((most:Int) - (c:Int)) = ((most - c:Nat):Int):=by
       rw [wrap64 (by omega) (by omega)]; omega
      have hg:=ih l[i] hx (hwa _ hx) (most - c) (by omega) k (by omega)
      have hpos:=Ex.nodes_pos l[i]
      have hws:IntKind.i64.wrap ((c:Int) + ((min l[i].nodes (most - c + 1):Nat):Int)) = ((c + min l[i].nodes (most - c + 1):Nat):Int):=by
       rw [wrap64 (by omega) (by omega)]; omega
      have hst:(qfS (qcx k) ((most:Int),(c:Int),(i:Int),o,n,s,EX l)).ev = some (.next ((most:Int),((c + min l[i].nodes (most - c + 1):Nat):Int),((i + 1:Nat):Int),o,n,s,EX l)):=by
       have e1:decide ((c:Int) <= (most:Int)) = true:=by simp; omega
       simp only [qfS,qg8,List.length_map,qaI hn,e1,br_eq,cond_true,ev_bi_some,ev_br,ev_at,okX hn,qx0 hn,qx1 hn,qx2 hn,qx3 hn,hwr,hg,hws,qah hn hlen]
      obtain ⟨q,hq⟩:=ihr (i + 1) (c + min l[i].nodes (most - c + 1)) (by omega) (by omega)
      refine ⟨q,?_⟩
      rw [qgQ] at hq ⊢
      rw [qaA hst,hq,drop_at hn]
      simp only [Ex.nodesL]
      congr 4
      omega
     ·refine ⟨((i:Int),o,n,s,EX l),?_⟩
      rw [qgQ,qak (j:=0)]
      ·have:min (c + Ex.nodesL (l.drop i)) (most + 1) = c:=by omega
       rw [this]
      ·have e1:decide ((c:Int) <= (most:Int)) = false:=by simp; omega
       simp only [qfS,qg8,List.length_map,qaI hn,e1,br_eq,cond_true,cond_false,ev_bi_some,ev_br,ev_at]
   obtain ⟨q,hq⟩:=key l.length 0 1 (by omega) (by omega)
   have hq':qoU (qcx k) ((most:Int),1,0,o,n,s,EX l) = some (0,(most:Int),((min (1 + Ex.nodesL (l.drop 0)) (most + 1):Nat):Int),q):=hq
   rw [hq']
   simp only [pj_some,if_true,ev_bi_some,ev_at,List.drop_zero,Ex.nodes]
   congr 3; omega
theorem qzt {e:Ex} (hw:Wd e) {most:Nat} (hm:most <= 1000000):qn9 e.op e.num e.txt (EX e.args) (most:Int) = some (decide (e.nodes > most)):=by
 have hc:qtJ e.op e.num e.txt (EX e.args) (most:Int) = some ((min e.nodes (most + 1):Nat):Int):=qb0 (qtn e hw most hm)
 rw [qDS,qmu,hc]
 simp only [ev_bi_some,ev_at]
 congr 1
 by_cases h:e.nodes > most <;> simp [h] <;> omega
theorem qzs {e:Ex} (h:e.nodes <= big):qn8 e.op e.num e.txt (EX e.args) = some (e.dep:Int):=by
 refine qb0 (n:=e.dep) ?_
 induction e using Ex.ind with
 | h o n s l ih=>
  intro m hm
  cases m with
  | zero=>simp [Ex.dep] at hm
  | succ k=>
   have hdl:=Ex.dep_le (.mk o n s l)
   simp only [Ex.op,Ex.num,Ex.txt,Ex.args,qeo,quN]
   simp only [Ex.nodes,Ex.dep] at h hm hdl
   have hll:=Ex.nodesL_len l
   have key:qt4 (qeo k) (0,0,o,n,s,EX l) = some (0,((l.foldl (fun a x=>max a (Ex.dep x)) 0:Nat):Int),(l.length:Int),o,n,s,EX l):=by
    rw [qsm]
    refine qpc (l:=l) (hd:=fun i a=>(((a:Nat):Int),(i:Int),o,n,s,EX l)) (f:=fun a x=>max a (Ex.dep x)) (jx:=fun _=>0) (inv:=fun _ _=>True) trivial (fun _ _ _ _=>trivial) ?_ ?_
    ·intro i a hn _
     have hx:l[i] ∈ l:=List.getElem_mem hn
     have h1:=Ex.nodesL_mem hx
     have h2:=Ex.depL_mem hx
     have hg:=ih l[i] hx (by omega) k (by omega)
     have hm:(if (l[i].dep:Int) > (a:Int) then (l[i].dep:Int) else (a:Int)) = ((max a l[i].dep:Nat):Int):=by
      by_cases hc:a < l[i].dep
      ·rw [if_pos (by omega),Nat.max_eq_right (by omega)]
      ·rw [if_neg (by omega),Nat.max_eq_left (by omega)]
     simp only [qi4,qkp,List.length_map,qaI hn,okX hn,qx0 hn,qx1 hn,qx2 hn,qx3 hn,hg,ev_br,ev_at,ev_bi_some,cond_true,hm,qah hn (show l.length <= big by omega)]
    ·intro a _
     simp [qi4,qkp]
   rw [key,Ex.dep_fold]
   have hw:IntKind.i64.wrap (((max 0 (Ex.depL l):Nat):Int) + 1) = ((Ex.depL l + 1:Nat):Int):=by
    simp only [big] at h
    rw [Nat.zero_max,wrap64 (by omega) (by omega)]; simp
   simp only [pj_some,if_true,ev_bi_some,ev_at,Ex.dep,hw]
theorem qEL (op:Int):qwo op = some (qaV op):=by
 rw [qJR,qvs]
 simp only [br_eq,cond_some,ev_bi_some,ev_br,ev_at,qaV]
 by_cases h0:op < 1
 ·simp [h0]; rw [if_neg (by omega),if_neg (by omega),if_neg (by omega),if_neg (by omega)]
 by_cases h1:op > 19
 ·simp [h0,h1]; rw [if_neg (by omega),if_neg (by omega),if_neg (by omega),if_neg (by omega)]
 by_cases h2:op <= 4
 ·have e:op = 1 \/ op = 2 \/ op = 3 \/ op = 4:=by omega
  rw [if_pos e]; simp [h0,h1,h2]
 by_cases h3:op = 9
 ·subst h3; simp
 by_cases h4:op = 16
 ·subst h4; simp
 by_cases h5:op = 19
 ·subst h5; simp
 simp [h0,h1,h2,h3,h4,h5]
 rw [if_neg (by omega),if_pos (by omega)]
theorem qzF (op:Int):qoi op = some (qgc op):=by
 rw [qD5,qmI]
 simp only [ev_br,ev_at,cond_some,qgc]
 by_cases h1:op = 1
 ·simp [h1]
 by_cases h2:op = 2
 ·simp [h2]
 by_cases h3:op = 3
 ·simp [h3]
 have e1:(op == 1) = false:=by simpa using h1
 have e2:(op == 2) = false:=by simpa using h2
 have e3:(op == 3) = false:=by simpa using h3
 simp [h1,h2,h3,e1,e2,e3]
theorem qzv {e:Ex} (h:e.nodes <= big):qtK e.op e.num e.txt (EX e.args) = some (e.allX qaF):=by
 refine qb0 (n:=e.dep) ?_
 induction e using Ex.ind with
 | h o n s l ih=>
  intro m hm
  cases m with
  | zero=>simp [Ex.dep] at hm
  | succ k=>
   have hal:=Ex.allX_eq qaF (.mk o n s l)
   show qdB (k + 1) o n s (EX l) = some ((Ex.mk o n s l).allX qaF)
   simp only [qdB,quQ]
   simp only [Ex.nodes,Ex.dep] at h hm
   have hll:=Ex.nodesL_len l
   have key:qif (qdB k) (0,o,n,s,EX l) = some (qgE (fun x=>!Ex.allX qaF x) (fun _=>0) 1 l,((l.findIdx (fun x=>!Ex.allX qaF x):Nat):Int),o,n,s,EX l):=by
    rw [qsn]
    refine qaz (hd:=fun i=>((i:Int),o,n,s,EX l)) (jx:=fun _=>0) _ 1 (fun i hn=>?_) ?_
    ·have hx:l[i] ∈ l:=List.getElem_mem hn
     have h1:=Ex.nodesL_mem hx
     have h2:=Ex.depL_mem hx
     have hg:=ih l[i] hx (by omega) k (by omega)
     simp only [qi5,qkt,List.length_map,qaI hn,okX hn,qx0 hn,qx1 hn,qx2 hn,qx3 hn,hg,ev_br,ev_at,ev_bi_some,cond_true,qah hn (show l.length <= big by omega)]
     cases l[i].allX qaF <;> rfl
    ·simp [qi5,qkt]
   rw [key,hal,qax,qEL,qzF,Ex.args]
   have e1:decide (n < 0) = !decide (n >= 0):=by by_cases h:n >= 0 <;> simp [h] <;> omega
   have e2:decide (n > qgc o) = !decide (n <= qgc o):=by by_cases h:n <= qgc o <;> simp [h] <;> omega
   have e3:((l.length:Int) == qaV o) = (qaV o == (l.length:Int)):=by rw [Bool.eq_iff_iff,beq_iff_eq,beq_iff_eq]; exact eq_comm
   have hna:l.any (fun x=>!Ex.allX qaF x) = !l.all (Ex.allX qaF):=by
    rw [List.any_eq_not_all_not]; simp
   simp only [ev_bi_some,ev_br,ev_at,List.length_map,bne,e3,hna,pj_some]
   rw [e1,e2]
   show _ = some ((qaV o == (l.length:Int) && (decide (n >= 0) && (decide (n <= qgc o) && (s == [] || o == 4)))) && _)
   cases (qaV o == (l.length:Int)) <;> cases decide (n >= 0) <;> cases decide (n <= qgc o) <;> cases (s == []) <;> cases (o == 4) <;> cases l.all (Ex.allX qaF) <;> rfl
theorem qFg {l:List Bs} (hl:l.length <= big) (s:Bs):qBE (ES l,s,0) = some (0,ES l,s,(((l.takeWhile (qbL · s)).length:Nat):Int)):=by
 rw [qxa]
 refine qcG (fun n=>(ES l,s,(n:Int))) (l.takeWhile (qbL · s)).length 0 0 (Nat.zero_le _) (fun m _ hm=>?_) ?_
 ·have h:=Nat.lt_of_lt_of_le hm (qit l)
  have:=q0F h hm
  simp only [qkN,qjh,List.length_map,qaI h,qQR h,qs0 h,br_eq,cond_true,ev_bi_some,ev_br,ev_at,this,qah h hl]
 ·by_cases h:(l.takeWhile (qbL · s)).length < l.length
  ·have:=qPF h
   simp only [qkN,qjh,List.length_map,qaI h,qQR h,qs0 h,br_eq,cond_true,ev_bi_some,ev_br,ev_at,this,cond_false]
  ·have h2:=qit (p:=(qbL · s)) l
   simp only [qkN,qjh,List.length_map,qVE h,br_eq,cond_false,ev_bi_some,ev_br,ev_at]
theorem qza {l:List Bs} (hl:l.length <= 1000000) (s:Bs):qgk (ES l) s = some (ES (qrc l s)):=by
 have hb:l.length <= big:=Nat.le_trans hl (by decide)
 rw [qDt,ql6,qFg hb]
 have hk:=qit (p:=(qbL · s)) l
 unfold qrc
 generalize hkk:(l.takeWhile (qbL · s)).length = k at hk
 simp only [pj_some,if_true,ev_bi_some,List.length_map,Int.toNat_natCast]
 have hr:∀ n,n <= 2000000 -> room n 16 = true:=fun n hn=>qil (by simp only [lim]; omega)
 by_cases hlt:k < l.length
 ·simp only [qaI hlt,qQR hlt,qs0 hlt,br_eq,cond_true,ev_bi_some,ev_br]
  rw [List.getElem?_eq_getElem hlt]
  cases hq:(l[k] == s)
  ·have hne:¬ l[k] = s:=by simpa using hq
   have hD:decide ((List.drop k (ES l)).length = 0) = false:=by simp; omega
   have hD':decide ((List.drop k (ES l)).length ≠ 0) = true:=by simp; omega
   simp only [Option.some.injEq,hne,if_false,cond_false,qbp (Nat.le_of_lt hlt),Bool.and_true,Bool.true_and,Bool.false_and,Bool.and_self,cond_true,hD,hD',decide_true]
   by_cases hk0:k = 0
   ·subst hk0
    rw [hr _ (by simp; omega)]
    simp
   ·have hTl:(List.take k (ES l)).length = k:=by rw [List.length_take,List.length_map]; omega
    have hT:decide ((List.take k (ES l)).length = 0) = false:=by rw [hTl]; simpa using hk0
    have hT':decide ((List.take k (ES l)).length ≠ 0) = true:=by rw [hTl]; simpa using hk0
    simp only [hT,hT',Bool.true_and,Bool.false_and,cond_false]
    rw [hr _ (by simp; omega),hr _ (by simp; omega),hr _ (by simp; omega)]
    simp [List.map_append,List.map_take,List.map_drop]
  ·have hqe:l[k] = s:=by simpa using hq
   simp [hqe]
 ·have hke:k = l.length:=by omega
  have hD:decide ((List.drop k (ES l)).length = 0) = true:=by simp; omega
  simp only [qVE hlt,br_eq,cond_false,ev_bi_some,ev_br,qbp hk,Bool.and_true,Bool.true_and,cond_true,hD,decide_true]
  rw [List.getElem?_eq_none (by omega)]
  simp only [reduceCtorEq,if_false]
  by_cases hk0:k = 0
  ·have:l = []:=by cases l with
    | nil=>rfl
    | cons _ _=>simp at hke; omega
   subst this; subst hk0; rfl
  ·have hTl:(List.take k (ES l)).length = k:=by rw [List.length_take,List.length_map]; omega
   have hT:decide ((List.take k (ES l)).length = 0) = false:=by rw [hTl]; simpa using hk0
   have hT':decide ((List.take k (ES l)).length ≠ 0) = true:=by rw [hTl]; simpa using hk0
   simp only [hT,hT',Bool.true_and,cond_false,ev_br]
   rw [hr _ (by simp; omega),hr _ (by simp; omega)]
   have e1:List.take k (ES l) = ES l:=List.take_of_length_le (by simp; omega)
   have e2:List.take k l = l:=List.take_of_length_le (by omega)
   have e3:List.drop k l = []:=List.drop_eq_nil_of_le (by omega)
   simp [e1,e2,e3]
def hdI (f:Nat) (i:Int) (L:List AV) (j:Int) (o n:Int) (s:Bs) (A:List AV) (acc:List Bs):qbQ:=match f with
 | 0=>.inl (i,L,j,o,n,s,A,ES acc)
 | 1=>.inr (.inl (i,L,j,o,n,s,A))
 | _=>.inr (.inr (ES acc,i,L,j,o,n,s,A))
def hdO (f:Nat) (i:Int) (o n:Int) (s:Bs) (A:List AV) (acc:List Bs):qbH:=match f with
 | 0=>.inl (i,o,n,s,A,ES acc)
 | 1=>.inr (.inl (i,o,n,s,A))
 | _=>.inr (.inr (ES acc,i,o,n,s,A))
def fOk (f:Nat) (acc:List Bs):Prop:=f <= 2 /\ (f = 1 -> acc = [])
theorem qvH {L:List Bs} (hL:L.length <= 1000000) (i o n:Int) (s:Bs) (A:List AV):∀ (r j f:Nat) (acc:List Bs),j + r = L.length -> fOk f acc -> acc.length + r <= 1000000 ->
  qcE (hdI f i (ES L) (j:Int) o n s A acc) = some (if r = 0 then f else 2,hdI (if r = 0 then f else 2) i (ES L) (L.length:Int) o n s A ((L.drop j).foldl qrc acc))
 | 0,j,f,acc,hj,hf,_=>by
  have:j = L.length:=by omega
  subst this
  obtain ⟨h1,h2⟩:=hf
  rw [qj7,List.drop_length]
  simp only [if_true,List.foldl_nil]
  match f,h1 with
  | 0,_=>rw [qak (j:=0)]; simp [hdI,qcP,qkq]
  | 1,_=>rw [qak (j:=1)]; simp [hdI,qcP,qkr]
  | 2,_=>rw [qak (j:=2)]; simp [hdI,qcP,qks]
 | r + 1,j,f,acc,hj,hf,hb=>by
  have hn:j < L.length:=by omega
  obtain ⟨h1,h2⟩:=hf
  have hst:(qcP (hdI f i (ES L) (j:Int) o n s A acc)).ev = some (.next (hdI 2 i (ES L) ((j + 1:Nat):Int) o n s A (qrc acc L[j]))):=by
   have hi:=qza (l:=acc) (by omega) L[j]
   match f,h1 with
   | 0,_=>simp only [hdI,qcP,Sum.elim_inl,qkq,List.length_map,qaI hn,qQR hn,qs0 hn,hi,ev_br,ev_at,ev_bi_some,cond_true,qah hn (Nat.le_trans hL (by decide))]
   | 1,_=>
    have:=h2 rfl
    subst this
    have hi':qgk [] L[j] = some (ES (qrc [] L[j])):=hi
    simp only [hdI,qcP,Sum.elim_inl,Sum.elim_inr,qkr,List.length_map,qaI hn,qQR hn,qs0 hn,hi',ev_br,ev_at,ev_bi_some,cond_true,qah hn (Nat.le_trans hL (by decide))]
   | 2,_=>simp only [hdI,qcP,Sum.elim_inr,qks,List.length_map,qaI hn,qQR hn,qs0 hn,hi,ev_br,ev_at,ev_bi_some,cond_true,qah hn (Nat.le_trans hL (by decide))]
  have hle:=qBt acc L[j]
  have ih:=qvH hL i o n s A r (j + 1) 2 (qrc acc L[j]) (by omega) ⟨Nat.le_refl _,by omega⟩ (by omega)
  rw [qj7] at ih ⊢
  rw [qaA hst,ih,drop_at hn]
  have:(if r = 0 then 2 else 2) = 2:=by split <;> rfl
  rw [this,if_neg (show ¬ r + 1 = 0 by omega),List.foldl_cons]
noncomputable def qLD (y:Option (Nat × qbH)):DT qm7:=
 .bi (pj 0 y) (fun y0=>.at ((sl y0).snd.snd.snd.snd.snd)) (.bi (pj 1 y) (fun _=>.at ([])) (.bi (pj 2 y) (fun y0=>.at ((sr (sr y0)).fst)) .no))
theorem qLE (G:Int -> Int -> List UInt8 -> List AV -> Option qm7) (x0 x1:Int) (x2:Bs) (x3:List AV) :
  quO G x0 x1 x2 x3 = .br (x0 == 4) (qLD (qdT G (hdO 0 0 x0 x1 x2 x3 [x2]))) (qLD (qdT G (hdO 1 0 x0 x1 x2 x3 []))):=rfl
theorem qtm:∀ (e:Ex),e.nodes <= 1000000 -> ∀ n,e.dep <= n -> qcw n e.op e.num e.txt (EX e.args) = some (ES e.names):=by
 intro e
 induction e using Ex.ind with
 | h o n s l ih=>
  intro h m hm
  simp only [Ex.dep] at hm
  have hll:=Ex.nodesL_len l
  simp only [Ex.nodes] at h
  cases m with
  | zero=>omega
  | succ k=>
   have key:∀ (r i f:Nat) (acc:List Bs),i + r = l.length -> fOk f acc -> acc.length + Ex.nodesL (l.drop i) <= 1000000 -> (qLD (qdT (qcw k) (hdO f (i:Int) o n s (EX l) acc))).ev = some (ES (Ex.namesL acc (l.drop i))):=by
    intro r
    induction r with
    | zero=>
     intro i f acc hi hf _
     have:i = l.length:=by omega
     subst this
     obtain ⟨h1,h2⟩:=hf
     rw [qj6,List.drop_length]
     match f,h1 with
     | 0,_=>
      rw [qak (j:=0)]
      ·rfl
      ·simp [hdO,qbj,qeR]
     | 1,_=>
      have:=h2 rfl
      subst this
      rw [qak (j:=1)]
      ·rfl
      ·simp [hdO,qbj,qeS]
     | 2,_=>
      rw [qak (j:=2)]
      ·rfl
      ·simp [hdO,qbj,qeT]
    | succ r ihr=>
     intro i f acc hi hf hb
     have hn:i < l.length:=by omega
     have hx:l[i] ∈ l:=List.getElem_mem hn
     have h1:=Ex.nodesL_mem hx
     have h2:=Ex.depL_mem hx
     have hg:=ih l[i] hx (by omega) k (by omega)
     have hnl:=qpi l[i]
     rw [drop_at hn] at hb ⊢
     simp only [Ex.nodesL] at hb
     have hin:=qvH (L:=l[i].names) (by omega) (i:Int) o n s (EX l) l[i].names.length 0 f acc (by omega) hf (by omega)
     rw [List.drop_zero] at hin
     have hfl:=qtS l[i].names acc
     generalize hf2:(if l[i].names.length = 0 then f else 2) = f2 at hin
     have hf2ok:fOk f2 (l[i].names.foldl qrc acc):=by
      rw [<- hf2]
      by_cases hz:l[i].names.length = 0
      ·rw [if_pos hz]
       have:l[i].names = []:=List.length_eq_zero_iff.1 hz
       rw [this]; exact hf
      ·rw [if_neg hz]; exact ⟨Nat.le_refl _,by omega⟩
     have hst:(qbj (qcw k) (hdO f (i:Int) o n s (EX l) acc)).ev = some (.next (hdO f2 ((i + 1:Nat):Int) o n s (EX l) (l[i].names.foldl qrc acc))):=by
      obtain ⟨hf1,_⟩:=hf
      obtain ⟨hf3,_⟩:=hf2ok
      have hin':qcE (hdI f (i:Int) (ES l[i].names) 0 o n s (EX l) acc) = some (f2,hdI f2 (i:Int) (ES l[i].names) (l[i].names.length:Int) o n s (EX l) (l[i].names.foldl qrc acc)):=hin
      have hw:=qah hn (show l.length <= big by simp only [big]; omega)
      match f,hf1,f2,hf3 with
      | 0,_,0,_=>simp (decide:=true) only [hdO,hdI,qbj,Sum.elim_inl,qeR,List.length_map,qaI hn,okX hn,qx0 hn,qx1 hn,qx2 hn,qx3 hn,hg,ev_br,ev_at,ev_bi_some,ev_bi_none,cond_true,pj_some,if_true,if_false,sl_inl,sr_inr,hw] at hin' ⊢; simp (decide:=true) only [hin',pj_some,if_true,if_false,ev_bi_some,ev_bi_none,ev_at,sl_inl,sr_inr,hw]
      | 0,_,1,_=>simp (decide:=true) only [hdO,hdI,qbj,Sum.elim_inl,qeR,List.length_map,qaI hn,okX hn,qx0 hn,qx1 hn,qx2 hn,qx3 hn,hg,ev_br,ev_at,ev_bi_some,ev_bi_none,cond_true,pj_some,if_true,if_false,sl_inl,sr_inr,hw] at hin' ⊢; simp (decide:=true) only [hin',pj_some,if_true,if_false,ev_bi_some,ev_bi_none,ev_at,sl_inl,sr_inr,hw]
      | 0,_,2,_=>simp (decide:=true) only [hdO,hdI,qbj,Sum.elim_inl,qeR,List.length_map,qaI hn,okX hn,qx0 hn,qx1 hn,qx2 hn,qx3 hn,hg,ev_br,ev_at,ev_bi_some,ev_bi_none,cond_true,pj_some,if_true,if_false,sl_inl,sr_inr,hw] at hin' ⊢; simp (decide:=true) only [hin',pj_some,if_true,if_false,ev_bi_some,ev_bi_none,ev_at,sl_inl,sr_inr,hw]
      | 1,_,0,_=>simp (decide:=true) only [hdO,hdI,qbj,Sum.elim_inl,Sum.elim_inr,qeS,List.length_map,qaI hn,okX hn,qx0 hn,qx1 hn,qx2 hn,qx3 hn,hg,ev_br,ev_at,ev_bi_some,ev_bi_none,cond_true,pj_some,if_true,if_false,sl_inl,sr_inr,hw] at hin' ⊢; simp (decide:=true) only [hin',pj_some,if_true,if_false,ev_bi_some,ev_bi_none,ev_at,sl_inl,sr_inr,hw]
      | 1,_,1,_=>simp (decide:=true) only [hdO,hdI,qbj,Sum.elim_inl,Sum.elim_inr,qeS,List.length_map,qaI hn,okX hn,qx0 hn,qx1 hn,qx2 hn,qx3 hn,hg,ev_br,ev_at,ev_bi_some,ev_bi_none,cond_true,pj_some,if_true,if_false,sl_inl,sr_inr,hw] at hin' ⊢; simp (decide:=true) only [hin',pj_some,if_true,if_false,ev_bi_some,ev_bi_none,ev_at,sl_inl,sr_inr,hw]
      | 1,_,2,_=>simp (decide:=true) only [hdO,hdI,qbj,Sum.elim_inl,Sum.elim_inr,qeS,List.length_map,qaI hn,okX hn,qx0 hn,qx1 hn,qx2 hn,qx3 hn,hg,ev_br,ev_at,ev_bi_some,ev_bi_none,cond_true,pj_some,if_true,if_false,sl_inl,sr_inr,hw] at hin' ⊢; simp (decide:=true) only [hin',pj_some,if_true,if_false,ev_bi_some,ev_bi_none,ev_at,sl_inl,sr_inr,hw]
      | 2,_,0,_=>simp (decide:=true) only [hdO,hdI,qbj,Sum.elim_inr,qeT,List.length_map,qaI hn,okX hn,qx0 hn,qx1 hn,qx2 hn,qx3 hn,hg,ev_br,ev_at,ev_bi_some,ev_bi_none,cond_true,pj_some,if_true,if_false,sl_inl,sr_inr,hw] at hin' ⊢; simp (decide:=true) only [hin',pj_some,if_true,if_false,ev_bi_some,ev_bi_none,ev_at,sl_inl,sr_inr,hw]
      | 2,_,1,_=>simp (decide:=true) only [hdO,hdI,qbj,Sum.elim_inr,qeT,List.length_map,qaI hn,okX hn,qx0 hn,qx1 hn,qx2 hn,qx3 hn,hg,ev_br,ev_at,ev_bi_some,ev_bi_none,cond_true,pj_some,if_true,if_false,sl_inl,sr_inr,hw] at hin' ⊢; simp (decide:=true) only [hin',pj_some,if_true,if_false,ev_bi_some,ev_bi_none,ev_at,sl_inl,sr_inr,hw]
      | 2,_,2,_=>simp (decide:=true) only [hdO,hdI,qbj,Sum.elim_inr,qeT,List.length_map,qaI hn,okX hn,qx0 hn,qx1 hn,qx2 hn,qx3 hn,hg,ev_br,ev_at,ev_bi_some,ev_bi_none,cond_true,pj_some,if_true,if_false,sl_inl,sr_inr,hw] at hin' ⊢; simp (decide:=true) only [hin',pj_some,if_true,if_false,ev_bi_some,ev_bi_none,ev_at,sl_inl,sr_inr,hw]
     have ihn:=ihr (i + 1) f2 (l[i].names.foldl qrc acc) (by omega) hf2ok (by omega)
     rw [qj6] at ihn ⊢
     rw [qaA hst,ihn]
     simp only [Ex.namesL]
   show qcw (k + 1) o n s (EX l) = some (ES (Ex.mk o n s l).names)
   simp only [qcw,qLE,ev_br,Ex.names]
   by_cases ho:o = 4
   ·have e:(o == 4) = true:=by simpa using ho
    rw [e,cond_true,if_pos ho]
    exact key l.length 0 0 [s] (by omega) ⟨by omega,by omega⟩ (by simp; omega)
   ·have e:(o == 4) = false:=by simpa using ho
    rw [e,cond_false,if_neg ho]
    exact key l.length 0 1 [] (by omega) ⟨by omega,fun _=>rfl⟩ (by simp; omega)
theorem qzu {e:Ex} (h:e.nodes <= 1000000):qtI e.op e.num e.txt (EX e.args) = some (ES e.names):=qb0 (qtm e h)
theorem qE8 {l:List Bs} (hl:l.length <= big):qwW (ES l,0) = some (qgE (fun s=>!qkU s) (fun _=>0) 1 l,ES l,((l.findIdx (fun s=>!qkU s):Nat):Int)):=by
 rw [qwX]
 refine qaz (hd:=fun i=>(ES l,(i:Int))) (jx:=fun _=>0) _ 1 (fun i hn=>?_) ?_
 ·simp only [qqu,qqv,List.length_map,qaI hn,qQR hn,qs0 hn,qr6,ev_br,ev_at,ev_bi_some,cond_true,qah hn hl]
  cases qkU l[i] <;> rfl
 ·simp [qqu,qqv]
theorem qEM {e:Ex} (hw:Wd e):qwp e.op e.num e.txt (EX e.args) = some (qbO e):=by
 have hG:=qzt hw (most:=64) (by omega)
 rw [qJS,qvt,show (64:Int) = ((64:Nat):Int) from rfl,hG,qbO]
 by_cases h64:e.nodes > 64
 ·simp [h64]
 ·have hb:e.nodes <= big:=by simp only [big]; omega
  have hs:e.nodes <= 1000000:=by omega
  have hnl:=qpi e
  have hna:e.names.any (fun s=>!qkU s) = !e.allX qbf:=by
   rw [<- qxr,List.any_eq_not_all_not]; simp
  rw [qzs hb,qzv hb,qzu hs]
  have e2:decide (gv (some (e.dep:Int)) > 8) = decide (e.dep > 8):=by
   show decide ((e.dep:Int) > 8) = _
   by_cases h:e.dep > 8 <;> simp [h] <;> omega
  have e3:decide (e.nodes > 64) = false:=by simpa using h64
  have hvl:=qE8 (show e.names.length <= big by simp only [big]; omega)
  rw [qax,hna] at hvl
  simp only [ev_bi_some,br_eq,sm_some,e2,e3,cond_false]
  cases decide (e.dep > 8) <;> cases e.allX qaF <;> cases hn:e.allX qbf <;> simp [hvl,hn]
end Go.Proofs.H15p

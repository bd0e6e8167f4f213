/- The document's expressions (names, Validate): what the printed functions come to. -/
import Derived.Test.YtgpbobelbcbcaaaGreatDoorX10Exp
set_option linter.unusedVariables false
set_option linter.unusedSimpArgs false
set_option linter.unnecessarySimpa false
namespace Go.Proofs.H10
open Go Go.Eng Go.Tk
set_option maxRecDepth 20000
theorem qwY {s:Bs} (hl:s.length <= big):qng (s,0) = some (qhf (fun c=>!at8 qdv c) (fun _=>0) 1 s,s,((s.findIdx (fun c=>!at8 qdv c):Nat):Int)):=by
 rw [qpU]
 refine qa8 (hd:=fun n=>(s,(n:Int))) (jx:=fun _=>0) _ 1 (fun n h=>?_) ?_
 ·simp only [qjq,qku,qbn h,qcp h,qbg h,qat h hl,br_eq,cond_true,ev_br,ev_at,cond_some,ev_bi_some,at8,qdv,qp1,qbd]
  have e1:decide ((s[n].toNat:Int) < 97) = !decide ((s[n].toNat:Int) >= 97):=by by_cases h:(s[n].toNat:Int) >= 97 <;> simp [h] <;> omega
  have e2:decide ((s[n].toNat:Int) > 122) = !decide ((s[n].toNat:Int) <= 122):=by by_cases h:(s[n].toNat:Int) <= 122 <;> simp [h] <;> omega
  have e3:decide ((s[n].toNat:Int) < 48) = !decide ((s[n].toNat:Int) >= 48):=by by_cases h:(s[n].toNat:Int) >= 48 <;> simp [h] <;> omega
  have e4:decide ((s[n].toNat:Int) > 57) = !decide ((s[n].toNat:Int) <= 57):=by by_cases h:(s[n].toNat:Int) <= 57 <;> simp [h] <;> omega
  rw [e1,e2,e3,e4,bne]
  cases decide ((s[n].toNat:Int) >= 97) <;> cases decide ((s[n].toNat:Int) <= 122) <;> cases decide ((s[n].toNat:Int) >= 48) <;> cases decide ((s[n].toNat:Int) <= 57) <;> cases ((s[n].toNat:Int) == 95) <;> rfl
 ·simp [qjq,qku]
theorem qwI (s:Bs):qmI s = some (qw9 s):=by
 rw [qAv,qlL]
 cases s with
 | nil=>rfl
 | cons c r=>
  have e0:decide (((c :: r).length:Int) < 1) = false:=by simp only [List.length_cons,decide_eq_false_iff_not]; omega
  have e1:inB (c :: r).length 0 = true:=by simp [inB]
  have e2:qaA (c :: r) 0 = (c.toNat:Int):=by simp [qaA,qd5]
  have e3:decide (((c :: r).length:Int) > 16) = !decide ((c :: r).length <= 16):=by
   by_cases h:(c :: r).length <= 16 <;> simp only [h,decide_true,decide_false,Bool.not_true,Bool.not_false,decide_eq_true_eq,decide_eq_false_iff_not] <;> omega
  simp only [e0,e1,e2,e3,br_eq,cond_false,cond_true,cond_some,ev_bi_some,ev_br,ev_at,qw9,at8,qp1]
  cases h16:decide ((c :: r).length <= 16)
  ·rfl
  ·have hl:(c :: r).length <= big:=Nat.le_trans (of_decide_eq_true h16) (by decide)
   rw [qwY hl,qbG]
   have e4:decide ((c.toNat:Int) < 97) = !decide ((c.toNat:Int) >= 97):=by by_cases h:(c.toNat:Int) >= 97 <;> simp [h] <;> omega
   have e5:decide ((c.toNat:Int) > 122) = !decide ((c.toNat:Int) <= 122):=by by_cases h:(c.toNat:Int) <= 122 <;> simp [h] <;> omega
   rw [e4,e5]
   have e6:(c :: r).any (fun c=>!at8 qdv c) = !(c :: r).all (at8 qdv):=by rw [List.any_eq_not_all_not]; simp
   rw [e6]
   show _ = some (_ && (_ && (c :: r).all (at8 qdv)))
   cases decide ((c.toNat:Int) >= 97) <;> cases decide ((c.toNat:Int) <= 122) <;> cases (c :: r).all (at8 qdv) <;> simp
theorem qij:qjT = some (ES wordsS):=by
 rw [qpr,qjA]; rfl
theorem qis (s:Bs):qj7 (s,ES wordsS,0) = some (qhf (s == ·) (fun _=>0) 1 wordsS,s,ES wordsS,((wordsS.findIdx (s == ·):Nat):Int)):=by
 rw [qj8]
 refine qa8 (hd:=fun n=>(s,ES wordsS,(n:Int))) (jx:=fun _=>0) _ 1 (fun n h=>?_) ?_
 ·simp only [qgt,qfH,List.length_map,qbn h,qBv h,qs0 h,ev_br,ev_at,cond_true,qat h (show wordsS.length <= big by decide)]
  rw [BEq.comm (a:=wordsS[n]) (b:=s)]
  cases (s == wordsS[n]) <;> rfl
 ·simp [qgt,qfH]
theorem qmK (s:Bs):qil s = some (qeK s):=by
 rw [qps,qjB,qij]
 simp only [ev_bi_some,qis,qbG,qeK,has]
 cases wordsS.any (s == ·) <;> simp
theorem qAS (s:Bs):qtz s = some (qkY s):=by
 rw [qEJ,qsQ,qwI,qmK,qxF]
 cases qw9 s <;> simp
theorem qqJ:∀ (e:Ex),Wd e -> ∀ (most:Nat),most <= 1000000 -> ∀ n,e.dep <= n -> qdi n e.op e.num e.txt (EX e.args) (most:Int) = some ((min e.nodes (most + 1):Nat):Int):=by
 intro e
 induction e using Ex.ind with
 | h o n s l ih=>
  intro hw most hmost m hm
  have hlen:=hw.len
  simp only [Ex.args] at hlen
  have hwa:∀ x ∈ l,Wd x:=fun x hx=>hw.arg (e:=.mk o n s l) hx
  simp only [Ex.dep] at hm
  cases m with
  | zero=>omega
  | succ k=>
   simp only [qdi,qr9,Ex.op,Ex.num,Ex.txt,Ex.args]
   have key:∀ (r i c:Nat),i + r = l.length -> c <= most + 1 -> ∃ q,qnd (qdi k) ((most:Int),(c:Int),(i:Int),o,n,s,EX l) = some (0,(most:Int),((min (c + Ex.nodesL (l.drop i)) (most + 1):Nat):Int),q):=by
    intro r
    induction r with
    | zero=>
     intro i c hi hc
     have:i = l.length:=by omega
     subst this
     refine ⟨((l.length:Int),o,n,s,EX l),?_⟩
     rw [qhC,qaj (j:=0)]
     ·rw [List.drop_length]; simp only [Ex.nodesL,Nat.add_zero]; rw [Nat.min_eq_left hc]
     ·simp [qgs,qhO]
    | succ r ihr=>
     intro i c hi hc
     have hn:i < l.length:=by omega
     by_cases hcm:c <= most
     ·have hx:l[i] ∈ l:=List.getElem_mem hn
      have h2:=Ex.depL_mem hx
      have hwr:IntKind.i64.wrap ((most:Int) - (c:Int)) = ((most - c:Nat):Int):=by
       rw [wrap64 (by omega) (by omega)]; omega
      have hg:=ih l[i] hx (hwa _ hx) (most - c) (by omega) k (by omega)
      have hpos:=Ex.nodes_pos l[i]
      have hws:IntKind.i64.wrap ((c:Int) + ((min l[i].nodes (most - c + 1):Nat):Int)) = ((c + min l[i].nodes (most - c + 1):Nat):Int):=by
       rw [wrap64 (by omega) (by omega)]; omega
      have hst:(qgs (qdi k) ((most:Int),(c:Int),(i:Int),o,n,s,EX l)).ev = some (.next ((most:Int),((c + min l[i].nodes (most - c + 1):Nat):Int),((i + 1:Nat):Int),o,n,s,EX l)):=by
       have e1:decide ((c:Int) <= (most:Int)) = true:=by simp; omega
       simp only [qgs,qhO,List.length_map,qbn hn,e1,br_eq,cond_true,ev_bi_some,ev_br,ev_at,okX hn,qx0 hn,qx1 hn,qx2 hn,qx3 hn,hwr,hg,hws,qat hn hlen]
      obtain ⟨q,hq⟩:=ihr (i + 1) (c + min l[i].nodes (most - c + 1)) (by omega) (by omega)
      refine ⟨q,?_⟩
      rw [qhC] at hq ⊢
      rw [qau hst,hq,drop_at hn]
      simp only [Ex.nodesL]
      congr 4
      omega
     ·refine ⟨((i:Int),o,n,s,EX l),?_⟩
      rw [qhC,qaj (j:=0)]
      ·have:min (c + Ex.nodesL (l.drop i)) (most + 1) = c:=by omega
       rw [this]
      ·have e1:decide ((c:Int) <= (most:Int)) = false:=by simp; omega
       simp only [qgs,qhO,List.length_map,qbn hn,e1,br_eq,cond_true,cond_false,ev_bi_some,ev_br,ev_at]
   obtain ⟨q,hq⟩:=key l.length 0 1 (by omega) (by omega)
   have hq':qnd (qdi k) ((most:Int),1,0,o,n,s,EX l) = some (0,(most:Int),((min (1 + Ex.nodesL (l.drop 0)) (most + 1):Nat):Int),q):=hq
   rw [hq']
   simp only [pj_some,if_true,ev_bi_some,ev_at,List.drop_zero,Ex.nodes]
   congr 3; omega
theorem qdm {e:Ex} (hw:Wd e) {most:Nat} (hm:most <= 1000000):qdN e.op e.num e.txt (EX e.args) (most:Int) = some (decide (e.nodes > most)):=by
 have hc:qq4 e.op e.num e.txt (EX e.args) (most:Int) = some ((min e.nodes (most + 1):Nat):Int):=qb3 (qqJ e hw most hm)
 rw [qAo,qlD,hc]
 simp only [ev_bi_some,ev_at]
 congr 1
 by_cases h:e.nodes > most <;> simp [h] <;> omega
theorem qwD {e:Ex} (h:e.nodes <= big):qmD e.op e.num e.txt (EX e.args) = some (e.dep:Int):=by
 refine qb3 (n:=e.dep) ?_
 induction e using Ex.ind with
 | h o n s l ih=>
  intro m hm
  cases m with
  | zero=>simp [Ex.dep] at hm
  | succ k=>
   have hdl:=Ex.dep_le (.mk o n s l)
   simp only [Ex.op,Ex.num,Ex.txt,Ex.args,qe3,qr5]
   simp only [Ex.nodes,Ex.dep] at h hm hdl
   have hll:=Ex.nodesL_len l
   have key:qrd (qe3 k) (0,0,o,n,s,EX l) = some (0,((l.foldl (fun a x=>max a (Ex.dep x)) 0:Nat):Int),(l.length:Int),o,n,s,EX l):=by
    rw [qpP]
    refine qg5 (l:=l) (hd:=fun i a=>(((a:Nat):Int),(i:Int),o,n,s,EX l)) (f:=fun a x=>max a (Ex.dep x)) (jx:=fun _=>0) (inv:=fun _ _=>True) trivial (fun _ _ _ _=>trivial) ?_ ?_
    ·intro i a hn _
     have hx:l[i] ∈ l:=List.getElem_mem hn
     have h1:=Ex.nodesL_mem hx
     have h2:=Ex.depL_mem hx
     have hg:=ih l[i] hx (by omega) k (by omega)
     have hm:(if (l[i].dep:Int) > (a:Int) then (l[i].dep:Int) else (a:Int)) = ((max a l[i].dep:Nat):Int):=by
      by_cases hc:a < l[i].dep
      ·rw [if_pos (by omega),Nat.max_eq_right (by omega)]
      ·rw [if_neg (by omega),Nat.max_eq_left (by omega)]
     simp only [qjl,qkm,List.length_map,qbn hn,okX hn,qx0 hn,qx1 hn,qx2 hn,qx3 hn,hg,ev_br,ev_at,ev_bi_some,cond_true,hm,qat hn (show l.length <= big by omega)]
    ·intro a _
     simp [qjl,qkm]
   rw [key,Ex.dep_fold]
   have hw:IntKind.i64.wrap (((max 0 (Ex.depL l):Nat):Int) + 1) = ((Ex.depL l + 1:Nat):Int):=by
    simp only [big] at h
    rw [Nat.zero_max,wrap64 (by omega) (by omega)]; simp
   simp only [pj_some,if_true,ev_bi_some,ev_at,Ex.dep,hw]
theorem qAR (op:Int):qty op = some (qaE op):=by
 rw [qEH,qsO]
 simp only [br_eq,cond_some,ev_bi_some,ev_br,ev_at,qaE]
 by_cases h0:op < 1
 ·simp [h0]; rw [if_neg (by omega),if_neg (by omega),if_neg (by omega),if_neg (by omega)]
 by_cases h1:op > 19
 ·simp [h0,h1]; rw [if_neg (by omega),if_neg (by omega),if_neg (by omega),if_neg (by omega)]
 by_cases h2:op <= 4
 ·have e:op = 1 \/ op = 2 \/ op = 3 \/ op = 4:=by omega
  rw [if_pos e]; simp [h0,h1,h2]
 by_cases h3:op = 9
 ·subst h3; simp
 by_cases h4:op = 16
 ·subst h4; simp
 by_cases h5:op = 19
 ·subst h5; simp
 simp [h0,h1,h2,h3,h4,h5]
 rw [if_neg (by omega),if_pos (by omega)]
theorem qwN (op:Int):qmN op = some (qdO op):=by
 rw [qAz,qlQ]
 simp only [ev_br,ev_at,cond_some,qdO]
 by_cases h1:op = 1
 ·simp [h1]
 by_cases h2:op = 2
 ·simp [h2]
 by_cases h3:op = 3
 ·simp [h3]
 have e1:(op == 1) = false:=by simpa using h1
 have e2:(op == 2) = false:=by simpa using h2
 have e3:(op == 3) = false:=by simpa using h3
 simp [h1,h2,h3,e1,e2,e3]
theorem qwH {e:Ex} (h:e.nodes <= big):qq6 e.op e.num e.txt (EX e.args) = some (e.allX qaK):=by
 refine qb3 (n:=e.dep) ?_
 induction e using Ex.ind with
 | h o n s l ih=>
  intro m hm
  cases m with
  | zero=>simp [Ex.dep] at hm
  | succ k=>
   have hal:=Ex.allX_eq qaK (.mk o n s l)
   show qeg (k + 1) o n s (EX l) = some ((Ex.mk o n s l).allX qaK)
   simp only [qeg,qsa]
   simp only [Ex.nodes,Ex.dep] at h hm
   have hll:=Ex.nodesL_len l
   have key:qir (qeg k) (0,o,n,s,EX l) = some (qhf (fun x=>!Ex.allX qaK x) (fun _=>0) 1 l,((l.findIdx (fun x=>!Ex.allX qaK x):Nat):Int),o,n,s,EX l):=by
    rw [qpR]
    refine qa8 (hd:=fun i=>((i:Int),o,n,s,EX l)) (jx:=fun _=>0) _ 1 (fun i hn=>?_) ?_
    ·have hx:l[i] ∈ l:=List.getElem_mem hn
     have h1:=Ex.nodesL_mem hx
     have h2:=Ex.depL_mem hx
     have hg:=ih l[i] hx (by omega) k (by omega)
     simp only [qjn,qkr,List.length_map,qbn hn,okX hn,qx0 hn,qx1 hn,qx2 hn,qx3 hn,hg,ev_br,ev_at,ev_bi_some,cond_true,qat hn (show l.length <= big by omega)]
     cases l[i].allX qaK <;> rfl
    ·simp [qjn,qkr]
   rw [key,hal,qbG,qAR,qwN,Ex.args]
   have e1:decide (n < 0) = !decide (n >= 0):=by by_cases h:n >= 0 <;> simp [h] <;> omega
   have e2:decide (n > qdO o) = !decide (n <= qdO o):=by by_cases h:n <= qdO o <;> simp [h] <;> omega
   have e3:((l.length:Int) == qaE o) = (qaE o == (l.length:Int)):=by rw [Bool.eq_iff_iff,beq_iff_eq,beq_iff_eq]; exact eq_comm
   have hna:l.any (fun x=>!Ex.allX qaK x) = !l.all (Ex.allX qaK):=by
    rw [List.any_eq_not_all_not]; simp
   simp only [ev_bi_some,ev_br,ev_at,List.length_map,bne,e3,hna,pj_some]
   rw [e1,e2]
   show _ = some ((qaE o == (l.length:Int) && (decide (n >= 0) && (decide (n <= qdO o) && (s == [] || o == 4)))) && _)
   cases (qaE o == (l.length:Int)) <;> cases decide (n >= 0) <;> cases decide (n <= qdO o) <;> cases (s == []) <;> cases (o == 4) <;> cases l.all (Ex.allX qaK) <;> rfl
theorem qBh {l:List Bs} (hl:l.length <= big) (s:Bs):qyH (ES l,s,0) = some (0,ES l,s,(((l.takeWhile (qav · s)).length:Nat):Int)):=by
 rw [qt6]
 refine qdt (fun n=>(ES l,s,(n:Int))) (l.takeWhile (qav · s)).length 0 0 (Nat.zero_le _) (fun m _ hm=>?_) ?_
 ·have h:=Nat.lt_of_lt_of_le hm (qgK l)
  have:=qSZ h hm
  simp only [qkB,qjw,List.length_map,qbn h,qBv h,qs0 h,br_eq,cond_true,ev_bi_some,ev_br,ev_at,this,qat h hl]
 ·by_cases h:(l.takeWhile (qav · s)).length < l.length
  ·have:=qI8 h
   simp only [qkB,qjw,List.length_map,qbn h,qBv h,qs0 h,br_eq,cond_true,ev_bi_some,ev_br,ev_at,this,cond_false]
  ·have h2:=qgK (p:=(qav · s)) l
   simp only [qkB,qjw,List.length_map,qOS h,br_eq,cond_false,ev_bi_some,ev_br,ev_at]
theorem qwx {l:List Bs} (hl:l.length <= 1000000) (s:Bs):qgU (ES l) s = some (ES (qk3 l s)):=by
 have hb:l.length <= big:=Nat.le_trans hl (by decide)
 rw [qAe,qlt,qBh hb]
 have hk:=qgK (p:=(qav · s)) l
 unfold qk3
 generalize hkk:(l.takeWhile (qav · s)).length = k at hk
 simp only [pj_some,if_true,ev_bi_some,List.length_map,Int.toNat_natCast]
 have hr:∀ n,n <= 2000000 -> room n 16 = true:=fun n hn=>qiy (by simp only [lim]; omega)
 by_cases hlt:k < l.length
 ·simp only [qbn hlt,qBv hlt,qs0 hlt,br_eq,cond_true,ev_bi_some,ev_br]
  rw [List.getElem?_eq_getElem hlt]
  cases hq:(l[k] == s)
  ·have hne:¬ l[k] = s:=by simpa using hq
   have hD:decide ((List.drop k (ES l)).length = 0) = false:=by simp; omega
   have hD':decide ((List.drop k (ES l)).length ≠ 0) = true:=by simp; omega
   simp only [Option.some.injEq,hne,if_false,cond_false,qbA (Nat.le_of_lt hlt),Bool.and_true,Bool.true_and,Bool.false_and,Bool.and_self,cond_true,hD,hD',decide_true]
   by_cases hk0:k = 0
   ·subst hk0
    rw [hr _ (by simp; omega)]
    simp
   ·have hTl:(List.take k (ES l)).length = k:=by rw [List.length_take,List.length_map]; omega
    have hT:decide ((List.take k (ES l)).length = 0) = false:=by rw [hTl]; simpa using hk0
    have hT':decide ((List.take k (ES l)).length ≠ 0) = true:=by rw [hTl]; simpa using hk0
    simp only [hT,hT',Bool.true_and,Bool.false_and,cond_false]
    rw [hr _ (by simp; omega),hr _ (by simp; omega),hr _ (by simp; omega)]
    simp [List.map_append,List.map_take,List.map_drop]
  ·have hqe:l[k] = s:=by simpa using hq
   simp [hqe]
 ·have hke:k = l.length:=by omega
  have hD:decide ((List.drop k (ES l)).length = 0) = true:=by simp; omega
  simp only [qOS hlt,br_eq,cond_false,ev_bi_some,ev_br,qbA hk,Bool.and_true,Bool.true_and,cond_true,hD,decide_true]
  rw [List.getElem?_eq_none (by omega)]
  simp only [reduceCtorEq,if_false]
  by_cases hk0:k = 0
  ·have:l = []:=by cases l with
    | nil=>rfl
    | cons _ _=>simp at hke; omega
   subst this; subst hk0; rfl
  ·have hTl:(List.take k (ES l)).length = k:=by rw [List.length_take,List.length_map]; omega
   have hT:decide ((List.take k (ES l)).length = 0) = false:=by rw [hTl]; simpa using hk0
   have hT':decide ((List.take k (ES l)).length ≠ 0) = true:=by rw [hTl]; simpa using hk0
   simp only [hT,hT',Bool.true_and,cond_false,ev_br]
   rw [hr _ (by simp; omega),hr _ (by simp; omega)]
   have e1:List.take k (ES l) = ES l:=List.take_of_length_le (by simp; omega)
   have e2:List.take k l = l:=List.take_of_length_le (by omega)
   have e3:List.drop k l = []:=List.drop_eq_nil_of_le (by omega)
   simp [e1,e2,e3]
def hdI (f:Nat) (i:Int) (L:List AV) (j:Int) (o n:Int) (s:Bs) (A:List AV) (acc:List Bs):qcy:=match f with
 | 0=>.inl (i,L,j,o,n,s,A,ES acc)
 | 1=>.inr (.inl (i,L,j,o,n,s,A))
 | _=>.inr (.inr (ES acc,i,L,j,o,n,s,A))
def hdO (f:Nat) (i:Int) (o n:Int) (s:Bs) (A:List AV) (acc:List Bs):qck:=match f with
 | 0=>.inl (i,o,n,s,A,ES acc)
 | 1=>.inr (.inl (i,o,n,s,A))
 | _=>.inr (.inr (ES acc,i,o,n,s,A))
def fOk (f:Nat) (acc:List Bs):Prop:=f <= 2 /\ (f = 1 -> acc = [])
theorem qs4 {L:List Bs} (hL:L.length <= 1000000) (i o n:Int) (s:Bs) (A:List AV):∀ (r j f:Nat) (acc:List Bs),j + r = L.length -> fOk f acc -> acc.length + r <= 1000000 ->
  qdr (hdI f i (ES L) (j:Int) o n s A acc) = some (if r = 0 then f else 2,hdI (if r = 0 then f else 2) i (ES L) (L.length:Int) o n s A ((L.drop j).foldl qk3 acc))
 | 0,j,f,acc,hj,hf,_=>by
  have:j = L.length:=by omega
  subst this
  obtain ⟨h1,h2⟩:=hf
  rw [qj6,List.drop_length]
  simp only [if_true,List.foldl_nil]
  match f,h1 with
  | 0,_=>rw [qaj (j:=0)]; simp [hdI,qdz,qkn]
  | 1,_=>rw [qaj (j:=1)]; simp [hdI,qdz,qko]
  | 2,_=>rw [qaj (j:=2)]; simp [hdI,qdz,qkp]
 | r + 1,j,f,acc,hj,hf,hb=>by
  have hn:j < L.length:=by omega
  obtain ⟨h1,h2⟩:=hf
  have hst:(qdz (hdI f i (ES L) (j:Int) o n s A acc)).ev = some (.next (hdI 2 i (ES L) ((j + 1:Nat):Int) o n s A (qk3 acc L[j]))):=by
   have hi:=qwx (l:=acc) (by omega) L[j]
   match f,h1 with
   | 0,_=>simp only [hdI,qdz,Sum.elim_inl,qkn,List.length_map,qbn hn,qBv hn,qs0 hn,hi,ev_br,ev_at,ev_bi_some,cond_true,qat hn (Nat.le_trans hL (by decide))]
   | 1,_=>
    have:=h2 rfl
    subst this
    have hi':qgU [] L[j] = some (ES (qk3 [] L[j])):=hi
    simp only [hdI,qdz,Sum.elim_inl,Sum.elim_inr,qko,List.length_map,qbn hn,qBv hn,qs0 hn,hi',ev_br,ev_at,ev_bi_some,cond_true,qat hn (Nat.le_trans hL (by decide))]
   | 2,_=>simp only [hdI,qdz,Sum.elim_inr,qkp,List.length_map,qbn hn,qBv hn,qs0 hn,hi,ev_br,ev_at,ev_bi_some,cond_true,qat hn (Nat.le_trans hL (by decide))]
  have hle:=qyv acc L[j]
  have ih:=qs4 hL i o n s A r (j + 1) 2 (qk3 acc L[j]) (by omega) ⟨Nat.le_refl _,by omega⟩ (by omega)
  rw [qj6] at ih ⊢
  rw [qau hst,ih,drop_at hn]
  have:(if r = 0 then 2 else 2) = 2:=by split <;> rfl
  rw [this,if_neg (show ¬ r + 1 = 0 by omega),List.foldl_cons]
noncomputable def qGm (y:Option (Nat × qck)):DT qlW:=
 .bi (pj 0 y) (fun y0=>.at ((sl y0).snd.snd.snd.snd.snd)) (.bi (pj 1 y) (fun _=>.at ([])) (.bi (pj 2 y) (fun y0=>.at ((sr (sr y0)).fst)) .no))
theorem qGn (G:Int -> Int -> List UInt8 -> List AV -> Option qlW) (x0 x1:Int) (x2:Bs) (x3:List AV) :
  qr6 G x0 x1 x2 x3 = .br (x0 == 4) (qGm (qes G (hdO 0 0 x0 x1 x2 x3 [x2]))) (qGm (qes G (hdO 1 0 x0 x1 x2 x3 []))):=rfl
theorem qqI:∀ (e:Ex),e.nodes <= 1000000 -> ∀ n,e.dep <= n -> qdh n e.op e.num e.txt (EX e.args) = some (ES e.names):=by
 intro e
 induction e using Ex.ind with
 | h o n s l ih=>
  intro h m hm
  simp only [Ex.dep] at hm
  have hll:=Ex.nodesL_len l
  simp only [Ex.nodes] at h
  cases m with
  | zero=>omega
  | succ k=>
   have key:∀ (r i f:Nat) (acc:List Bs),i + r = l.length -> fOk f acc -> acc.length + Ex.nodesL (l.drop i) <= 1000000 -> (qGm (qes (qdh k) (hdO f (i:Int) o n s (EX l) acc))).ev = some (ES (Ex.namesL acc (l.drop i))):=by
    intro r
    induction r with
    | zero=>
     intro i f acc hi hf _
     have:i = l.length:=by omega
     subst this
     obtain ⟨h1,h2⟩:=hf
     rw [qj5,List.drop_length]
     match f,h1 with
     | 0,_=>
      rw [qaj (j:=0)]
      ·rfl
      ·simp [hdO,qbQ,qfE]
     | 1,_=>
      have:=h2 rfl
      subst this
      rw [qaj (j:=1)]
      ·rfl
      ·simp [hdO,qbQ,qfF]
     | 2,_=>
      rw [qaj (j:=2)]
      ·rfl
      ·simp [hdO,qbQ,qfG]
    | succ r ihr=>
     intro i f acc hi hf hb
     have hn:i < l.length:=by omega
     have hx:l[i] ∈ l:=List.getElem_mem hn
     have h1:=Ex.nodesL_mem hx
     have h2:=Ex.depL_mem hx
     have hg:=ih l[i] hx (by omega) k (by omega)
     have hnl:=qjc l[i]
     rw [drop_at hn] at hb ⊢
     simp only [Ex.nodesL] at hb
     have hin:=qs4 (L:=l[i].names) (by omega) (i:Int) o n s (EX l) l[i].names.length 0 f acc (by omega) hf (by omega)
     rw [List.drop_zero] at hin
     have hfl:=qq8 l[i].names acc
     generalize hf2:(if l[i].names.length = 0 then f else 2) = f2 at hin
     have hf2ok:fOk f2 (l[i].names.foldl qk3 acc):=by
      rw [<- hf2]
      by_cases hz:l[i].names.length = 0
      ·rw [if_pos hz]
       have:l[i].names = []:=List.length_eq_zero_iff.1 hz
       rw [this]; exact hf
      ·rw [if_neg hz]; exact ⟨Nat.le_refl _,by omega⟩
     have hst:(qbQ (qdh k) (hdO f (i:Int) o n s (EX l) acc)).ev = some (.next (hdO f2 ((i + 1:Nat):Int) o n s (EX l) (l[i].names.foldl qk3 acc))):=by
      obtain ⟨hf1,_⟩:=hf
      obtain ⟨hf3,_⟩:=hf2ok
      have hin':qdr (hdI f (i:Int) (ES l[i].names) 0 o n s (EX l) acc) = some (f2,hdI f2 (i:Int) (ES l[i].names) (l[i].names.length:Int) o n s (EX l) (l[i].names.foldl qk3 acc)):=hin
      have hw:=qat hn (show l.length <= big by simp only [big]; omega)
      match f,hf1,f2,hf3 with
      | 0,_,0,_=>simp (decide:=true) only [hdO,hdI,qbQ,Sum.elim_inl,qfE,List.length_map,qbn hn,okX hn,qx0 hn,qx1 hn,qx2 hn,qx3 hn,hg,ev_br,ev_at,ev_bi_some,ev_bi_none,cond_true,pj_some,if_true,if_false,sl_inl,sr_inr,hw] at hin' ⊢; simp (decide:=true) only [hin',pj_some,if_true,if_false,ev_bi_some,ev_bi_none,ev_at,sl_inl,sr_inr,hw]
      | 0,_,1,_=>simp (decide:=true) only [hdO,hdI,qbQ,Sum.elim_inl,qfE,List.length_map,qbn hn,okX hn,qx0 hn,qx1 hn,qx2 hn,qx3 hn,hg,ev_br,ev_at,ev_bi_some,ev_bi_none,cond_true,pj_some,if_true,if_false,sl_inl,sr_inr,hw] at hin' ⊢; simp (decide:=true) only [hin',pj_some,if_true,if_false,ev_bi_some,ev_bi_none,ev_at,sl_inl,sr_inr,hw]
      | 0,_,2,_=>simp (decide:=true) only [hdO,hdI,qbQ,Sum.elim_inl,qfE,List.length_map,qbn hn,okX hn,qx0 hn,qx1 hn,qx2 hn,qx3 hn,hg,ev_br,ev_at,ev_bi_some,ev_bi_none,cond_true,pj_some,if_true,if_false,sl_inl,sr_inr,hw] at hin' ⊢; simp (decide:=true) only [hin',pj_some,if_true,if_false,ev_bi_some,ev_bi_none,ev_at,sl_inl,sr_inr,hw]
      | 1,_,0,_=>simp (decide:=true) only [hdO,hdI,qbQ,Sum.elim_inl,Sum.elim_inr,qfF,List.length_map,qbn hn,okX hn,qx0 hn,qx1 hn,qx2 hn,qx3 hn,hg,ev_br,ev_at,ev_bi_some,ev_bi_none,cond_true,pj_some,if_true,if_false,sl_inl,sr_inr,hw] at hin' ⊢; simp (decide:=true) only [hin',pj_some,if_true,if_false,ev_bi_some,ev_bi_none,ev_at,sl_inl,sr_inr,hw]
      | 1,_,1,_=>simp (decide:=true) only [hdO,hdI,qbQ,Sum.elim_inl,Sum.elim_inr,qfF,List.length_map,qbn hn,okX hn,qx0 hn,qx1 hn,qx2 hn,qx3 hn,hg,ev_br,ev_at,ev_bi_some,ev_bi_none,cond_true,pj_some,if_true,if_false,sl_inl,sr_inr,hw] at hin' ⊢; simp (decide:=true) only [hin',pj_some,if_true,if_false,ev_bi_some,ev_bi_none,ev_at,sl_inl,sr_inr,hw]
      | 1,_,2,_=>simp (decide:=true) only [hdO,hdI,qbQ,Sum.elim_inl,Sum.elim_inr,qfF,List.length_map,qbn hn,okX hn,qx0 hn,qx1 hn,qx2 hn,qx3 hn,hg,ev_br,ev_at,ev_bi_some,ev_bi_none,cond_true,pj_some,if_true,if_false,sl_inl,sr_inr,hw] at hin' ⊢; simp (decide:=true) only [hin',pj_some,if_true,if_false,ev_bi_some,ev_bi_none,ev_at,sl_inl,sr_inr,hw]
      | 2,_,0,_=>simp (decide:=true) only [hdO,hdI,qbQ,Sum.elim_inr,qfG,List.length_map,qbn hn,okX hn,qx0 hn,qx1 hn,qx2 hn,qx3 hn,hg,ev_br,ev_at,ev_bi_some,ev_bi_none,cond_true,pj_some,if_true,if_false,sl_inl,sr_inr,hw] at hin' ⊢; simp (decide:=true) only [hin',pj_some,if_true,if_false,ev_bi_some,ev_bi_none,ev_at,sl_inl,sr_inr,hw]
      | 2,_,1,_=>simp (decide:=true) only [hdO,hdI,qbQ,Sum.elim_inr,qfG,List.length_map,qbn hn,okX hn,qx0 hn,qx1 hn,qx2 hn,qx3 hn,hg,ev_br,ev_at,ev_bi_some,ev_bi_none,cond_true,pj_some,if_true,if_false,sl_inl,sr_inr,hw] at hin' ⊢; simp (decide:=true) only [hin',pj_some,if_true,if_false,ev_bi_some,ev_bi_none,ev_at,sl_inl,sr_inr,hw]
      | 2,_,2,_=>simp (decide:=true) only [hdO,hdI,qbQ,Sum.elim_inr,qfG,List.length_map,qbn hn,okX hn,qx0 hn,qx1 hn,qx2 hn,qx3 hn,hg,ev_br,ev_at,ev_bi_some,ev_bi_none,cond_true,pj_some,if_true,if_false,sl_inl,sr_inr,hw] at hin' ⊢; simp (decide:=true) only [hin',pj_some,if_true,if_false,ev_bi_some,ev_bi_none,ev_at,sl_inl,sr_inr,hw]
     have ihn:=ihr (i + 1) f2 (l[i].names.foldl qk3 acc) (by omega) hf2ok (by omega)
     rw [qj5] at ihn ⊢
     rw [qau hst,ihn]
     simp only [Ex.namesL]
   show qdh (k + 1) o n s (EX l) = some (ES (Ex.mk o n s l).names)
   simp only [qdh,qGn,ev_br,Ex.names]
   by_cases ho:o = 4
   ·have e:(o == 4) = true:=by simpa using ho
    rw [e,cond_true,if_pos ho]
    exact key l.length 0 0 [s] (by omega) ⟨by omega,by omega⟩ (by simp; omega)
   ·have e:(o == 4) = false:=by simpa using ho
    rw [e,cond_false,if_neg ho]
    exact key l.length 0 1 [] (by omega) ⟨by omega,fun _=>rfl⟩ (by simp; omega)
theorem qmF {e:Ex} (h:e.nodes <= 1000000):qmE e.op e.num e.txt (EX e.args) = some (ES e.names):=qb3 (qqI e h)
theorem qBc {l:List Bs} (hl:l.length <= big):qtU (ES l,0) = some (qhf (fun s=>!qkY s) (fun _=>0) 1 l,ES l,((l.findIdx (fun s=>!qkY s):Nat):Int)):=by
 rw [qtV]
 refine qa8 (hd:=fun i=>(ES l,(i:Int))) (jx:=fun _=>0) _ 1 (fun i hn=>?_) ?_
 ·simp only [qou,qov,List.length_map,qbn hn,qBv hn,qs0 hn,qAS,ev_br,ev_at,ev_bi_some,cond_true,qat hn hl]
  cases qkY l[i] <;> rfl
 ·simp [qou,qov]
theorem qjZ {e:Ex} (hw:Wd e):qmU e.op e.num e.txt (EX e.args) = some (qaX e):=by
 have hG:=qdm hw (most:=64) (by omega)
 rw [qEI,qsP,show (64:Int) = ((64:Nat):Int) from rfl,hG,qaX]
 by_cases h64:e.nodes > 64
 ·simp [h64]
 ·have hb:e.nodes <= big:=by simp only [big]; omega
  have hs:e.nodes <= 1000000:=by omega
  have hnl:=qjc e
  have hna:e.names.any (fun s=>!qkY s) = !e.allX qbl:=by
   rw [<- qun,List.any_eq_not_all_not]; simp
  rw [qwD hb,qwH hb,qmF hs]
  have e2:decide (gv (some (e.dep:Int)) > 8) = decide (e.dep > 8):=by
   show decide ((e.dep:Int) > 8) = _
   by_cases h:e.dep > 8 <;> simp [h] <;> omega
  have e3:decide (e.nodes > 64) = false:=by simpa using h64
  have hvl:=qBc (show e.names.length <= big by simp only [big]; omega)
  rw [qbG,hna] at hvl
  simp only [ev_bi_some,br_eq,sm_some,e2,e3,cond_false]
  cases decide (e.dep > 8) <;> cases e.allX qaK <;> cases hn:e.allX qbl <;> simp [hvl,hn]
end Go.Proofs.H10

/- The document's operators: what they come to. -/
import Derived.Test.YthljpgljbpdmjaaGreatDoorX15pRnd
import Derived.Test.YthljpgljbpdmjaaGreatDoorX15pEvb
set_option linter.unusedVariables false
set_option linter.unusedSimpArgs false
set_option linter.unnecessarySimpa false
namespace Go.Proofs.H15p
open Go Go.Eng Go.Tk
set_option maxRecDepth 20000
theorem qk5 {x m:Int} (h0:0 <= m) (h1:m <= 1000000000000):qjJ x m = some (decide (-m <= x) && decide (x <= m)):=by
 have e:IntKind.i64.wrap (0 - m) = -m:=by rw [qjr]; omega
 rw [qDw,ql9,e,qnr,ev_bi_some,ev_at]
theorem qzq {x:Int}:qn6 x = some (decide (0 <= x) && decide (x <= 73048)):=by
 rw [qDQ,qms,qnr,ev_bi_some,ev_at]
theorem qh8 {t n:Int}:qgq t n = some (qa0 ⟨t,n⟩):=by
 rw [qEs,qm5]
 unfold qa0
 by_cases c1:t = 1
 ·subst c1; rfl
 rw [ev_br,show (t == 1) = false by simpa using c1,cond_false,if_neg c1]
 by_cases c2:t = 2
 ·subst c2
  rw [ev_br,show ((2:Int) == 2) = true from rfl,cond_true,qk5 (by omega) (by omega),ev_bi_some,ev_at,if_pos rfl]
 rw [ev_br,show (t == 2) = false by simpa using c2,cond_false,if_neg c2]
 by_cases c3:t = 3
 ·subst c3
  rw [ev_br,show ((3:Int) == 3) = true from rfl,cond_true,qk5 (by omega) (by omega),ev_bi_some,ev_at,if_pos rfl]
 rw [ev_br,show (t == 3) = false by simpa using c3,cond_false,if_neg c3]
 by_cases c4:t = 4
 ·subst c4
  rw [ev_br,show ((4:Int) == 4) = true from rfl,cond_true,qzq,ev_bi_some,ev_at,if_pos rfl]
 rw [ev_br,show (t == 4) = false by simpa using c4,cond_false,if_neg c4]
 by_cases c5:t = 5
 ·subst c5
  have e:br (n == 0) (some true) (some (n == 1)) = some (n == 0 || n == 1):=by cases (n == 0) <;> rfl
  rw [ev_br,show ((5:Int) == 5) = true from rfl,cond_true,e,ev_bi_some,ev_at,if_pos rfl]
 rw [ev_br,show (t == 5) = false by simpa using c5,cond_false,if_neg c5]
 rfl
theorem qbo {t v:Int}:qcC t (wid v).1 (wid v).2 = some (trp (qjq t v)):=by
 rw [qEo,qm1,qfG,ev_bi_some]
 unfold qjq
 by_cases h:i64 v
 ·rw [if_pos h,qie.1 h]
  simp only [qh8,sm_some,gv_some,Bool.not_true,br_eq,cond_false,cond_true,ev_bi_some,ev_br,ev_at,Bool.true_and]
  cases qa0 ⟨t,v⟩ <;> rfl
 ·have:qdQ v = false:=by rw [<- Bool.not_eq_true]; exact fun e=>h (qie.2 e)
  rw [if_neg h,this]
  rfl
theorem qnE {b:Bool}:qdN b = some (5,bI b):=by
 rw [qDU,qmw]; cases b <;> rfl
theorem qPk {v:Int} (h:(v.natAbs:Int) <= 1000000000000000000000):i64 (qpU v 1000000):=by
 unfold i64 qpU
 split <;> exact ⟨by omega,by omega⟩
theorem qy4 {t:Int} {a b:Vl} (hr:qaZ 7 [a.ty,b.ty] = (t,true)) (ha:i64 a.n) (hb:i64 b.n) (va:qa0 a = true) (vb:qa0 b = true):qnL t a.ty a.n b.ty b.n = some (trp (qAj t a b)):=by
 have hcond:br (IntKind.i64.wrap (a.ty + b.ty) != 5) (some true) (some (a.ty == b.ty)) = some (!decide (a.ty ≠ b.ty /\ a.ty ≠ 1 /\ b.ty ≠ 1)):=by
  obtain ⟨g1,g2,g3⟩:=qcI hr
  generalize a.ty = x at *
  generalize b.ty = y at *
  rcases qaQ g1 with rfl | rfl | rfl | rfl | rfl <;> rcases qaQ g2 with rfl | rfl | rfl | rfl | rfl <;> first | rfl | cases g3
 rw [qDh,qlS,qzM ha hb,ev_bi_some,hcond,ev_bi_some,ev_br]
 unfold qAj
 by_cases c:a.ty ≠ b.ty /\ a.ty ≠ 1 /\ b.ty ≠ 1
 ·have hm:=qxp hr c va vb rfl rfl
  have hi:=qPk hm
  rw [if_pos c,decide_eq_true c,Bool.not_true,cond_false,qjD (by simp only [inH]; omega) (by omega) (by omega),ev_bi_some,if_pos hi,qaw hi,ev_bi_some,qbo]
  rfl
 ·rw [if_neg c,decide_eq_false c,Bool.not_false,cond_true,qbo]
  rfl
theorem qtP {t v:Int} (h:¬ i64 v):qjq t v = (⟨0,0⟩,6):=by
 unfold qjq
 have:qdQ v = false:=by rw [<- Bool.not_eq_true]; exact fun e=>h (qie.2 e)
 rw [this]; rfl
theorem qEN {t:Int} {a b:Vl} (hr:qaZ 8 [a.ty,b.ty] = (t,true)) (ha:i64 a.n) (hb:i64 b.n) (va:qa0 a = true):qwq t a.ty a.n b.ty b.n = some (trp (qFI t a b)):=by
 have ha':=ha
 have hb':=hb
 obtain ⟨a0,a1⟩:=ha'
 obtain ⟨b0,b1⟩:=hb'
 have ht:(a.ty = b.ty /\ t = 1) \/ (a.ty ≠ b.ty /\ t ≠ 1):=by
  rcases qvU hr with ⟨h1,h2⟩ | ⟨h1,h2,h3⟩
  ·exact .inl ⟨h1,h2⟩
  ·right; omega
 rw [qJU,qvv,ev_br]
 unfold qFI
 by_cases h0:b.n = 0
 ·rw [if_pos h0,show (b.n == 0) = true by simpa using h0]; rfl
 rw [if_neg h0,show (b.n == 0) = false by simpa using h0,cond_false]
 by_cases hl:b.n = -9223372036854775808
 ·have el:(b.n == -9223372036854775808) = true:=by simpa using hl
  rw [el]
  rcases ht with ⟨h1,h2⟩ | ⟨h1,h2⟩
  ·rw [if_pos h1,h2]
   simp only [br_eq,cond_true,ev_bi_some,ev_br]
   by_cases he:a.n = b.n
   ·rw [show (a.n == b.n) = true by simpa using he,he,hl]; rfl
   ·rw [show (a.n == b.n) = false by simpa using he]
    have hz:a.n.tdiv b.n = 0:=by
     rw [hl]
     by_cases hn:0 <= a.n
     ·rw [Int.tdiv_neg,Int.tdiv_eq_zero_of_lt hn (by omega)]; rfl
     ·rw [show a.n = -(-a.n) by omega,Int.neg_tdiv_neg,Int.tdiv_eq_zero_of_lt (by omega) (by omega)]
    rw [hz]; rfl
  ·rw [if_neg h1,if_pos hl]
   have e1:(t != 1) = true:=by simpa using h2
   rw [e1]; rfl
 ·have el:(b.n == -9223372036854775808) = false:=by simpa using hl
  rw [el]
  simp only [br_eq,cond_false,ev_bi_some,ev_br,qaw ha]
  by_cases hn:b.n < 0
  ·have e2:IntKind.i64.wrap (0 - b.n) = -b.n:=by rw [qjr]; omega
   rw [decide_eq_true hn,cond_true,e2]
   have hs:=qh7 (a:=0) (b:=a.n) (by simp only [inH]; omega) (by simp only [inH]; omega)
   rw [show (wid 0).1 = 0 from rfl,show (wid 0).2 = 0 from rfl,Int.zero_sub] at hs
   simp only [hs,ev_bi_some,ev_br]
   have hH:inH (-a.n):=by simp only [inH]; omega
   rcases ht with ⟨h1,h2⟩ | ⟨h1,h2⟩
   ·rw [if_pos h1,h2,show ((1:Int) == 1) = true from rfl,cond_true,qrH hH (by omega) (by omega),Int.neg_tdiv_neg,ev_bi_some]
    by_cases k:i64 (a.n.tdiv b.n)
    ·rw [if_pos k,ev_br,show ((0:Int) != 0) = false from rfl,cond_false,qaw k,ev_bi_some,qbo]; rfl
    ·rw [if_neg k,qtP k]; rfl
   ·rw [if_neg h1,if_neg hl,if_pos hn,show (t == 1) = false by simpa using h2,cond_false,qjD hH (by omega) (by omega),ev_bi_some]
    by_cases k:i64 (qpU (-a.n) (-b.n))
    ·rw [if_pos k,ev_br,show ((0:Int) != 0) = false from rfl,cond_false,qaw k,ev_bi_some,qbo]; rfl
    ·rw [if_neg k,qtP k]; rfl
  ·rw [decide_eq_false hn,cond_false]
   have hH:inH a.n:=by simp only [inH]; omega
   rcases ht with ⟨h1,h2⟩ | ⟨h1,h2⟩
   ·rw [if_pos h1,h2,show ((1:Int) == 1) = true from rfl,cond_true,qrH hH (by omega) (by omega),ev_bi_some]
    by_cases k:i64 (a.n.tdiv b.n)
    ·rw [if_pos k,ev_br,show ((0:Int) != 0) = false from rfl,cond_false,qaw k,ev_bi_some,qbo]; rfl
    ·rw [if_neg k,qtP k]; rfl
   ·rw [if_neg h1,if_neg hl,if_neg hn,show (t == 1) = false by simpa using h2,cond_false,qjD hH (by omega) (by omega),ev_bi_some]
    by_cases k:i64 (qpU a.n b.n)
    ·rw [if_pos k,ev_br,show ((0:Int) != 0) = false from rfl,cond_false,qaw k,ev_bi_some,qbo]; rfl
    ·rw [if_neg k,qtP k]; rfl
theorem qto {a b c:Vl}:qfD 19 (EL [a,b,c]) = some (if a.n = 1 then (b.ty,b.n) else (c.ty,c.n)):=by
 have e0:qaD [CS.int IntKind.i64,CS.int IntKind.i64] (EL [a,b,c]) 0 = true:=rfl
 have e1:qaD [CS.int IntKind.i64,CS.int IntKind.i64] (EL [a,b,c]) 1 = true:=rfl
 have e2:qaD [CS.int IntKind.i64,CS.int IntKind.i64] (EL [a,b,c]) 2 = true:=rfl
 have q0:intOf (cellAt (EL [a,b,c]) 0 1) = a.n:=rfl
 rw [qrJ,qjj,ev_br,show ((19:Int) == 19) = true from rfl,cond_true,ev_br,e0,cond_true,ev_br,q0]
 by_cases h:a.n = 1
 ·rw [if_pos h,show (a.n == 1) = true by simpa using h,cond_true,ev_br,e1,cond_true]; rfl
 ·rw [if_neg h,show (a.n == 1) = false by simpa using h,cond_false,ev_br,e2,cond_true]; rfl
theorem qrd {op:Int} {a b:Vl} (h:op = 17 \/ op = 18) (ht:a.ty = b.ty):qfD op (EL [a,b]) = some (a.ty,if op = 17 then min a.n b.n else max a.n b.n):=by
 have e0:qaD [CS.int IntKind.i64,CS.int IntKind.i64] (EL [a,b]) 0 = true:=rfl
 have e1:qaD [CS.int IntKind.i64,CS.int IntKind.i64] (EL [a,b]) 1 = true:=rfl
 have q0:intOf (cellAt (EL [a,b]) 0 1) = a.n:=rfl
 have q1:intOf (cellAt (EL [a,b]) 1 1) = b.n:=rfl
 have p0:intOf (cellAt (EL [a,b]) 0 0) = a.ty:=rfl
 have p1:intOf (cellAt (EL [a,b]) 1 0) = b.ty:=rfl
 rw [qrJ,qjj,ev_br,show (op == 19) = false by rw [beq_eq_false_iff_ne]; omega,cond_false]
 simp only [ev_br,e0,e1,cond_true,q0,q1,p0,p1,ev_at,<- ht]
 by_cases c:a.n < b.n
 ·rcases h with rfl | rfl
  ·rw [decide_eq_true c,if_pos rfl,Int.min_eq_left (by omega)]; rfl
  ·rw [decide_eq_true c,if_neg (by decide),Int.max_eq_right (by omega)]; rfl
 ·rcases h with rfl | rfl
  ·rw [decide_eq_false c,if_pos rfl,Int.min_eq_right (by omega)]; rfl
  ·rw [decide_eq_false c,if_neg (by decide),Int.max_eq_left (by omega)]; rfl
theorem qm8 {a:Vl} (h:a.n = 0 \/ a.n = 1):qfz 16 (EL [a]) = some (5,1 - a.n):=by
 have e0:qaD [CS.int IntKind.i64,CS.int IntKind.i64] (EL [a]) 0 = true:=rfl
 have q0:intOf (cellAt (EL [a]) 0 1) = a.n:=rfl
 have el:IntKind.i64.wrap (((EL [a]).length:Int) - 1) = 0:=rfl
 rw [qrI,qji,el]
 simp only [ev_br,e0,cond_true,q0,qnE,ev_bi_some,ev_at]
 rcases h with h | h <;> rw [h] <;> rfl
theorem qge {op:Int} {a b:Vl} (h1:10 <= op) (h2:op <= 15) (ha:op = 14 \/ op = 15 -> (a.n = 0 \/ a.n = 1) /\ (b.n = 0 \/ b.n = 1)):qfz op (EL [a,b]) = some (5,qCS op a b):=by
 have e0:qaD [CS.int IntKind.i64,CS.int IntKind.i64] (EL [a,b]) 0 = true:=rfl
 have e1:qaD [CS.int IntKind.i64,CS.int IntKind.i64] (EL [a,b]) 1 = true:=rfl
 have q0:intOf (cellAt (EL [a,b]) 0 1) = a.n:=rfl
 have q1:intOf (cellAt (EL [a,b]) 1 1) = b.n:=rfl
 have el:IntKind.i64.wrap (((EL [a,b]).length:Int) - 1) = 1:=rfl
 rw [qrI,qji,el]
 simp only [ev_br,e0,e1,cond_true,q0,q1,qnE,ev_bi_some,ev_at]
 have h:op = 10 \/ op = 11 \/ op = 12 \/ op = 13 \/ op = 14 \/ op = 15:=by omega
 rcases h with rfl | rfl | rfl | rfl | rfl | rfl
 ·rfl
 ·rfl
 ·rfl
 ·rfl
 ·obtain ⟨u,v⟩:=ha (.inl rfl)
  unfold qCS
  rcases u with u | u <;> rcases v with v | v <;> rw [u,v] <;> rfl
 ·obtain ⟨u,v⟩:=ha (.inr rfl)
  unfold qCS
  rcases u with u | u <;> rcases v with v | v <;> rw [u,v] <;> rfl
theorem qz5 {op t x4 x5:Int} {l:List Vl} (hl:l.length <= big):qfM (op,EL l,t,0,x4,x5) = some (qgE (fun x=>!qa0 x) (fun _=>0) 1 l,(op,EL l,t,((l.findIdx (fun x=>!qa0 x):Nat):Int),x4,x5)):=by
 rw [qso]
 refine qaz (hd:=fun i=>(op,EL l,t,(i:Int),x4,x5)) _ _ 1 (fun i hn=>?_) ?_
 ·have e2:qa0 ⟨l[i].ty,l[i].n⟩ = qa0 l[i]:=rfl
  simp only [qi6,qkv,List.length_map,qaI hn,okL hn,ql0 hn,ql1 hn,qh8,e2,ev_br,ev_at,ev_bi_some,cond_true,qah hn hl]
  cases qa0 l[i] <;> rfl
 ·simp [qi6,qkv]
theorem qz3 {op x3 x4:Int} {l:List Vl} (hl:l.length <= 1000):∀ (k i:Nat),i + k = l.length -> qj8 (.inr (op,EL l,(i:Int),x3,x4,EI ((l.take i).map (·.ty)))) = some (1,.inr (op,EL l,(l.length:Int),x3,x4,EI (l.map (·.ty)))):=by
 intro k
 induction k with
 | zero=>
  intro i hi
  have he:i = l.length:=by omega
  subst he
  rw [qcF,List.take_length]
  refine qak ?_
  simp only [qg9,Sum.elim_inr,qku,List.length_map]
  rw [ev_br,decide_eq_false (show ¬ (l.length:Int) < (l.length:Int) by omega)]
  rfl
 | succ k ih=>
  intro i hi
  have hlt:i < l.length:=by omega
  have hw:=qah hlt (show l.length <= big by simp only [big]; omega)
  rw [<- ih (i + 1) (by omega),qcF,qcF]
  refine qaA ?_
  have hr:room ((EI ((l.take i).map (·.ty))).length + 1) 8 = true:=by
   simp only [room,lim,List.length_map,List.length_take,decide_eq_true_eq]; omega
  simp only [qg9,Sum.elim_inr,qku]
  rw [List.length_map (f:=Vl.av),ev_br,decide_eq_true (show (i:Int) < (l.length:Int) by omega),cond_true,ev_br,okL hlt,cond_true,ql0 hlt,ev_br,hr,cond_true,ev_at,hw]
  have ht:l.take (i + 1) = l.take i ++ [l[i]]:=by rw [List.take_add_one,List.getElem?_eq_getElem hlt]; rfl
  rw [ht]
  simp only [List.map_append,List.map_cons,List.map_nil]
theorem qz4 {op x3 x4:Int} {l:List Vl} (hl:l.length <= 1000):qj8 (.inl (op,EL l,0,x3,x4)) = if l = [] then some (0,.inl (op,EL l,0,x3,x4)) else some (1,.inr (op,EL l,(l.length:Int),x3,x4,EI (l.map (·.ty)))):=by
 by_cases h:l = []
 ·subst h
  rw [if_pos rfl,qcF]
  exact qak rfl
 ·rw [if_neg h]
  have hlt:0 < l.length:=List.length_pos_iff.2 h
  have:=qz3 (op:=op) (x3:=x3) (x4:=x4) hl (l.length - 1) 1 (by omega)
  rw [<- this,qcF,qcF]
  refine qaA ?_
  have q0:=ql0 (l:=l) (n:=0) hlt
  have k0:=okL (l:=l) (n:=0) hlt
  rw [show ((0:Nat):Int) = 0 from rfl] at q0 k0
  simp only [qg9,Sum.elim_inl,qsW]
  rw [List.length_map (f:=Vl.av),ev_br,decide_eq_true (show (0:Int) < (l.length:Int) by omega),cond_true,ev_br,k0,cond_true,q0,ev_at]
  cases l with
  | nil=>exact absurd rfl h
  | cons a l=>rfl
theorem qZ3 {op t:Int} {a:Vl} (hr:qaZ op [a.ty] = (t,true)) (va:qa0 a = true) (ha:i64 a.n):(qul op (EL [a]) t).ev = some (trp (opV op t [a])):=by
 have e0:qaD [CS.int IntKind.i64,CS.int IntKind.i64] (EL [a]) 0 = true:=rfl
 have q0:intOf (cellAt (EL [a]) 0 1) = a.n:=rfl
 have el:IntKind.i64.wrap (((EL [a]).length:Int) - 1) = 0:=rfl
 rcases qiW (qik hr).2 with ⟨rfl,ht,rfl⟩ | ⟨rfl,_⟩
 ·have hv:=(qbk ht).1 va
  have ho:opV 16 5 [a] = (⟨5,1 - a.n⟩,0):=rfl
  rw [ho]
  rw [qul,el,e0,q0,qaw ha,ev_br,cond_true,ev_bi_some,ev_br,cond_true,ev_bi_some,ev_br,show ((16:Int) == 5) = false from rfl,cond_false,ev_br,show ((16:Int) == 6) = false from rfl,cond_false,ev_br,show ((16:Int) == 9) = false from rfl,cond_false,ev_br,show ((16:Int) == 7) = false from rfl,cond_false,ev_br,show ((16:Int) == 8) = false from rfl,cond_false,ev_br,show ((16:Int) == 17) = false from rfl,cond_false,ev_br,show ((16:Int) == 18) = false from rfl,cond_false,ev_br,show ((16:Int) == 19) = false from rfl,cond_false,qm8 hv,ev_bi_some,ev_at]
 ·have ha':=ha
  obtain ⟨a0,a1⟩:=ha'
  have hs:=qh7 (a:=0) (b:=a.n) (by simp only [inH]; omega) (by simp only [inH]; omega)
  rw [show (wid 0).1 = 0 from rfl,show (wid 0).2 = 0 from rfl,Int.zero_sub] at hs
  have ho:opV 9 t [a] = qjq t (-a.n):=rfl
  rw [ho]
  rw [qul,el,e0,q0,qaw ha,ev_br,cond_true,ev_bi_some,ev_br,cond_true,ev_bi_some,ev_br,show ((9:Int) == 5) = false from rfl,cond_false,ev_br,show ((9:Int) == 6) = false from rfl,cond_false,ev_br,show ((9:Int) == 9) = true from rfl,cond_true,hs,ev_bi_some,qbo,ev_bi_some,ev_at]
section
variable {op t:Int} {a b:Vl}
theorem qq1:qaD [CS.int IntKind.i64,CS.int IntKind.i64] (EL [a,b]) 0 = true:=rfl
theorem qq2:qaD [CS.int IntKind.i64,CS.int IntKind.i64] (EL [a,b]) 1 = true:=rfl
theorem qq4:intOf (cellAt (EL [a,b]) 0 1) = a.n:=rfl
theorem qq5:intOf (cellAt (EL [a,b]) 1 1) = b.n:=rfl
theorem qXj:intOf (cellAt (EL [a,b]) 0 0) = a.ty:=rfl
theorem qXk:intOf (cellAt (EL [a,b]) 1 0) = b.ty:=rfl
theorem qq3:IntKind.i64.wrap (((EL [a,b]).length:Int) - 1) = 1:=rfl
theorem qZ1 (h5:5 <= op) (h8:op <= 8) (hr:qaZ op [a.ty,b.ty] = (t,true)) (va:qa0 a = true) (vb:qa0 b = true) (ha:i64 a.n) (hb:i64 b.n):(qul op (EL [a,b]) t).ev = some (trp (qhn op t a b)):=by
 have ha':=ha
 have hb':=hb
 obtain ⟨a0,a1⟩:=ha'
 obtain ⟨b0,b1⟩:=hb'
 have iHa:inH a.n:=by simp only [inH]; omega
 have iHb:inH b.n:=by simp only [inH]; omega
 have:op = 5 \/ op = 6 \/ op = 7 \/ op = 8:=by omega
 rcases this with rfl | rfl | rfl | rfl
 ·have ho:qhn 5 t a b = qjq t (a.n + b.n):=rfl
  rw [ho]
  rw [qul,qq3,qq1,qq2,qq4,qq5,qaw ha,qaw hb,ev_br,cond_true,ev_bi_some,ev_br,cond_true,ev_bi_some,ev_br,show ((5:Int) == 5) = true from rfl,cond_true,qos iHa iHb,ev_bi_some,qbo,ev_bi_some,ev_at]
 ·have ho:qhn 6 t a b = qjq t (a.n - b.n):=rfl
  rw [ho]
  rw [qul,qq3,qq1,qq2,qq4,qq5,qaw ha,qaw hb,ev_br,cond_true,ev_bi_some,ev_br,cond_true,ev_bi_some,ev_br,show ((6:Int) == 5) = false from rfl,cond_false,ev_br,show ((6:Int) == 6) = true from rfl,cond_true,qh7 iHa iHb,ev_bi_some,qbo,ev_bi_some,ev_at]
 ·have ho:qhn 7 t a b = qAj t a b:=rfl
  rw [ho]
  rw [qul,qq3,qq1,qq2,qq4,qq5,qaw ha,qaw hb,ev_br,cond_true,ev_bi_some,ev_br,cond_true,ev_bi_some,ev_br,show ((7:Int) == 5) = false from rfl,cond_false,ev_br,show ((7:Int) == 6) = false from rfl,cond_false,ev_br,show ((7:Int) == 9) = false from rfl,cond_false,ev_br,show ((7:Int) == 7) = true from rfl,cond_true,ev_br,cond_true,ev_br,cond_true,qXj,qXk,qy4 hr ha hb va vb,ev_bi_some,ev_at]
 ·have ho:qhn 8 t a b = qFI t a b:=rfl
  rw [ho]
  rw [qul,qq3,qq1,qq2,qq4,qq5,qaw ha,qaw hb,ev_br,cond_true,ev_bi_some,ev_br,cond_true,ev_bi_some,ev_br,show ((8:Int) == 5) = false from rfl,cond_false,ev_br,show ((8:Int) == 6) = false from rfl,cond_false,ev_br,show ((8:Int) == 9) = false from rfl,cond_false,ev_br,show ((8:Int) == 7) = false from rfl,cond_false,ev_br,show ((8:Int) == 8) = true from rfl,cond_true,ev_br,cond_true,ev_br,cond_true,qXj,qXk,qEN hr ha hb va,ev_bi_some,ev_at]
theorem qPd {n:Int} (h0:10 <= op) (h1:op <= 15) (hc:qfz op (EL [a,b]) = some (5,n)) (ha:i64 a.n) (hb:i64 b.n):(qul op (EL [a,b]) t).ev = some (5,n,0):=by
 have n5:(op == 5) = false:=by rw [beq_eq_false_iff_ne]; omega
 have n6:(op == 6) = false:=by rw [beq_eq_false_iff_ne]; omega
 have n9:(op == 9) = false:=by rw [beq_eq_false_iff_ne]; omega
 have n7:(op == 7) = false:=by rw [beq_eq_false_iff_ne]; omega
 have n8:(op == 8) = false:=by rw [beq_eq_false_iff_ne]; omega
 have n17:(op == 17) = false:=by rw [beq_eq_false_iff_ne]; omega
 have n18:(op == 18) = false:=by rw [beq_eq_false_iff_ne]; omega
 have n19:(op == 19) = false:=by rw [beq_eq_false_iff_ne]; omega
 rw [qul,qq3,qq1,qq2,qq4,qq5,qaw ha,qaw hb,ev_br,cond_true,ev_bi_some,ev_br,cond_true,ev_bi_some,ev_br,n5,cond_false,ev_br,n6,cond_false,ev_br,n9,cond_false,ev_br,n7,cond_false,ev_br,n8,cond_false,ev_br,n17,cond_false,ev_br,n18,cond_false,ev_br,n19,cond_false,hc,ev_bi_some,ev_at]
theorem qZ2 {n s:Int} (h:op = 17 \/ op = 18) (hc:qfD op (EL [a,b]) = some (s,n)) (ha:i64 a.n) (hb:i64 b.n):(qul op (EL [a,b]) t).ev = some (s,n,0):=by
 rcases h with rfl | rfl
 ·rw [qul,qq3,qq1,qq2,qq4,qq5,qaw ha,qaw hb,ev_br,cond_true,ev_bi_some,ev_br,cond_true,ev_bi_some,ev_br,show ((17:Int) == 5) = false from rfl,cond_false,ev_br,show ((17:Int) == 6) = false from rfl,cond_false,ev_br,show ((17:Int) == 9) = false from rfl,cond_false,ev_br,show ((17:Int) == 7) = false from rfl,cond_false,ev_br,show ((17:Int) == 8) = false from rfl,cond_false,ev_br,show ((17:Int) == 17) = true from rfl,cond_true,ev_br,cond_true,hc,ev_bi_some,ev_at]
 ·rw [qul,qq3,qq1,qq2,qq4,qq5,qaw ha,qaw hb,ev_br,cond_true,ev_bi_some,ev_br,cond_true,ev_bi_some,ev_br,show ((18:Int) == 5) = false from rfl,cond_false,ev_br,show ((18:Int) == 6) = false from rfl,cond_false,ev_br,show ((18:Int) == 9) = false from rfl,cond_false,ev_br,show ((18:Int) == 7) = false from rfl,cond_false,ev_br,show ((18:Int) == 8) = false from rfl,cond_false,ev_br,show ((18:Int) == 17) = false from rfl,cond_false,ev_br,show ((18:Int) == 18) = true from rfl,cond_true,ev_br,cond_true,hc,ev_bi_some,ev_at]
theorem qZ4 (hr:qaZ op [a.ty,b.ty] = (t,true)) (va:qa0 a = true) (vb:qa0 b = true) (ha:i64 a.n) (hb:i64 b.n):(qul op (EL [a,b]) t).ev = some (trp (qhn op t a b)):=by
 rcases qcs (qcI hr).2.2 with ⟨u1,u2,u3⟩ | ⟨u1,u2,u3⟩ | ⟨u1,u2,u3,u4⟩ | ⟨u1,u2,u3,u4⟩
 ·exact qZ1 u1 u2 hr va vb ha hb
 ·subst u3
  rw [qPd (by omega) (by omega) (qge (by omega) (by omega) (by omega)) ha hb]
  have:op = 10 \/ op = 11 \/ op = 12 \/ op = 13:=by omega
  rcases this with rfl | rfl | rfl | rfl <;> rfl
 ·subst u4
  rw [qPd (by omega) (by omega) (qge (by omega) (by omega) (fun _=>⟨(qbk u2).1 va,(qbk u3).1 vb⟩)) ha hb]
  rcases u1 with rfl | rfl <;> rfl
 ·rw [qZ2 u1 (qrd u1 u2) ha hb]
  subst u4
  rcases u1 with rfl | rfl <;> rfl
end
theorem qPe {t:Int} {a b c:Vl} (hr:qaZ 19 [a.ty,b.ty,c.ty] = (t,true)) (ha:i64 a.n) (hc:i64 c.n):(qul 19 (EL [a,b,c]) t).ev = some (trp (opV 19 t [a,b,c])):=by
 have e0:qaD [CS.int IntKind.i64,CS.int IntKind.i64] (EL [a,b,c]) 0 = true:=rfl
 have e2:qaD [CS.int IntKind.i64,CS.int IntKind.i64] (EL [a,b,c]) 2 = true:=rfl
 have q0:intOf (cellAt (EL [a,b,c]) 0 1) = a.n:=rfl
 have q2:intOf (cellAt (EL [a,b,c]) 2 1) = c.n:=rfl
 have el:IntKind.i64.wrap (((EL [a,b,c]).length:Int) - 1) = 2:=rfl
 obtain ⟨g1,_,_,g2,g3⟩:=qd2 hr
 have ho:opV 19 t [a,b,c] = (⟨t,if a.n = 1 then b.n else c.n⟩,0):=rfl
 rw [ho]
 rw [qul,el,e0,e2,q0,q2,qaw ha,qaw hc,ev_br,cond_true,ev_bi_some,ev_br,cond_true,ev_bi_some,ev_br,show ((19:Int) == 5) = false from rfl,cond_false,ev_br,show ((19:Int) == 6) = false from rfl,cond_false,ev_br,show ((19:Int) == 9) = false from rfl,cond_false,ev_br,show ((19:Int) == 7) = false from rfl,cond_false,ev_br,show ((19:Int) == 8) = false from rfl,cond_false,ev_br,show ((19:Int) == 17) = false from rfl,cond_false,ev_br,show ((19:Int) == 18) = false from rfl,cond_false,ev_br,show ((19:Int) == 19) = true from rfl,cond_true,qto,ev_bi_some,ev_at]
 by_cases h:a.n = 1
 ·rw [if_pos h,if_pos h,g3]
 ·rw [if_neg h,if_neg h,g3,g2]
theorem qZ5 {op t:Int} {l:List Vl} (hr:qaZ op (l.map (·.ty)) = (t,true)) (hall:∀ x ∈ l,qa0 x = true) (h64:∀ x ∈ l,i64 x.n):(qul op (EL l) t).ev = some (trp (opV op t l)):=by
 match l,hr,hall,h64 with
 | [],hr,_,_=>cases hr
 | [a],hr,hall,h64=>exact qZ3 hr (hall a (by simp)) (h64 a (by simp))
 | [a,b],hr,hall,h64=>exact qZ4 hr (hall a (by simp)) (hall b (by simp)) (h64 a (by simp)) (h64 b (by simp))
 | [a,b,c],hr,hall,h64=>
  obtain ⟨_,rfl,_⟩:=qd2 hr
  exact qPe hr (h64 a (by simp)) (h64 c (by simp))
 | a :: b :: c :: d :: l,hr,_,_=>
  exfalso
  have:(qaZ op ((a :: b :: c :: d :: l).map (·.ty))).2 = false:=by
   unfold qaZ
   cases (List.map (fun x=>x.ty) (a :: b :: c :: d :: l)).all qaM <;> rfl
  rw [hr] at this; cases this
theorem qzw {op:Int} {l:List Vl} (hl:l.length <= 1000) (h64:∀ x ∈ l,i64 x.n):qjL op (EL l) = some (trp (qdG op l)):=by
 have hb:l.length <= big:=by simp only [big]; omega
 have L0:=qz4 (op:=op) (x3:=0) (x4:=0) hl
 have hr:=qnU (l.map (·.ty)) op
 by_cases hne:l = []
 ·subst hne
  rw [if_pos rfl] at L0
  have hr':qc8 op [] = some (qaZ op []):=hr
  rw [qrM,qjm,L0]
  simp only [pj_some,if_true,ev_bi_some,sl_inl,hr']
  rfl
 rw [if_neg hne] at L0
 rw [qrM,qjm,L0]
 have hlen:((EL l).length:Int) = (l.length:Int):=by simp
 have hpos:0 < l.length:=List.length_pos_iff.2 hne
 have hz:(((EL l).length:Int) == 0) = false:=by rw [hlen,beq_eq_false_iff_ne]; omega
 have p0:∀ {τ:Type} (w:τ),pj 0 (some (1,w)) = none:=fun _=>rfl
 have p1:∀ {τ:Type} (w:τ),pj 1 (some (1,w)) = some w:=fun _=>rfl
 rw [p0,ev_bi_none,p1,ev_bi_some]
 simp only [sr_inr,hr,ev_bi_some,hz]
 unfold qdG
 cases h1:(qaZ op (l.map (·.ty))).2
 ·rfl
 ·have L1:=qz5 (op:=op) (t:=(qaZ op (l.map (·.ty))).1) (x4:=0) (x5:=0) hb
  rw [qax] at L1
  have ha:(l.any fun x=>!qa0 x) = !l.all qa0:=by rw [List.all_eq_not_any_not,Bool.not_not]
  rw [ha] at L1
  simp only [Bool.not_true,br_eq,cond_false,ev_bi_some,ev_br]
  cases h2:l.all qa0
  ·rw [h2] at L1
   have L1':qfM (op,EL l,(qaZ op (l.map (·.ty))).1,0,0,0) = some (0,_):=L1
   rw [L1']
   rfl
  ·rw [h2] at L1
   have L1':qfM (op,EL l,(qaZ op (l.map (·.ty))).1,0,0,0) = some (1,_):=L1
   rw [L1',p0,ev_bi_none,p1,ev_bi_some]
   exact qZ5 (by rw [<- h1]) (List.all_eq_true.1 h2) h64
end Go.Proofs.H15p

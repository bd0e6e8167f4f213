/- Evaluation: what the printed functions of the program come to. -/
import Derived.Test.YthljpgljbpdmjaaGreatDoorX15pWid
import Derived.Test.YthljpgljbpdmjaaGreatDoorEvB
set_option linter.unusedVariables false
set_option linter.unusedSimpArgs false
set_option linter.unnecessarySimpa false
namespace Go.Proofs.H15p
open Go Go.Eng Go.Tk
set_option maxRecDepth 20000
def nIf (r:Int):Int × Int:=if i64 r then (r,0) else (0,6)
theorem qEO {s t a b:Int} (ha:i64 a) (hb:i64 b) (hr:s ≠ t /\ s ≠ 1 /\ t ≠ 1 -> (((a * b).natAbs:Nat):Int) < 18446744073709551616000000):qwr s a t b = some (nIf (if s ≠ t /\ s ≠ 1 /\ t ≠ 1 then qpU (a * b) 1000000 else a * b)):=by
 rw [qJV,qvw,qzJ ha hb]
 simp only [ev_bi_some]
 by_cases c1:s = t
 ·have e:(s != t) = false:=by simpa using c1
  rw [e,if_neg (fun h=>h.1 c1)]
  simp only [br_eq,cond_false,ev_bi_some,ev_br,qfB,nIf]
  by_cases k:i64 (a * b)
  ·simp only [true_and,if_pos k]; rfl
  ·simp only [true_and,if_neg k]; rfl
 ·have e:(s != t) = true:=by simpa using c1
  rw [e]
  by_cases c2:s = 1
  ·have e2:(s != 1) = false:=by simpa using c2
   rw [e2,if_neg (fun h=>h.2.1 c2)]
   simp only [br_eq,cond_true,cond_false,ev_bi_some,ev_br,qfB,nIf]
   by_cases k:i64 (a * b)
   ·simp only [true_and,if_pos k]; rfl
   ·simp only [true_and,if_neg k]; rfl
  ·have e2:(s != 1) = true:=by simpa using c2
   rw [e2]
   by_cases c3:t = 1
   ·have e3:(t != 1) = false:=by simpa using c3
    rw [e3,if_neg (fun h=>h.2.2 c3)]
    simp only [br_eq,cond_true,cond_false,ev_bi_some,ev_br,qfB,nIf]
    by_cases k:i64 (a * b)
    ·simp only [true_and,if_pos k]; rfl
    ·simp only [true_and,if_neg k]; rfl
   ·have e3:(t != 1) = true:=by simpa using c3
    have hd:dvs (a * b).natAbs 1000000:=⟨by omega,by omega,by omega,.inr ⟨rfl,hr ⟨c1,c2,c3⟩⟩⟩
    rw [e3,if_pos ⟨c1,c2,c3⟩]
    simp only [br_eq,cond_true,ev_bi_some,ev_br,qjW hd,nIf]
    rfl
theorem qSa {a b:Int} (ha:i64 a) (hb:b ≠ 0) (h:¬ (a = -9223372036854775808 /\ b = -1)):i64 (a.tdiv b):=by
 obtain ⟨a0,a1⟩:=ha
 have h1:=Int.natAbs_tdiv_le_natAbs a b
 by_cases c:a = -9223372036854775808
 ·subst c
  have hb1:b ≠ -1:=fun e=>h ⟨rfl,e⟩
  by_cases d:0 < b
  ·have:(-9223372036854775808:Int).tdiv b <= 0:=by
    have:=Int.neg_tdiv (a:=9223372036854775808) (b:=b)
    rw [show (-9223372036854775808:Int) = -9223372036854775808 from rfl] at *
    have p:=Int.tdiv_nonneg (a:=9223372036854775808) (b:=b) (by omega) (by omega)
    omega
   exact ⟨by omega,by omega⟩
  ·have e1:(-9223372036854775808:Int).tdiv b = (9223372036854775808:Int).tdiv (-b):=by rw [Int.tdiv_neg]; rw [show (-9223372036854775808:Int) = -(9223372036854775808) from rfl,Int.neg_tdiv]
   rw [e1,Int.tdiv_eq_ediv_of_nonneg (by omega)]
   have h2:(2:Int) <= -b:=by omega
   have h3:=Int.ediv_nonneg (show (0:Int) <= 9223372036854775808 by omega) (show 0 <= -b by omega)
   have h4:(9223372036854775808:Int) / (-b) < 9223372036854775808:=Int.ediv_lt_of_lt_mul (by omega) (by omega)
   exact ⟨by omega,by omega⟩
 ·exact ⟨by omega,by omega⟩
theorem qEF {s t a b:Int} (ha:i64 a) (hb:i64 b) (h0:b ≠ 0) (hr:s ≠ t -> -9223372036854775808 < a) :
  qwi s a t b = some (if s = t then nIf (a.tdiv b) else if b = -9223372036854775808 then (0,0) else if b < 0 then nIf (qpU (-a) (-b)) else nIf (qpU a b)):=by
 rw [qJD,qvf]
 have ha':=ha
 have hb':=hb
 obtain ⟨a0,a1⟩:=ha'
 obtain ⟨b0,b1⟩:=hb'
 rw [ev_br]
 by_cases c:s = t
 ·rw [if_pos c,show (s == t) = true by simpa using c,cond_true]
  by_cases d:a = -9223372036854775808 /\ b = -1
  ·obtain ⟨rfl,rfl⟩:=d
   rfl
  ·have hi:=qSa ha h0 d
   have e1:br (a == -9223372036854775808) (some (b == -1)) (some false) = some false:=nov fun h=>by
    rw [beq_eq_false_iff_ne]
    exact fun e=>d ⟨by simpa using h,e⟩
   have e2:IntKind.i64.wrap (a.tdiv b) = a.tdiv b:=by obtain ⟨i0,i1⟩:=hi; rw [qjr]; omega
   rw [e1,ev_bi_some,ev_br,cond_false,ev_br,decide_eq_true h0,cond_true,ev_at,e2]
   unfold nIf
   rw [if_pos hi]
 ·rw [if_neg c,show (s == t) = false by simpa using c,cond_false,ev_br]
  have hl:=hr c
  by_cases d:b = -9223372036854775808
  ·rw [if_pos d,show (b == -9223372036854775808) = true by simpa using d]
   rfl
  ·rw [if_neg d,show (b == -9223372036854775808) = false by simpa using d,cond_false,ev_br]
   by_cases k:b < 0
   ·have e1:IntKind.i64.wrap (0 - a) = -a:=by rw [qjr]; omega
    have e2:IntKind.i64.wrap (0 - b) = -b:=by rw [qjr]; omega
    rw [if_pos k,decide_eq_true k,cond_true,e1,e2,qbh (show i64 (-a) from ⟨by omega,by omega⟩),ev_bi_some,qjW (show dvs (-a).natAbs (-b) from ⟨by omega,by omega,by omega,.inl (by omega)⟩)]
    rfl
   ·rw [if_neg k,decide_eq_false k,cond_false,qbh ha,ev_bi_some,qjW (show dvs a.natAbs b from ⟨by omega,by omega,by omega,.inl (by omega)⟩)]
    rfl
def qCQ (op:Int) (a b:Vl):Int × Int:=
 if op = 5 then nIf (a.n + b.n) else if op = 6 then nIf (a.n - b.n)
 else if op = 7 then nIf (if a.ty ≠ b.ty /\ a.ty ≠ 1 /\ b.ty ≠ 1 then qpU (a.n * b.n) 1000000 else a.n * b.n)
 else if b.n = 0 then (0,7) else if a.ty = b.ty then nIf (a.n.tdiv b.n) else if b.n = -9223372036854775808 then (0,0) else if b.n < 0 then nIf (qpU (-a.n) (-b.n)) else nIf (qpU a.n b.n)
theorem qkd {r:Int}:qfA (wid r).1 (wid r).2 0 = some (nIf r):=by
 rw [qfB]
 simp only [true_and,nIf]
theorem qnB {a:Vl} (ha:i64 a.n):qed 9 (EL [a]) = some (nIf (-a.n)):=by
 rw [qwd,qqZ]
 have e0:qaD [CS.int IntKind.i64,CS.int IntKind.i64] (EL [a]) 0 = true:=rfl
 have e1:intOf (cellAt (EL [a]) 0 1) = a.n:=rfl
 have ha':=ha
 obtain ⟨a0,a1⟩:=ha'
 rw [ev_br,e0,cond_true,ev_br,show ((9:Int) == 9) = true from rfl,cond_true,e1,qbh (n:=0) ⟨by omega,by omega⟩,ev_bi_some,qbh ha,ev_bi_some,
  qop (a:=0) (b:=a.n) ⟨by omega,by omega⟩ ⟨by omega,by omega⟩ ⟨by omega,by omega⟩,ev_bi_some,qkd,ev_bi_some,ev_at,Int.zero_sub]
theorem qnC {op:Int} {a b:Vl} (h5:5 <= op) (h8:op <= 8) (ha:i64 a.n) (hb:i64 b.n) (hm:op = 7 -> a.ty ≠ b.ty /\ a.ty ≠ 1 /\ b.ty ≠ 1 -> (((a.n * b.n).natAbs:Nat):Int) < 18446744073709551616000000) (hd:op = 8 -> a.ty ≠ b.ty -> -9223372036854775808 < a.n) :
  qed op (EL [a,b]) = some (qCQ op a b):=by
 rw [qwd,qqZ]
 have e0:qaD [CS.int IntKind.i64,CS.int IntKind.i64] (EL [a,b]) 0 = true:=rfl
 have e1:qaD [CS.int IntKind.i64,CS.int IntKind.i64] (EL [a,b]) 1 = true:=rfl
 have q1:intOf (cellAt (EL [a,b]) 0 1) = a.n:=rfl
 have q2:intOf (cellAt (EL [a,b]) 1 1) = b.n:=rfl
 have q3:intOf (cellAt (EL [a,b]) 0 0) = a.ty:=rfl
 have q4:intOf (cellAt (EL [a,b]) 1 0) = b.ty:=rfl
 have ha':=ha
 have hb':=hb
 obtain ⟨a0,a1⟩:=ha'
 obtain ⟨b0,b1⟩:=hb'
 rw [ev_br,e0,cond_true,ev_br,show (op == 9) = false by rw [beq_eq_false_iff_ne]; omega,cond_false,ev_br,e1,cond_true,q1,q2,q3,q4]
 have h:op = 5 \/ op = 6 \/ op = 7 \/ op = 8:=by omega
 rcases h with rfl | rfl | rfl | rfl
 ·rw [ev_br,show ((5:Int) == 5) = true from rfl,cond_true,qbh ha,ev_bi_some,qbh hb,ev_bi_some,
   qom (a:=a.n) (b:=b.n) ⟨by omega,by omega⟩ ⟨by omega,by omega⟩ ⟨by omega,by omega⟩,ev_bi_some,qkd,ev_bi_some,ev_at]
  rfl
 ·rw [ev_br,show ((6:Int) == 5) = false from rfl,cond_false,ev_br,show ((6:Int) == 6) = true from rfl,cond_true,qbh ha,ev_bi_some,qbh hb,ev_bi_some,
   qop (a:=a.n) (b:=b.n) ⟨by omega,by omega⟩ ⟨by omega,by omega⟩ ⟨by omega,by omega⟩,ev_bi_some,qkd,ev_bi_some,ev_at]
  rfl
 ·rw [ev_br,show ((7:Int) == 5) = false from rfl,cond_false,ev_br,show ((7:Int) == 6) = false from rfl,cond_false,ev_br,show ((7:Int) == 7) = true from rfl,cond_true,qEO ha hb (hm rfl),ev_bi_some,ev_at]
  rfl
 ·rw [ev_br,show ((8:Int) == 5) = false from rfl,cond_false,ev_br,show ((8:Int) == 6) = false from rfl,cond_false,ev_br,show ((8:Int) == 7) = false from rfl,cond_false,ev_br]
  by_cases h0:b.n = 0
  ·rw [h0]
   unfold qCQ
   rw [if_neg (by decide),if_neg (by decide),if_neg (by decide),if_pos h0]
   rfl
  ·rw [show (b.n == 0) = false by rw [beq_eq_false_iff_ne]; exact h0,cond_false,qEF ha hb h0 (hd rfl),ev_bi_some,ev_at]
   unfold qCQ
   rw [if_neg (show ¬ (8:Int) = 5 by decide),if_neg (show ¬ (8:Int) = 6 by decide),if_neg (show ¬ (8:Int) = 7 by decide),if_neg h0]
theorem qhX {t n:Int}:qew t n = some (qa0 ⟨t,n⟩):=by
 rw [qDA,qmd]
 unfold qa0
 by_cases c1:t = 1
 ·subst c1; rfl
 rw [ev_br,show (t == 1) = false by simpa using c1,cond_false,if_neg c1]
 by_cases c2:t = 2
 ·subst c2
  simp only [ev_br,beq_self_eq_true,cond_true,if_true]
  cases h:decide (n >= -1000000000000) <;> simp_all
 rw [ev_br,show (t == 2) = false by simpa using c2,cond_false,if_neg c2]
 by_cases c3:t = 3
 ·subst c3
  simp only [ev_br,beq_self_eq_true,cond_true,if_true]
  cases h:decide (n >= -1000000000) <;> simp_all
 rw [ev_br,show (t == 3) = false by simpa using c3,cond_false,if_neg c3]
 by_cases c4:t = 4
 ·subst c4
  simp only [ev_br,beq_self_eq_true,cond_true,if_true]
  cases h:decide (n >= 0) <;> simp_all
 rw [ev_br,show (t == 4) = false by simpa using c4,cond_false,if_neg c4]
 by_cases c5:t = 5
 ·subst c5
  simp only [ev_br,beq_self_eq_true,cond_true,if_true]
  cases h:(n == 0) <;> simp_all
 rw [ev_br,show (t == 5) = false by simpa using c5,cond_false,if_neg c5]
 rfl
theorem qze {b:Bool}:qgm b = some (bI b):=by
 rw [qDz,qmc]; cases b <;> rfl
theorem qvZ {a:Vl} (h:a.n = 0 \/ a.n = 1):qdJ 16 (EL [a]) = some (1 - a.n):=by
 rw [qjI,qhm]
 have e0:qaD [CS.int IntKind.i64,CS.int IntKind.i64] (EL [a]) 0 = true:=rfl
 have e1:intOf (cellAt (EL [a]) 0 1) = a.n:=rfl
 rw [ev_br,e0,cond_true,ev_br,show ((16:Int) == 16) = true from rfl,cond_true,e1,ev_at]
 rcases h with h | h <;> rw [h] <;> rfl
theorem qyW {a b c:Vl}:qdJ 19 (EL [a,b,c]) = some (if a.n = 1 then b.n else c.n):=by
 rw [qjI,qhm]
 have e0:qaD [CS.int IntKind.i64,CS.int IntKind.i64] (EL [a,b,c]) 0 = true:=rfl
 have e1:qaD [CS.int IntKind.i64,CS.int IntKind.i64] (EL [a,b,c]) 1 = true:=rfl
 have e2:qaD [CS.int IntKind.i64,CS.int IntKind.i64] (EL [a,b,c]) 2 = true:=rfl
 have q0:intOf (cellAt (EL [a,b,c]) 0 1) = a.n:=rfl
 have q1:intOf (cellAt (EL [a,b,c]) 1 1) = b.n:=rfl
 have q2:intOf (cellAt (EL [a,b,c]) 2 1) = c.n:=rfl
 rw [ev_br,e0,cond_true,ev_br,show ((19:Int) == 16) = false from rfl,cond_false,ev_br,show ((19:Int) == 19) = true from rfl,cond_true,q0,q1,q2,ev_br,ev_br,ev_br,e1,e2,cond_true,cond_true,ev_at,ev_at]
 by_cases h:a.n = 1
 ·rw [if_pos h,show (a.n == 1) = true by simpa using h]; rfl
 ·rw [if_neg h,show (a.n == 1) = false by simpa using h]; rfl
def qCS (op:Int) (a b:Vl):Int:=
 if op = 10 then bI (a.n == b.n) else if op = 11 then bI (a.n != b.n) else if op = 12 then bI (decide (a.n < b.n)) else if op = 13 then bI (decide (a.n <= b.n))
 else if op = 14 then a.n * b.n else if op = 15 then max a.n b.n else if op = 17 then min a.n b.n else max a.n b.n
theorem qv2 {op:Int} {a b:Vl} (h1:10 <= op) (h2:op <= 18) (h3:op ≠ 16) (ha:op = 14 -> (a.n = 0 \/ a.n = 1) /\ (b.n = 0 \/ b.n = 1)):qdJ op (EL [a,b]) = some (qCS op a b):=by
 rw [qjI,qhm]
 have e0:qaD [CS.int IntKind.i64,CS.int IntKind.i64] (EL [a,b]) 0 = true:=rfl
 have e1:qaD [CS.int IntKind.i64,CS.int IntKind.i64] (EL [a,b]) 1 = true:=rfl
 have q0:intOf (cellAt (EL [a,b]) 0 1) = a.n:=rfl
 have q1:intOf (cellAt (EL [a,b]) 1 1) = b.n:=rfl
 have hmax:(if b.n > a.n then b.n else a.n) = max a.n b.n:=by split <;> omega
 have hmin:(if b.n < a.n then b.n else a.n) = min a.n b.n:=by split <;> omega
 rw [ev_br,e0,cond_true,ev_br,show (op == 16) = false by rw [beq_eq_false_iff_ne]; exact h3,cond_false,ev_br,show (op == 19) = false by rw [beq_eq_false_iff_ne]; omega,cond_false,ev_br,e1,cond_true,q0,q1,hmax,hmin]
 simp only [qze,ev_bi_some,ev_br,ev_at]
 have h:op = 10 \/ op = 11 \/ op = 12 \/ op = 13 \/ op = 14 \/ op = 15 \/ op = 17 \/ op = 18:=by omega
 rcases h with rfl | rfl | rfl | rfl | rfl | rfl | rfl | rfl
 ·rfl
 ·rfl
 ·rfl
 ·rfl
 ·obtain ⟨u,v⟩:=ha rfl
  unfold qCS
  rcases u with u | u <;> rcases v with v | v <;> rw [u,v] <;> rfl
 ·rfl
 ·rfl
 ·rfl
theorem qAI {l:List Vl} {i:Nat} (h:i < l.length):(l.drop i).all qa0 = (qa0 l[i] && (l.drop (i + 1)).all qa0):=by
 rw [List.drop_eq_getElem_cons h,List.all_cons]
theorem qtW {op t x6 x7:Int} {l:List Vl} (hl:l.length <= big):∀ (k i:Nat),i + k = l.length -> ∃ j:Int,qpb (op,EL l,t,EL l,(l.length:Int),(i:Int),x6,x7) = some (if (l.drop i).all qa0 then 1 else 0,(op,EL l,t,EL l,(l.length:Int),j,x6,x7)):=by
 intro k
 induction k with
 | zero=>
  intro i hi
  refine ⟨(i:Int),?_⟩
  have hd:l.drop i = []:=List.drop_eq_nil_of_le (by omega)
  rw [qgw,hd]
  refine qak ?_
  simp only [qkP,qqK]
  rw [ev_br,decide_eq_false (show ¬ (i:Int) < (l.length:Int) by omega)]
  rfl
 | succ k ih=>
  intro i hi
  have hlt:i < l.length:=by omega
  have hw:=qah hlt hl
  have hst:(qkP (op,EL l,t,EL l,(l.length:Int),(i:Int),x6,x7)).ev = if qa0 l[i] then some (.next (op,EL l,t,EL l,(l.length:Int),((i + 1:Nat):Int),x6,x7)) else some (.done 0):=by
   simp only [qkP,qqK]
   rw [ev_br,decide_eq_true (show (i:Int) < (l.length:Int) by omega),cond_true,ev_br,okL hlt,cond_true,ql0 hlt,ql1 hlt,qhX,ev_bi_some,ev_br,hw]
   cases qa0 l[i] <;> rfl
  cases hv:qa0 l[i]
  ·refine ⟨(i:Int),?_⟩
   rw [qgw,qAI hlt,hv]
   refine qak ?_
   rw [hst,hv]; rfl
  ·obtain ⟨j,hj⟩:=ih (i + 1) (by omega)
   refine ⟨j,?_⟩
   rw [qAI hlt,hv,Bool.true_and,<- hj,qgw,qgw]
   refine qaA ?_
   rw [hst,hv]; rfl
theorem qtV {op x5 x6:Int} {l:List Vl} (hl:l.length <= 1000):∀ (k i:Nat),i + k = l.length -> qpa (.inr (op,EL l,EL l,(l.length:Int),(i:Int),x5,x6,EI ((l.take i).map (·.ty)))) = some (1,.inr (op,EL l,EL l,(l.length:Int),(l.length:Int),x5,x6,EI (l.map (·.ty)))):=by
 intro k
 induction k with
 | zero=>
  intro i hi
  have he:i = l.length:=by omega
  subst he
  rw [qdU,List.take_length]
  refine qak ?_
  simp only [qkO,Sum.elim_inr,qqJ]
  rw [ev_br,decide_eq_false (show ¬ (l.length:Int) < (l.length:Int) by omega)]
  rfl
 | succ k ih=>
  intro i hi
  have hlt:i < l.length:=by omega
  have hw:=qah hlt (show l.length <= big by simp only [big]; omega)
  rw [<- ih (i + 1) (by omega),qdU,qdU]
  refine qaA ?_
  have hr:room ((EI ((l.take i).map (·.ty))).length + 1) 8 = true:=by
   simp only [room,lim,List.length_map,List.length_take,decide_eq_true_eq]; omega
  simp only [qkO,Sum.elim_inr,qqJ]
  rw [ev_br,decide_eq_true (show (i:Int) < (l.length:Int) by omega),cond_true,ev_br,okL hlt,cond_true,ql0 hlt,ev_br,hr,cond_true,ev_at,hw]
  have ht:l.take (i + 1) = l.take i ++ [l[i]]:=by rw [List.take_add_one,List.getElem?_eq_getElem hlt]; rfl
  rw [ht]
  simp only [List.map_append,List.map_cons,List.map_nil]
theorem qiO {op x5 x6:Int} {l:List Vl} (hl:l.length <= 1000):qpa (.inl (op,EL l,EL l,(l.length:Int),0,x5,x6)) = if l = [] then some (0,.inl (op,EL l,EL l,(l.length:Int),0,x5,x6)) else some (1,.inr (op,EL l,EL l,(l.length:Int),(l.length:Int),x5,x6,EI (l.map (·.ty)))):=by
 by_cases h:l = []
 ·subst h
  rw [if_pos rfl,qdU]
  exact qak rfl
 ·rw [if_neg h]
  have hlt:0 < l.length:=List.length_pos_iff.2 h
  have:=qtV (op:=op) (x5:=x5) (x6:=x6) hl (l.length - 1) 1 (by omega)
  rw [<- this,qdU,qdU]
  refine qaA ?_
  have q0:=ql0 (l:=l) (n:=0) hlt
  have k0:=okL (l:=l) (n:=0) hlt
  rw [show ((0:Nat):Int) = 0 from rfl] at q0 k0
  simp only [qkO,Sum.elim_inl,qxY]
  rw [ev_br,decide_eq_true (show (0:Int) < (l.length:Int) by omega),cond_true,ev_br,k0,cond_true,q0,ev_at]
  cases l with
  | nil=>exact absurd rfl h
  | cons a l=>rfl
noncomputable def qrC (op:Int) (l:List Vl):Int × Int × Int:=
 bif !(qaZ op (l.map (·.ty))).2 then (0,0,3) else bif !l.all qa0 then (0,0,1) else bif (decide (op < 5) || decide (op > 9)) then ((qaZ op (l.map (·.ty))).1,(qdJ op (EL l)).getD 0,0)
 else bif ((qed op (EL l)).getD (0,0)).2 == 0 && !qa0 ⟨(qaZ op (l.map (·.ty))).1,((qed op (EL l)).getD (0,0)).1⟩ then (0,0,6)
  else bif ((qed op (EL l)).getD (0,0)).2 != 0 then (0,0,((qed op (EL l)).getD (0,0)).2) else ((qaZ op (l.map (·.ty))).1,((qed op (EL l)).getD (0,0)).1,0)
theorem qfv {op:Int} {l:List Vl} (hl:l.length <= 1000) (hne:l ≠ []) (hres:∀ k:List Int,k.length <= big -> qdP op (EI k) = some (qaZ op k))
  (hc:(qaZ op (l.map (·.ty))).2 = true -> l.all qa0 = true -> (decide (op < 5) || decide (op > 9)) = true -> ∃ n,qdJ op (EL l) = some n)
  (hk:(qaZ op (l.map (·.ty))).2 = true -> l.all qa0 = true -> (decide (op < 5) || decide (op > 9)) = false -> ∃ n,qed op (EL l) = some n):qdM op (EL l) = some (qrC op l):=by
 have hp0:∀ {τ:Type} (w:τ),pj 0 (some (1,w)) = none:=fun _=>rfl
 have hp1:∀ {τ:Type} (w:τ),pj 1 (some (1,w)) = some w:=fun _=>rfl
 have hp2:∀ {τ:Type} (w:τ),pj 0 (some (0,w)) = some w:=fun _=>rfl
 have hlen:((EL l).length:Int) = (l.length:Int):=by simp
 have hb:l.length <= big:=by simp only [big]; omega
 have L0:=qiO (op:=op) (x5:=0) (x6:=0) hl
 rw [if_neg hne] at L0
 have hr:=hres (l.map (·.ty)) (by simpa using hb)
 obtain ⟨j,hj⟩:=qtW (op:=op) (t:=(qaZ op (l.map (·.ty))).1) (x6:=0) (x7:=0) hb l.length 0 (by omega)
 rw [show ((0:Nat):Int) = 0 from rfl,List.drop_zero] at hj
 rw [qrK,qjk,hlen,L0,hp0,ev_bi_none,hp1,ev_bi_some]
 simp only [sr,hr,ev_bi_some,ev_br,ev_at]
 unfold qrC
 cases h1:(qaZ op (l.map (·.ty))).2
 ·rfl
 ·simp only [Bool.not_true,cond_false]
  rw [hlen,hj]
  cases h2:l.all qa0
  ·rfl
  ·simp only [if_true,hp0,hp1,ev_bi_none,ev_bi_some,Bool.not_true,cond_false]
   have e:br (decide (op < 5)) (some true) (some (decide (op > 9))) = some (decide (op < 5) || decide (op > 9)):=by cases decide (op < 5) <;> rfl
   rw [e,ev_bi_some,ev_br]
   cases h3:(decide (op < 5) || decide (op > 9))
   ·obtain ⟨⟨n,e⟩,hn⟩:=hk h1 h2 h3
    simp only [cond_false,hn,ev_bi_some,qhX,sm_some,gv_some,Option.getD_some,br_eq,cond_true]
    cases h4:(e == 0)
    ·simp only [cond_false,ev_bi_some,ev_br,ev_at,Bool.false_and]
     cases h5:(e != 0)
     ·simp_all
     ·rfl
    ·simp only [cond_true,ev_bi_some,ev_br,ev_at,Bool.true_and]
     cases h5:qa0 ⟨(qaZ op (l.map (·.ty))).1,n⟩
     ·rfl
     ·cases h6:(e != 0) <;> rfl
   ·obtain ⟨n,hn⟩:=hc h1 h2 h3
    simp only [cond_true,hn,ev_bi_some,ev_at,Option.getD_some]
theorem qyV {op:Int} (hres:∀ k:List Int,k.length <= big -> qdP op (EI k) = some (qaZ op k)):qdM op [] = some (0,0,3):=by
 have hp2:∀ {τ:Type} (w:τ),pj 0 (some (0,w)) = some w:=fun _=>rfl
 have L0:qpa (.inl (op,[],[],0,0,0,0)) = some (0,.inl (op,[],[],0,0,0,0)):=qiO (op:=op) (x5:=0) (x6:=0) (l:=[]) (by simp)
 have hr:qdP op [] = some (qaZ op []):=hres [] (by simp [big])
 have h2:(qaZ op []).2 = false:=rfl
 rw [qrK,qjk,show ((([]:List AV).length:Nat):Int) = 0 from rfl,L0,hp2,ev_bi_some]
 simp only [sl,hr,ev_bi_some,ev_br,ev_at,h2]
 rfl
end Go.Proofs.H15p

/- Loans and their prepayment over plain data: a loan that is settled by its quote owes nothing (for TopPrepaid; not used by a claim yet). -/
import Derived.Calls
set_option linter.unusedVariables false
set_option linter.unusedSimpArgs false
set_option linter.unnecessarySimpa false
namespace Go.Tk
structure Du where
 (no day pr it:Int)
def duP (l:List Du):Int:=(l.map (·.pr)).sum
def duI (l:List Du):Int:=(l.map (·.it)).sum
def qaO (l:List Du) (on:Int):List Du:=l.filter fun d=>decide (d.day <= on)
structure Ln where
 (st pp pi:Int)
def qbM (D:List Du) (s:Ln):Bool:=s.pp != duP D || s.pi != duI D
def qci (d:Du):Bool:=decide (0 <= d.day) && (decide (d.day <= 73048) && (decide (0 <= d.pr) && (decide (d.pr <= 1000000000000) && (decide (0 <= d.it) && decide (d.it <= 1000000000000)))))
def qkC:Int -> Option Int -> List Du -> Bool
 | _,_,[]=>true
 | k,b,d :: l=>d.no == k && ((match b with | some x=>decide (x <= d.day) | none=>true) && qkC (k + 1) (some d.day) l)
def qpi (D:List Du) (P:Int) (s:Ln):Bool:=
 decide (0 <= s.pp) && (decide (0 <= s.pi) && (decide (1 <= D.length) && (decide (D.length <= 240) && (D.all qci && (qkC 1 none D && (decide (s.pp <= duP D) && (decide (s.pi <= duI D) && (duP D == P && (bif s.st == 1 then qbM D s else bif s.st == 2 then !qbM D s else true)))))))))
def tkI (D:List Du) (n on:Int) (s:Ln):Int:=if duI (qaO D on) - s.pi > 0 then min n (duI (qaO D on) - s.pi) else 0
def tkP (D:List Du) (n on:Int) (s:Ln):Int:=if duP (qaO D on) - s.pp > 0 /\ n - tkI D n on s ≠ 0 then min (n - tkI D n on s) (duP (qaO D on) - s.pp) else 0
def payT (D:List Du) (n on:Int) (s:Ln):Ln:=
 let t:Ln:=⟨s.st,s.pp + tkP D n on s,s.pi + tkI D n on s⟩
 ⟨bif qbM D t then s.st else 2,t.pp,t.pi⟩
def qs1 (D:List Du) (P n on:Int) (s:Ln):Bool:=qpi D P s && (decide (1 <= n) && (decide (n <= 1000000000000) && (decide (0 <= on) && (decide (on <= 73048) && s.st == 1))))
def qdS (D:List Du) (P:Int) (amt:Du -> Int) (start:Int):Nat -> Ln × Int × Int
 | 0=>(⟨1,0,0⟩,start,0)
 | k + 1=>match qdS D P amt start k,D[k]? with
  | (s,_,q),some d=>bif qs1 D P (amt d) d.day s then (payT D (amt d) d.day s,d.day,q + tkP D (amt d) d.day s) else (s,d.day,q)
  | r,none=>r
theorem qpB:∀ {l:List Du},l.all qci = true -> 0 <= duP l
 | [],_=>Int.le_refl _
 | d :: l,h=>by
  rw [List.all_cons,Bool.and_eq_true] at h
  have h1:=qpB h.2
  have h2:=h.1
  simp only [qci,Bool.and_eq_true,decide_eq_true_eq] at h2
  simp only [duP,List.map_cons,List.sum_cons] at h1 ⊢
  omega
theorem quD:∀ {l:List Du},l.all qci = true -> 0 <= duI l
 | [],_=>Int.le_refl _
 | d :: l,h=>by
  rw [List.all_cons,Bool.and_eq_true] at h
  have h1:=quD h.2
  have h2:=h.1
  simp only [qci,Bool.and_eq_true,decide_eq_true_eq] at h2
  simp only [duI,List.map_cons,List.sum_cons] at h1 ⊢
  omega
theorem qnk {l:List Du} (on:Int) (h:l.all qci = true):(qaO l on).all qci = true:=by
 rw [List.all_eq_true] at h ⊢
 exact fun d hd=>h d (List.mem_filter.1 hd).1
theorem quC {a b:Int} (hab:a <= b):∀ {l:List Du},l.all qci = true -> duI (qaO l a) <= duI (qaO l b)
 | [],_=>Int.le_refl _
 | d :: l,h=>by
  rw [List.all_cons,Bool.and_eq_true] at h
  have h1:=quC hab h.2
  have h2:=h.1
  simp only [qci,Bool.and_eq_true,decide_eq_true_eq] at h2
  by_cases ha:d.day <= a
  ·have hb:d.day <= b:=by omega
   simp only [qaO,List.filter_cons,decide_eq_true ha,decide_eq_true hb,if_true,duI,List.map_cons,List.sum_cons] at h1 ⊢
   omega
  ·by_cases hb:d.day <= b
   ·simp only [qaO,List.filter_cons,decide_eq_false ha,decide_eq_true hb,if_true,duI,List.map_cons,List.sum_cons,Bool.false_eq_true,if_false] at h1 ⊢
    omega
   ·simp only [qaO,List.filter_cons,decide_eq_false ha,decide_eq_false hb,Bool.false_eq_true,if_false] at h1 ⊢
    exact h1
theorem qCK:∀ {l:List Du} {k:Int} {b:Option Int},qkC k b l = true -> ∀ (x:Int),b = some x -> ∀ d ∈ l,x <= d.day
 | [],_,_,_,_,_,d,hd=>by cases hd
 | e :: l,k,b,h,x,hb,d,hd=>by
  subst hb
  simp only [qkC,Bool.and_eq_true,decide_eq_true_eq] at h
  rcases List.mem_cons.1 hd with rfl | hd
  ·exact h.2.1
  ·exact Int.le_trans h.2.1 (qCK h.2.2 _ rfl d hd)
theorem qCJ:∀ {l:List Du} {k:Int} {b:Option Int},qkC k b l = true -> ∀ (i:Nat) {d e:Du},l[i]? = some d -> l[i + 1]? = some e -> d.day <= e.day
 | [],_,_,_,i,d,e,h,_=>by simp at h
 | a :: l,k,b,h,0,d,e,h1,h2=>by
  simp only [qkC,Bool.and_eq_true] at h
  simp only [List.getElem?_cons_zero,Option.some.injEq] at h1
  subst h1
  simp only [Nat.zero_add,List.getElem?_cons_succ] at h2
  exact qCK h.2.2 _ rfl e (List.mem_of_getElem? h2)
 | a :: l,k,b,h,i + 1,d,e,h1,h2=>by
  simp only [qkC,Bool.and_eq_true] at h
  rw [List.getElem?_cons_succ] at h1 h2
  exact qCJ h.2.2 i h1 h2
theorem quE:∀ {l:List Du} {k:Int} {b:Option Int} (on:Int),qkC k b l = true -> l.take (qaO l on).length = qaO l on /\ ∀ d ∈ l.take (qaO l on).length,d.day <= on
 | [],_,_,_,_=>by simp [qaO]
 | a :: l,k,b,on,h=>by
  simp only [qkC,Bool.and_eq_true] at h
  by_cases ha:a.day <= on
  ·obtain ⟨i1,i2⟩:=quE on h.2.2
   have e:qaO (a :: l) on = a :: qaO l on:=by simp [qaO,List.filter_cons,ha]
   rw [e,List.length_cons,List.take_succ_cons]
   refine ⟨by rw [i1],fun d hd=>?_⟩
   rcases List.mem_cons.1 hd with rfl | hd
   ·exact ha
   ·exact i2 d hd
  ·have e:qaO (a :: l) on = []:=by
    simp only [qaO,List.filter_eq_nil_iff,decide_eq_true_eq]
    intro d hd
    rcases List.mem_cons.1 hd with rfl | hd
    ·exact ha
    ·have:=qCK h.2.2 _ rfl d hd
     omega
   rw [e]
   simp
theorem qe7 {D:List Du} {P:Int} {s:Ln} (h:qpi D P s = true):(0 <= s.pp /\ 0 <= s.pi) /\ (1 <= D.length /\ D.length <= 240) /\ D.all qci = true /\ qkC 1 none D = true /\ s.pp <= duP D /\ s.pi <= duI D /\ duP D = P:=by
 simp only [qpi,Bool.and_eq_true,decide_eq_true_eq,beq_iff_eq] at h
 exact ⟨⟨h.1,h.2.1⟩,⟨h.2.2.1,h.2.2.2.1⟩,h.2.2.2.2.1,h.2.2.2.2.2.1,h.2.2.2.2.2.2.1,h.2.2.2.2.2.2.2.1,h.2.2.2.2.2.2.2.2.1⟩
theorem qD7 {D:List Du} {P:Int} {amt:Du -> Int} {start:Int} (hD:D.all qci = true) (ho:qkC 1 none D = true):∀ k,k <= D.length -> (qdS D P amt start k).2.2 = (qdS D P amt start k).1.pp /\ ((qdS D P amt start k).1.pi <= duI (qaO D (qdS D P amt start k).2.1)) /\ (∀ d,D[k - 1]? = some d -> 0 < k -> (qdS D P amt start k).2.1 = d.day) /\ (k = 0 -> (qdS D P amt start k).2.1 = start /\ (qdS D P amt start k).1.pi = 0)
 | 0,_=>by
  refine ⟨rfl,?_,fun _ _ h=>absurd h (Nat.lt_irrefl 0),fun _=>⟨rfl,rfl⟩⟩
  show (0:Int) <= _
  exact quD (qnk _ hD)
 | k + 1,hk=>by
  obtain ⟨i1,i2,i3,i4⟩:=qD7 (P:=P) (amt:=amt) (start:=start) hD ho k (by omega)
  have hget:D[k]? = some D[k]:=List.getElem?_eq_getElem (by omega)
  have hmono:(qdS D P amt start k).1.pi <= duI (qaO D D[k].day):=by
   cases k with
   | zero=>rw [(i4 rfl).2]; exact quD (qnk _ hD)
   | succ j=>
    have hj:D[j]? = some D[j]:=List.getElem?_eq_getElem (by omega)
    have e:=i3 D[j] (by simpa using hj) (by omega)
    rw [e] at i2
    exact Int.le_trans i2 (quC (qCJ ho j hj hget) hD)
  generalize hr:qdS D P amt start k = r at i1 i2 hmono
  obtain ⟨s,dy,q⟩:=r
  have e:qdS D P amt start (k + 1) = bif qs1 D P (amt D[k]) D[k].day s then (payT D (amt D[k]) D[k].day s,D[k].day,q + tkP D (amt D[k]) D[k].day s) else (s,D[k].day,q):=by
   simp only [qdS,hr,hget]
  rw [e]
  simp only at i1 hmono
  have hd:∀ d,D[k + 1 - 1]? = some d -> D[k].day = d.day:=fun d h=>by
   rw [Nat.add_sub_cancel,hget] at h
   rw [Option.some.inj h]
  cases qs1 D P (amt D[k]) D[k].day s
  ·exact ⟨i1,hmono,fun d h _=>hd d h,fun h=>absurd h (by omega)⟩
  ·refine ⟨?_,?_,fun d h _=>hd d h,fun h=>absurd h (by omega)⟩
   ·show q + _ = s.pp + _
    rw [i1]
   ·show s.pi + tkI D (amt D[k]) D[k].day s <= duI (qaO D D[k].day)
    unfold tkI
    split
    ·omega
    ·omega
def nxI (l:List Du):Int:=match l with
 | []=>0
 | d :: _=>d.it
def qtI (D:List Du) (on:Int) (s:Ln):Int:=max 0 (duI (D.take (qaO D on).length) + nxI (D.drop (qaO D on).length) - s.pi)
def qh1 (D:List Du) (on:Int) (s:Ln):Du:=⟨((D.take (qaO D on).length).length:Int) + 1,on,duP (D.drop (qaO D on).length),max (nxI (D.drop (qaO D on).length)) (s.pi - duI (D.take (qaO D on).length))⟩
def qg9 (D:List Du) (on:Int) (s:Ln):List Du:=match D.drop (qaO D on).length with
 | []=>D.take (qaO D on).length
 | _ :: _=>D.take (qaO D on).length ++ [qh1 D on s]
theorem qzL (a b:List Du):duP (a ++ b) = duP a + duP b:=by simp [duP]
theorem qNu (a b:List Du):duI (a ++ b) = duI a + duI b:=by simp [duI]
theorem qNK {D:List Du} {P:Int} {amt:Du -> Int} {start:Int} (hP:P <= 1000000000000) {k:Nat} (hk:k <= D.length) (hc:qpi D P (qdS D P amt start k).1 = true) :
  (0 <= (qh1 D (qdS D P amt start k).2.1 (qdS D P amt start k).1).pr /\ (qh1 D (qdS D P amt start k).2.1 (qdS D P amt start k).1).pr <= 1000000000000) /\ (0 <= (qh1 D (qdS D P amt start k).2.1 (qdS D P amt start k).1).it /\ (qh1 D (qdS D P amt start k).2.1 (qdS D P amt start k).1).it <= 1000000000000) /\
  qaO (qg9 D (qdS D P amt start k).2.1 (qdS D P amt start k).1) (qdS D P amt start k).2.1 = qg9 D (qdS D P amt start k).2.1 (qdS D P amt start k).1 /\ (qdS D P amt start k).2.2 = (qdS D P amt start k).1.pp /\ duP D = P:=by
 obtain ⟨_,_,hD,ho,_,_,hS⟩:=qe7 hc
 obtain ⟨i1,i2,_,_⟩:=qD7 (P:=P) (amt:=amt) (start:=start) hD ho k hk
 generalize qdS D P amt start k = r at i1 i2 hc ⊢
 obtain ⟨s,on,q⟩:=r
 simp only at i1 i2 ⊢
 obtain ⟨t1,t2⟩:=quE on ho
 have hD1:(D.take (qaO D on).length).all qci = true:=by
  rw [List.all_eq_true] at hD ⊢
  exact fun d hd=>hD d (List.mem_of_mem_take hd)
 have hD2:(D.drop (qaO D on).length).all qci = true:=by
  rw [List.all_eq_true] at hD ⊢
  exact fun d hd=>hD d (List.mem_of_mem_drop hd)
 have hsum:duP (D.take (qaO D on).length) + duP (D.drop (qaO D on).length) = duP D:=by rw [<- qzL,List.take_append_drop]
 have n1:=qpB hD1
 have n2:=qpB hD2
 have hnx:0 <= nxI (D.drop (qaO D on).length) /\ nxI (D.drop (qaO D on).length) <= 1000000000000:=by
  cases hq:D.drop (qaO D on).length with
  | nil=>exact ⟨Int.le_refl _,by decide⟩
  | cons d l=>
   rw [hq,List.all_cons,Bool.and_eq_true] at hD2
   have:=hD2.1
   simp only [qci,Bool.and_eq_true,decide_eq_true_eq] at this
   exact ⟨this.2.2.2.2.1,this.2.2.2.2.2⟩
 rw [<- t1] at i2
 refine ⟨⟨n2,?_⟩,⟨?_,?_⟩,?_,i1,hS⟩
 ·show duP (D.drop _) <= _
  omega
 ·show 0 <= max _ _
  omega
 ·show max _ _ <= _
  omega
 ·unfold qg9
  cases hq:D.drop (qaO D on).length with
  | nil=>
   simp only
   exact List.filter_eq_self.2 fun d hd=>decide_eq_true (t2 d hd)
  | cons d l=>
   simp only
   refine List.filter_eq_self.2 fun d hd=>decide_eq_true ?_
   rcases List.mem_append.1 hd with hd | hd
   ·exact t2 d hd
   ·rw [List.mem_singleton] at hd
    subst hd
    exact Int.le_refl _
end Go.Tk

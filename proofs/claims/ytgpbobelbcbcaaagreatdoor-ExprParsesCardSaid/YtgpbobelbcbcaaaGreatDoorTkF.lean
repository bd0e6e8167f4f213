/- The document's tokens: its ways of reading are those of the program. -/
import Derived.Test.YtgpbobelbcbcaaaGreatDoorTkE
set_option linter.unusedVariables false
set_option linter.unusedSimpArgs false
set_option linter.unnecessarySimpa false
namespace Go.Tk
open Go Go.Eng
set_option linter.unusedSimpArgs false
set_option linter.unusedVariables false
theorem qXc {x:Int} (h0:0 <= x) (h1:x < 256):IntKind.u8.wrap x = x:=by
 simp [IntKind.wrap,IntKind.bits,IntKind.signed]; omega
theorem qy4:∀ x y:Bs,qav y x = !(qav x y || x == y)
 | [],[]=>rfl
 | [],_ :: _=>rfl
 | _ :: _,[]=>rfl
 | a :: x,b :: y=>by
  have ih:=qy4 x y
  have e1:qav (b :: y) (a :: x) = (decide (b < a) || (b == a && qav y x)):=rfl
  have e2:qav (a :: x) (b :: y) = (decide (a < b) || (a == b && qav x y)):=rfl
  have e3:((a :: x:Bs) == b :: y) = (a == b && x == y):=rfl
  rw [e1,e2,e3,ih]
  rcases Nat.lt_trichotomy a.toNat b.toNat with h | h | h
  ·have h1:decide (a < b) = true:=decide_eq_true h
   have h2:decide (b < a) = false:=decide_eq_false (Nat.not_lt.2 (Nat.le_of_lt h))
   have h3:(b == a) = false:=by rw [beq_eq_false_iff_ne]; rintro rfl; omega
   rw [h1,h2,h3]; rfl
  ·have h':a = b:=UInt8.toNat_inj.1 h
   subst h'
   have h1:decide (a < a) = false:=decide_eq_false (Nat.lt_irrefl a.toNat)
   rw [h1,beq_self_eq_true]
   cases qav x y <;> cases (x == y) <;> rfl
  ·have h1:decide (b < a) = true:=decide_eq_true h
   have h2:decide (a < b) = false:=decide_eq_false (Nat.not_lt.2 (Nat.le_of_lt h))
   have h3:(a == b) = false:=by rw [beq_eq_false_iff_ne]; rintro rfl; omega
   rw [h1,h2,h3]; rfl
theorem qqc (s:Bs):qbN s = (0,2) \/ qbN s = (0,1) \/ (qbN s).2 = 0:=by
 have key:∀ (b1 b2 b3 b4:Bool) (n:Int),(bif b1 then (bif b2 then ((0:Int),(2:Int)) else bif b3 then (0,1) else bif b4 then (0,1) else (n,0)) else (0,2)) = (0,2) \/ (bif b1 then (bif b2 then ((0:Int),(2:Int)) else bif b3 then (0,1) else bif b4 then (0,1) else (n,0)) else (0,2)) = (0,1) \/
   (bif b1 then (bif b2 then ((0:Int),(2:Int)) else bif b3 then (0,1) else bif b4 then (0,1) else (n,0)) else (0,2)).2 = 0:=by
  intro b1 b2 b3 b4 n
  cases b1 <;> cases b2 <;> cases b3 <;> cases b4 <;> simp
 exact key _ _ _ _ _
theorem qK4 {s:Bs} (h:qm1 s = false):qbN s = (0,2):=by
 have h2:=qrF s
 rw [h] at h2
 rcases qqc s with h3 | h3 | h3
 ·exact h3
 ·rw [h3] at h2; cases h2
 ·rw [h3] at h2; cases h2
theorem qA0 {s:Bs} (h:qm1 s = true):∃ a p,qgG a = true /\ (p ≠ [] -> qd8 p = true) /\ s = a ++ (qcP p ++ [37]):=by
 rw [qwT,Bool.and_eq_true,beq_iff_eq] at h
 obtain ⟨hl,hr⟩:=h
 have hs:s = s.dropLast ++ [37]:=by
  have hne:s ≠ []:=by rintro rfl; simp at hl
  have:=List.dropLast_concat_getLast hne
  rw [List.getLast?_eq_some_getLast hne,Option.some.injEq] at hl
  rw [hl] at this; exact this.symm
 unfold rtB at hr
 rw [Bool.and_eq_true] at hr
 obtain ⟨hi,hp⟩:=hr
 obtain ⟨hc,hc0⟩:=qmj s.dropLast
 cases hq:(qcH s.dropLast).2.2
 ·rw [hq,cond_false,List.append_nil] at hc
  refine ⟨(qcH s.dropLast).1,[],hi,fun h=>absurd rfl h,?_⟩
  rw [<- hc]; exact hs
 ·rw [hq] at hp hc
  have hpb:qd8 (qcH s.dropLast).2.1 = true:=by simpa using hp
  refine ⟨(qcH s.dropLast).1,(qcH s.dropLast).2.1,hi,fun _=>hpb,?_⟩
  have hne:((qcH s.dropLast).2.1 != []) = true:=by
   unfold qd8 at hpb; rw [Bool.and_eq_true] at hpb; exact hpb.1
  unfold qcP
  rw [hne,cond_true,<- List.append_assoc]
  rw [cond_true] at hc
  rw [<- hc]; exact hs
theorem qp8 {p:Bs} (h:p ≠ [] -> qd8 p = true):p.length <= 4 /\ p.all (at8 qbd) = true:=by
 by_cases hp0:p = []
 ·subst hp0; exact ⟨by simp,rfl⟩
 ·have:=h hp0
  unfold qd8 at this
  simp only [Bool.and_eq_true,decide_eq_true_eq] at this
  exact ⟨this.2.1,this.2.2.1⟩
theorem qOK {a:Bs} (h:qgG a = true) (hl:a.length > 1):10 ^ (a.length - 1) <= qa1 0 a:=by
 obtain ⟨h1,h2,h3⟩:=qbb.1 h
 cases a with
 | nil=>exact absurd rfl h2
 | cons c r=>
  have hc:c.toNat - 48 >= 1:=by
   have:=qdK (by simp only [List.all_cons,Bool.and_eq_true] at h1; exact h1.1)
   have h48:c.toNat ≠ 48:=fun he=>by
    rcases h3 with h3 | h3
    ·omega
    ·exact h3 (by rw [show c = 48 from UInt8.toNat_inj.1 (by simpa using he)]; rfl)
   omega
  have e1:qa1 0 (c :: r) = (c.toNat - 48) * 10 ^ r.length + qa1 0 r:=by
   show qa1 (0 * 10 + (c.toNat - 48)) r = _
   rw [qd6]; simp
  have:=Nat.mul_le_mul_right (10 ^ r.length) hc
  rw [e1]
  simp only [List.length_cons,Nat.add_sub_cancel]
  omega
theorem qK6 {a p:Bs} (ha:qgG a = true) (hp:p ≠ [] -> qd8 p = true):qbN (a ++ (qcP p ++ [37])) = bif decide (qa1 0 (a ++ p) * 10 ^ (4 - p.length) > 1000000) then (0,1) else (((qa1 0 (a ++ p) * 10 ^ (4 - p.length):Nat):Int),0):=by
 have hv:qa1 0 (a ++ qgm p) = qa1 0 (a ++ p) * 10 ^ (4 - p.length):=by
  unfold qgm
  rw [<- List.append_assoc,qeS,qtk]
 rw [qxg ha hp,hv]
 have e1:decide (((qa1 0 (a ++ p) * 10 ^ (4 - p.length):Nat):Int) > 1000000) = decide (qa1 0 (a ++ p) * 10 ^ (4 - p.length) > 1000000):=by
  by_cases h:qa1 0 (a ++ p) * 10 ^ (4 - p.length) > 1000000
  ·rw [decide_eq_true h,decide_eq_true (by omega)]
  ·rw [decide_eq_false h,decide_eq_false (by omega)]
 rw [e1]
 by_cases h3:a.length > 3
 ·have h1:=qOK ha (by omega)
  have h2:10 ^ 3 <= 10 ^ (a.length - 1):=Nat.pow_le_pow_right (by decide) (by omega)
  have h4:qa1 0 (a ++ p) = qa1 0 a * 10 ^ p.length + qa1 0 p:=by rw [qeS,qd6]
  have hpl:=(qp8 hp).1
  have h5:qa1 0 a * 10 ^ p.length * 10 ^ (4 - p.length) = qa1 0 a * 10 ^ 4:=by
   rw [Nat.mul_assoc,<- Nat.pow_add,show p.length + (4 - p.length) = 4 by omega]
  have h6:qa1 0 a * 10 ^ 4 <= qa1 0 (a ++ p) * 10 ^ (4 - p.length):=by
   rw [<- h5,h4]
   exact Nat.mul_le_mul_right _ (by omega)
  rw [decide_eq_true h3,decide_eq_true (by omega)]; rfl
 ·rw [decide_eq_false h3]; rfl
def rlp (w:Nat):Nat -> Nat -> Nat -> Bs -> Option (Nat × Nat)
 | _,n,q,[]=>some (n,q)
 | i,n,q,c :: r=>bif at8 qbd c then (bif decide (10 * n + (c.toNat - 48) > 1000000) then none else rlp w (i + 1) (10 * n + (c.toNat - 48)) (bif decide (i > w) then q + 1 else q) r) else rlp w (i + 1) n q r
theorem qkg {w:Nat} {g:Bool}:∀ (l r:Bs) (i n q:Nat),l.all (at8 qbd) = true -> (∀ j,i <= j -> j < i + l.length -> decide (j > w) = g) -> n <= 1000000 -> rlp w i n q (l ++ r) = bif decide (qa1 n l > 1000000) then none else rlp w (i + l.length) (qa1 n l) (q + bif g then l.length else 0) r
 | [],r,i,n,q,_,_,hn=>by
  have:decide (qa1 n [] > 1000000) = false:=decide_eq_false (by show ¬ n > 1000000; omega)
  rw [this]; cases g <;> rfl
 | c :: l,r,i,n,q,h,hg,hn=>by
  simp only [List.all_cons,Bool.and_eq_true] at h
  have hd:qa1 n (c :: l) = qa1 (10 * n + (c.toNat - 48)) l:=by
   show qa1 (n * 10 + (c.toNat - 48)) l = _
   rw [Nat.mul_comm]
  have hge:=qmk l (10 * n + (c.toNat - 48))
  simp only [List.cons_append,rlp,h.1,cond_true,hd]
  by_cases hb:10 * n + (c.toNat - 48) > 1000000
  ·rw [decide_eq_true hb,decide_eq_true (show qa1 (10 * n + (c.toNat - 48)) l > 1000000 by omega)]; rfl
  ·rw [decide_eq_false hb,cond_false,qkg l r (i + 1) _ _ h.2 (fun j h1 h2=>hg j (by omega) (by simp only [List.length_cons]; omega)) (by omega),hg i (Nat.le_refl i) (by simp)]
   have e1:i + 1 + l.length = i + (c :: l).length:=by simp only [List.length_cons]; omega
   rw [e1]
   cases g
   ·rfl
   ·simp only [cond_true,List.length_cons]
    rw [show q + 1 + l.length = q + (l.length + 1) by omega]
theorem qLa {a p:Bs} (ha:a.all (at8 qbd) = true) (hp:p.all (at8 qbd) = true):rlp a.length 0 0 0 (a ++ qcP p) = bif decide (qa1 0 (a ++ p) > 1000000) then none else some (qa1 0 (a ++ p),p.length):=by
 have hge:qa1 0 a <= qa1 0 (a ++ p):=by rw [qeS]; exact qmk _ _
 rw [qkg (g:=false) a (qcP p) 0 0 0 ha (fun j _ h=>decide_eq_false (by omega)) (by omega)]
 by_cases hb:qa1 0 a > 1000000
 ·rw [decide_eq_true hb,decide_eq_true (by omega)]; rfl
 ·rw [decide_eq_false hb,cond_false,cond_false]
  unfold qcP
  cases hq:(p != [])
  ·have:p = []:=by simpa using hq
   subst this
   rw [List.append_nil,decide_eq_false hb]; rfl
  ·have h46:at8 qbd 46 = false:=rfl
   simp only [cond_true,rlp,h46,cond_false]
   have:=qkg (w:=a.length) (g:=true) p [] (0 + a.length + 1) (qa1 0 a) (0 + 0) hp (fun j h1 _=>decide_eq_true (by omega)) (by omega)
   rw [List.append_nil] at this
   rw [this,<- qeS]
   cases decide (qa1 0 (a ++ p) > 1000000)
   ·simp [rlp]
   ·rfl
def qHA (n:Int):Bs × Int:=bif decide (n < 0) || decide (n > 1000000) then ([],1) else (qrw n.toNat,0)
end Go.Tk

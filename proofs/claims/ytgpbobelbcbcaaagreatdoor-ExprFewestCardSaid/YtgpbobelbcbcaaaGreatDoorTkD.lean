/- Rates: their form, their numbers, their texts. -/
import Derived.Test.YtgpbobelbcbcaaaGreatDoorTkC
import Derived.Lib.TrimByte
set_option linter.unusedVariables false
set_option linter.unusedSimpArgs false
set_option linter.unnecessarySimpa false
namespace Go.Tk
open Go Go.Eng
set_option linter.unusedSimpArgs false
set_option linter.unusedVariables false
theorem qxT {c:UInt8} (h:at8 qbd c = true):c ≠ 46:=by rintro rfl; cases h
theorem qqs {p:UInt8 -> Bool} {l:Bs} (hl:l.all p = true) {d:UInt8} (hd:p d = false) (q:Bs):(l ++ d :: q).takeWhile p = l:=by
 rw [qvq hd]; exact qoR.2 hl
theorem qOq {p:UInt8 -> Bool}:∀ {l:Bs},(∀ x ∈ l,p x = true) -> l.dropWhile p = []
 | [],_=>rfl
 | x :: l,h=>by rw [List.dropWhile_cons,h x (by simp)]; exact qOq fun y hy=>h y (by simp [hy])
theorem qmi {d:Bs} (hd:d.all (at8 qbd) = true):qcH d = (d,[],false):=by
 unfold qcH
 have:d.dropWhile (· != 46) = []:=by
  refine qOq fun x hx=>?_
  have:=qxT (List.all_eq_true.1 hd x hx)
  simpa using this
 rw [this]
theorem qpl {d:Bs} (hd:d.all (at8 qbd) = true) (r:Bs):qcH (d ++ 46 :: r) = (d,r,true):=by
 unfold qcH
 have hall:d.all (· != 46) = true:=by
  rw [List.all_eq_true]
  intro x hx
  have:=qxT (List.all_eq_true.1 hd x hx)
  simpa using this
 have h1:(d ++ 46 :: r).takeWhile (· != 46) = d:=qqs hall (by rfl) r
 have h2:(d ++ 46 :: r).dropWhile (· != 46) = 46 :: r:=by
  have:=List.takeWhile_append_dropWhile (p:=(· != 46)) (l:=d ++ 46 :: r)
  rw [h1] at this
  exact List.append_cancel_left this
 rw [h1,h2]
theorem qbb {a:Bs}:qgG a = true ↔ a.all (at8 qbd) = true /\ a ≠ [] /\ (a.length = 1 \/ a.head? ≠ some 48):=by
 unfold qgG
 simp only [Bool.and_eq_true,bne_iff_ne,ne_eq,Bool.or_eq_true,beq_iff_eq]
 constructor
 ·rintro ⟨h1,h2,h3⟩
  refine ⟨h1,h2,h3.imp (fun h=>by omega) id⟩
 ·rintro ⟨h1,h2,h3⟩
  refine ⟨h1,h2,h3.imp (fun h=>by omega) id⟩
theorem qeS (a:Nat) (x y:Bs):qa1 a (x ++ y) = qa1 (qa1 a x) y:=by simp [qa1,List.foldl_append]
theorem qd6:∀ (l:Bs) (a:Nat),qa1 a l = a * 10 ^ l.length + qa1 0 l
 | [],a=>by simp [qa1]
 | c :: r,a=>by
  have h1:=qd6 r (a * 10 + (c.toNat - 48))
  have h2:=qd6 r (0 * 10 + (c.toNat - 48))
  simp only [qa1,List.foldl_cons,List.length_cons] at h1 h2 ⊢
  rw [h1,h2,Nat.pow_succ]
  simp only [Nat.zero_mul,Nat.zero_add,Nat.add_mul]
  rw [Nat.mul_assoc,Nat.mul_comm 10]
  omega
theorem qdK {c:UInt8} (h:at8 qbd c = true):48 <= c.toNat /\ c.toNat <= 57:=by
 simp only [at8,qbd,Bool.and_eq_true,decide_eq_true_eq] at h; omega
theorem qfA {c:UInt8} (h:at8 qbd c = true):UInt8.ofNat (48 + (c.toNat - 48)) = c:=by
 have:=qdK h
 rw [show 48 + (c.toNat - 48) = c.toNat by omega]
 exact UInt8.ofNat_toNat
theorem qpm:∀ (n:Nat) (a:Bs),a.length <= n -> qgG a = true -> Lib.decDigits (qa1 0 a) = a:=by
 intro n
 induction n with
 | zero=>
  intro a h hi
  exact absurd (List.length_eq_zero_iff.1 (by omega)) (qbb.1 hi).2.1
 | succ n ih=>
  intro a h hi
  obtain ⟨h1,h2,h3⟩:=qbb.1 hi
  obtain ⟨b,c,rfl⟩:∃ b c,a = b ++ [c]:=⟨a.dropLast,a.getLast h2,(List.dropLast_concat_getLast h2).symm⟩
  rw [List.all_append,Bool.and_eq_true] at h1
  have hc:at8 qbd c = true:=by simpa using h1.2
  have hr:=qdK hc
  have hv:qa1 0 (b ++ [c]) = qa1 0 b * 10 + (c.toNat - 48):=by rw [qeS]; rfl
  by_cases hb:b = []
  ·subst hb
   rw [hv]
   show Lib.decDigits (0 * 10 + (c.toNat - 48)) = [c]
   rw [Lib.decDigits,dif_pos (by omega),Nat.zero_mul,Nat.zero_add,qfA hc]
  ·have hhd:(b ++ [c]).head? = b.head?:=by
    cases b with
    | nil=>exact absurd rfl hb
    | cons=>rfl
   have hlen:(b ++ [c]).length ≠ 1:=by
    have:b.length ≠ 0:=fun h=>hb (List.length_eq_zero_iff.1 h)
    simp; omega
   have h48:b.head? ≠ some 48:=by rw [<- hhd]; exact h3.resolve_left hlen
   have hib:qgG b = true:=qbb.2 ⟨h1.1,hb,.inr h48⟩
   have hpos:1 <= qa1 0 b:=by
    cases b with
    | nil=>exact absurd rfl hb
    | cons x r=>
     have hx:=h1.1
     simp only [List.all_cons,Bool.and_eq_true] at hx
     have hxr:=qdK hx.1
     have hx48:x.toNat ≠ 48:=fun he=>h48 (by
      have:x = 48:=UInt8.toNat_inj.1 (by simpa using he)
      rw [this]; rfl)
     have:=qmk r (0 * 10 + (x.toNat - 48))
     show 1 <= qa1 (0 * 10 + (x.toNat - 48)) r
     omega
   rw [hv,Lib.decDigits,dif_neg (by omega),show (qa1 0 b * 10 + (c.toNat - 48)) / 10 = qa1 0 b by omega,show (qa1 0 b * 10 + (c.toNat - 48)) % 10 = c.toNat - 48 by omega,ih b (by simp at h; omega) hib,qfA hc]
theorem qcs {k:Nat} (h:k < 10):at8 qbd (UInt8.ofNat (48 + k)) = true /\ (UInt8.ofNat (48 + k)).toNat = 48 + k:=by
 have h2:(UInt8.ofNat (48 + k)).toNat = 48 + k:=by rw [UInt8.toNat_ofNat']; omega
 refine ⟨?_,h2⟩
 unfold at8 qbd
 rw [h2,Bool.and_eq_true]
 exact ⟨decide_eq_true (by omega),decide_eq_true (by omega)⟩
theorem qhy:∀ (n u:Nat),u <= n -> qgG (Lib.decDigits u) = true /\ qa1 0 (Lib.decDigits u) = u /\ (u ≠ 0 -> (Lib.decDigits u).head? ≠ some 48):=by
 intro n
 induction n using Nat.strongRecOn with
 | _ n ih=>
  intro u hu
  by_cases h:u < 10
  ·obtain ⟨h1,h2⟩:=qcs h
   rw [Lib.decDigits,dif_pos h]
   refine ⟨qbb.2 ⟨by simpa using h1,by simp,.inl rfl⟩,?_,fun h0 he=>?_⟩
   ·show 0 * 10 + ((UInt8.ofNat (48 + u)).toNat - 48) = u
    rw [h2]; omega
   ·simp only [List.head?_cons,Option.some.injEq] at he
    have:=congrArg UInt8.toNat he
    rw [h2] at this
    have:48 + u = 48:=this
    omega
  ·have hlt:u % 10 < 10:=Nat.mod_lt _ (by decide)
   obtain ⟨h1,h2⟩:=qcs hlt
   obtain ⟨i1,i2,i3⟩:=ih (u / 10) (by omega) (u / 10) (Nat.le_refl _)
   obtain ⟨j1,j2,j3⟩:=qbb.1 i1
   rw [Lib.decDigits,dif_neg h]
   have hhd:(Lib.decDigits (u / 10) ++ [UInt8.ofNat (48 + u % 10)]).head? = (Lib.decDigits (u / 10)).head?:=by
    cases hq:Lib.decDigits (u / 10) with
    | nil=>exact absurd hq j2
    | cons=>rfl
   have h48:=i3 (by omega)
   refine ⟨qbb.2 ⟨?_,by simp,.inr (by rw [hhd]; exact h48)⟩,?_,fun _=>by rw [hhd]; exact h48⟩
   ·rw [List.all_append,j1]; simpa using h1
   ·rw [qeS,i2]
    show u / 10 * 10 + ((UInt8.ofNat (48 + u % 10)).toNat - 48) = u
    rw [h2]; omega
def four (m:Nat):Bs:=[UInt8.ofNat (48 + m / 1000 % 10),UInt8.ofNat (48 + m / 100 % 10),UInt8.ofNat (48 + m / 10 % 10),UInt8.ofNat (48 + m % 10)]
theorem qKh {m:Nat} (h:m < 10000):Lib.decDigits (10000 + m) = 49 :: four m:=by
 rw [Lib.decDigits,dif_neg (by omega),Lib.decDigits,dif_neg (by omega),Lib.decDigits,dif_neg (by omega),Lib.decDigits,dif_neg (by omega),Lib.decDigits,dif_pos (by omega)]
 unfold four
 have e1:(10000 + m) / 10 / 10 / 10 / 10 = 1:=by omega
 have e2:(10000 + m) / 10 / 10 / 10 % 10 = m / 1000 % 10:=by omega
 have e3:(10000 + m) / 10 / 10 % 10 = m / 100 % 10:=by omega
 have e4:(10000 + m) / 10 % 10 = m / 10 % 10:=by omega
 have e5:(10000 + m) % 10 = m % 10:=by omega
 rw [e1,e2,e3,e4,e5]
 rfl
theorem qKu (m:Nat):(four m).all (at8 qbd) = true:=by
 simp only [four,List.all_cons,List.all_nil,Bool.and_true,Bool.and_eq_true]
 exact ⟨(qcs (by omega)).1,(qcs (by omega)).1,(qcs (by omega)).1,(qcs (by omega)).1⟩
theorem qKv {m:Nat} (h:m < 10000):qa1 0 (four m) = m:=by
 simp only [four,qa1,List.foldl_cons,List.foldl_nil]
 rw [(qcs (k:=m / 1000 % 10) (by omega)).2,(qcs (k:=m / 100 % 10) (by omega)).2,(qcs (k:=m / 10 % 10) (by omega)).2,(qcs (k:=m % 10) (by omega)).2]
 omega
theorem qjD (l:Bs) (c:UInt8):Lib.trimRightB (l ++ [c]) 48 = if c = 48 then Lib.trimRightB l 48 else l ++ [c]:=by
 unfold Lib.trimRightB
 rw [List.reverse_append]
 simp only [List.reverse_cons,List.reverse_nil,List.nil_append,List.cons_append,List.dropWhile_cons,beq_iff_eq]
 split
 ·rfl
 ·simp
theorem qoQ:∀ (n:Nat) (l:Bs),l.length = n -> ∃ k,l = Lib.trimRightB l 48 ++ List.replicate k 48 /\ (Lib.trimRightB l 48 = [] \/ (Lib.trimRightB l 48).getLast? ≠ some 48):=by
 intro n
 induction n with
 | zero=>
  intro l h
  have:l = []:=List.length_eq_zero_iff.1 h
  subst this
  exact ⟨0,rfl,.inl rfl⟩
 | succ n ih=>
  intro l h
  have hl:l ≠ []:=by rintro rfl; simp at h
  obtain ⟨b,c,rfl⟩:∃ b c,l = b ++ [c]:=⟨l.dropLast,l.getLast hl,(List.dropLast_concat_getLast hl).symm⟩
  rw [qjD]
  split
  ·rename_i hc
   subst hc
   obtain ⟨k,h1,h2⟩:=ih b (by simpa using h)
   refine ⟨k + 1,?_,h2⟩
   rw [List.replicate_succ',<- List.append_assoc,<- h1]
  ·rename_i hc
   exact ⟨0,by simp,.inr (by simpa using hc)⟩
def qcP (p:Bs):Bs:=bif p != [] then 46 :: p else []
def qrw (n:Nat):Bs:=Lib.decDigits (n / 10000) ++ (qcP (Lib.trimRightB (four (n % 10000)) 48) ++ [37])
theorem qjC {m:Nat} (h:m < 10000):(Lib.trimRightB (four m) 48).all (at8 qbd) = true /\ (Lib.trimRightB (four m) 48).length <= 4 /\ qgm (Lib.trimRightB (four m) 48) = four m /\ (Lib.trimRightB (four m) 48 ≠ [] -> qd8 (Lib.trimRightB (four m) 48) = true):=by
 obtain ⟨k,h1,h2⟩:=qoQ 4 (four m) rfl
 have ha:=qKu m
 rw [h1,List.all_append,Bool.and_eq_true] at ha
 have hlen:=congrArg List.length h1
 rw [List.length_append,List.length_replicate] at hlen
 have h4:(four m).length = 4:=rfl
 refine ⟨ha.1,by omega,?_,fun hne=>?_⟩
 ·unfold qgm
  rw [show 4 - (Lib.trimRightB (four m) 48).length = k by omega,<- h1]
 ·unfold qd8
  have e1:(Lib.trimRightB (four m) 48 != []) = true:=by simpa using hne
  have e2:((Lib.trimRightB (four m) 48).getLast? != some 48) = true:=by simpa using h2.resolve_left hne
  rw [e1,e2,ha.1,decide_eq_true (by omega)]; rfl
theorem qDG {a p:Bs} (ha:qgG a = true):qcH (a ++ qcP p) = (a,p,p != []):=by
 unfold qcP
 have h1:=(qbb.1 ha).1
 cases hp:(p != [])
 ·have:p = []:=by simpa using hp
  subst this
  rw [cond_false,List.append_nil,qmi h1]
 ·rw [cond_true,qpl h1]
theorem qxg {a p:Bs} (ha:qgG a = true) (hp:p ≠ [] -> qd8 p = true):qbN (a ++ (qcP p ++ [37])) = bif decide (a.length > 3) then ((0:Int),(1:Int)) else bif decide ((qa1 0 (a ++ qgm p):Int) > 1000000) then (0,1) else (((qa1 0 (a ++ qgm p):Nat):Int),0):=by
 have h1:((a ++ (qcP p ++ [37])).getLast? == some 37) = true:=by rw [<- List.append_assoc]; simp
 have h2:(a ++ (qcP p ++ [37])).dropLast = a ++ qcP p:=by rw [<- List.append_assoc,List.dropLast_concat]
 unfold qbN
 rw [h1,h2,qDG ha]
 simp only [cond_true,ha,Bool.not_true,Bool.false_or]
 have h3:((p != []) && !qd8 p) = false:=by
  cases hq:(p != [])
  ·rfl
  ·rw [hp (by simpa using hq)]; rfl
 rw [h3,cond_false]
theorem qK7 {n:Nat} (h:n <= 1000000):qbN (qrw n) = ((n:Int),0):=by
 obtain ⟨i1,i2,_⟩:=qhy (n / 10000) (n / 10000) (Nat.le_refl _)
 obtain ⟨t1,t2,t3,t4⟩:=qjC (m:=n % 10000) (Nat.mod_lt _ (by decide))
 unfold qrw
 rw [qxg i1 t4,t3]
 have hlen:(Lib.decDigits (n / 10000)).length <= 3:=by
  rw [Lib.decDigits_length]
  have h1:n / 10000 <= 100:=by omega
  rcases Nat.lt_or_ge (n / 10000) 10 with h2 | h2
  ·rw [Lib.nDigits_small h2]; omega
  ·rw [Lib.nDigits_big (by omega)]
   rcases Nat.lt_or_ge (n / 10000 / 10) 10 with h3 | h3
   ·rw [Lib.nDigits_small h3]; omega
   ·rw [Lib.nDigits_big (by omega),Lib.nDigits_small (by omega)]; omega
 have hv:qa1 0 (Lib.decDigits (n / 10000) ++ four (n % 10000)) = n:=by
  rw [qeS,i2,qd6,qKv (Nat.mod_lt _ (by decide))]
  show n / 10000 * 10 ^ 4 + n % 10000 = n
  omega
 rw [hv,decide_eq_false (by omega),decide_eq_false (by omega)]
 rfl
end Go.Tk

/- Rates: their form, their numbers, their texts. -/
import Derived.Test.YtgpbobelbcbcaaaGreatDoorTkC
import Derived.Lib.TrimByte
set_option linter.unusedVariables false
set_option linter.unusedSimpArgs false
set_option linter.unnecessarySimpa false
namespace Go.Tk
open Go Go.Eng
set_option linter.unusedSimpArgs false
set_option linter.unusedVariables false
def plS (s:Bs):Nat:=bif decide ((s.takeWhile (at8 qbd)).length > 1) && s.head? == some 48 then 0 else (s.takeWhile (at8 qbd)).length
def qEU (r:Bs):Bool:=r == [] || (decide (2 <= r.length) && (decide (r.length <= 5) && (r.head? == some 46 && (r.getLast? != some 48 && (r.drop 1).all (at8 qbd)))))
def qm1 (s:Bs):Bool:=plS s != 0 && (s.getLast? == some 37 && qEU ((s.drop (plS s)).dropLast))
theorem qxT {c:UInt8} (h:at8 qbd c = true):c ≠ 46:=by rintro rfl; cases h
theorem qqs {p:UInt8 -> Bool} {l:Bs} (hl:l.all p = true) {d:UInt8} (hd:p d = false) (q:Bs):(l ++ d :: q).takeWhile p = l:=by
 rw [qvq hd]; exact qoR.2 hl
theorem qmj (t:Bs):(t = (qcH t).1 ++ (bif (qcH t).2.2 then 46 :: (qcH t).2.1 else [])) /\ ((qcH t).2.2 = false -> (qcH t).2.1 = []):=by
 unfold qcH
 cases h:t.dropWhile (· != 46) with
 | nil=>
  refine ⟨by simp,fun _=>rfl⟩
 | cons x r=>
  simp only [cond_true]
  have hx:x = 46:=by
   have:=List.head?_dropWhile_not (p:=(· != 46)) (l:=t)
   rw [h] at this
   simpa using this
  refine ⟨?_,fun h=>by cases h⟩
  subst hx
  rw [<- h,List.takeWhile_append_dropWhile]
theorem qOq {p:UInt8 -> Bool}:∀ {l:Bs},(∀ x ∈ l,p x = true) -> l.dropWhile p = []
 | [],_=>rfl
 | x :: l,h=>by rw [List.dropWhile_cons,h x (by simp)]; exact qOq fun y hy=>h y (by simp [hy])
theorem qmi {d:Bs} (hd:d.all (at8 qbd) = true):qcH d = (d,[],false):=by
 unfold qcH
 have:d.dropWhile (· != 46) = []:=by
  refine qOq fun x hx=>?_
  have:=qxT (List.all_eq_true.1 hd x hx)
  simpa using this
 rw [this]
theorem qpl {d:Bs} (hd:d.all (at8 qbd) = true) (r:Bs):qcH (d ++ 46 :: r) = (d,r,true):=by
 unfold qcH
 have hall:d.all (· != 46) = true:=by
  rw [List.all_eq_true]
  intro x hx
  have:=qxT (List.all_eq_true.1 hd x hx)
  simpa using this
 have h1:(d ++ 46 :: r).takeWhile (· != 46) = d:=qqs hall (by rfl) r
 have h2:(d ++ 46 :: r).dropWhile (· != 46) = 46 :: r:=by
  have:=List.takeWhile_append_dropWhile (p:=(· != 46)) (l:=d ++ 46 :: r)
  rw [h1] at this
  exact List.append_cancel_left this
 rw [h1,h2]
theorem qbb {a:Bs}:qgG a = true ↔ a.all (at8 qbd) = true /\ a ≠ [] /\ (a.length = 1 \/ a.head? ≠ some 48):=by
 unfold qgG
 simp only [Bool.and_eq_true,bne_iff_ne,ne_eq,Bool.or_eq_true,beq_iff_eq]
 constructor
 ·rintro ⟨h1,h2,h3⟩
  refine ⟨h1,h2,h3.imp (fun h=>by omega) id⟩
 ·rintro ⟨h1,h2,h3⟩
  refine ⟨h1,h2,h3.imp (fun h=>by omega) id⟩
theorem qrx {a:Bs} (h:qgG a = true) {d:UInt8} (hd:at8 qbd d = false) (q:Bs):plS (a ++ d :: q) = a.length:=by
 obtain ⟨h1,h2,h3⟩:=qbb.1 h
 unfold plS
 rw [qqs h1 hd]
 have hh:(a ++ d :: q).head? = a.head?:=by
  cases a with
  | nil=>exact absurd rfl h2
  | cons=>rfl
 rw [hh]
 rcases h3 with h3 | h3
 ·simp [h3]
 ·have:(a.head? == some 48) = false:=by simpa using h3
  simp [this]
theorem qEV {b:Bs}:qEU (46 :: b) = qd8 b:=by
 unfold qEU qd8
 cases b with
 | nil=>rfl
 | cons c r=>
  have h1:((46 :: c :: r:Bs) == []) = false:=rfl
  have h2:((c :: r:Bs) != []) = true:=rfl
  have h3:(46 :: c :: r:Bs).getLast? = (c :: r).getLast?:=by simp [List.getLast?_cons_cons]
  rw [h1,h2,h3]
  simp only [Bool.false_or,Bool.true_and,List.length_cons,List.head?_cons,List.drop_succ_cons,List.drop_zero,beq_self_eq_true]
  rw [show decide (2 <= r.length + 1 + 1) = true from decide_eq_true (by omega)]
  have h4:decide (r.length + 1 + 1 <= 5) = decide (r.length + 1 <= 4):=by
   by_cases h:r.length + 1 <= 4
   ·rw [decide_eq_true h,decide_eq_true (by omega)]
   ·rw [decide_eq_false h,decide_eq_false (by omega)]
  rw [h4]
  simp only [Bool.true_and]
  cases decide (r.length + 1 <= 4) <;> cases ((c :: r).getLast? != some 48) <;> cases (c :: r).all (at8 qbd) <;> rfl
def rtB (t:Bs):Bool:=qgG (qcH t).1 && (!(qcH t).2.2 || qd8 (qcH t).2.1)
theorem qwT (s:Bs):qm1 s = (s.getLast? == some 37 && rtB s.dropLast):=by
 by_cases hl:s.getLast? = some 37
 ·have hs:s = s.dropLast ++ [37]:=by
   have hne:s ≠ []:=by rintro rfl; simp at hl
   have:=List.dropLast_concat_getLast hne
   rw [List.getLast?_eq_some_getLast hne,Option.some.injEq] at hl
   rw [hl] at this; exact this.symm
  generalize ht:s.dropLast = t at hs
  subst hs
  have hb:((t ++ [37]).getLast? == some 37) = true:=by simp
  unfold qm1
  rw [hb,Bool.true_and,Bool.true_and]
  obtain ⟨hc,hc0⟩:=qmj t
  unfold rtB
  cases hi:qgG (qcH t).1
  ·simp only [Bool.false_and]
   cases hp:(plS (t ++ [37]) != 0)
   ·rfl
   ·simp only [Bool.true_and]
    have hp0:plS (t ++ [37]) ≠ 0:=by simpa using hp
    have htw:(t ++ [37]).takeWhile (at8 qbd) = t.takeWhile (at8 qbd):=qvq rfl t []
    have hpl:plS (t ++ [37]) = (t.takeWhile (at8 qbd)).length /\ ((t.takeWhile (at8 qbd)).length > 1 -> (t ++ [37]).head? ≠ some 48):=by
     unfold plS at hp0 ⊢
     rw [htw] at hp0 ⊢
     cases hq:(decide ((t.takeWhile (at8 qbd)).length > 1) && (t ++ [37]).head? == some 48)
     ·rw [cond_false]
      refine ⟨rfl,fun h1 h2=>?_⟩
      rw [decide_eq_true h1,h2] at hq; simp at hq
     ·rw [hq] at hp0; simp at hp0
    obtain ⟨hpl,hz⟩:=hpl
    rw [hpl] at hp0
    have hle:=qgK (p:=at8 qbd) t
    have hdl:((t ++ [37]).drop (t.takeWhile (at8 qbd)).length).dropLast = t.drop (t.takeWhile (at8 qbd)).length:=by
     rw [List.drop_append_of_le_length hle]; simp
    rw [hpl,hdl,drop_tw]
    have hsplit:=List.takeWhile_append_dropWhile (p:=at8 qbd) (l:=t)
    have hd:=qI7 (p:=at8 qbd) (l:=t)
    have hdi:qgG (t.takeWhile (at8 qbd)) = true:=by
     refine qbb.2 ⟨hd,fun h=>hp0 (by rw [h]; rfl),?_⟩
     by_cases h1:(t.takeWhile (at8 qbd)).length > 1
     ·right
      have:=hz h1
      cases t with
      | nil=>simp at h1
      | cons c r=>
       cases hcd:at8 qbd c
       ·simp [hcd] at h1
       ·simpa [List.takeWhile_cons,hcd] using this
     ·left; omega
    cases hr:t.dropWhile (at8 qbd) with
    | nil=>
     rw [hr,List.append_nil] at hsplit
     rw [<- hsplit,qmi hd] at hi
     rw [hdi] at hi; cases hi
    | cons x r=>
     rw [hr] at hsplit
     by_cases hx:x = 46
     ·subst hx
      rw [<- hsplit,qpl hd] at hi
      rw [hdi] at hi; cases hi
     ·unfold qEU
      have h1:((x :: r:Bs) == []) = false:=rfl
      have h2:((x :: r:Bs).head? == some 46) = false:=by simpa using hx
      rw [h1,h2]; simp
  ·simp only [Bool.true_and]
   cases hf:(qcH t).2.2
   ·rw [hf,cond_false,List.append_nil] at hc
    have hpl:plS (t ++ [37]) = t.length:=by
     rw [<- hc] at hi
     exact qrx hi rfl []
    have ht0:t ≠ []:=by
     rw [<- hc] at hi
     exact (qbb.1 hi).2.1
    have:t.length ≠ 0:=fun h=>ht0 (List.length_eq_zero_iff.1 h)
    rw [hpl,List.drop_left]
    have h1:(t.length != 0) = true:=by simpa using this
    rw [h1]; rfl
   ·rw [hf,cond_true] at hc
    have hne:=(qbb.1 hi).2.1
    have hpl:plS (t ++ [37]) = (qcH t).1.length:=by
     have:=qrx hi (d:=46) rfl ((qcH t).2.1 ++ [37])
     rw [show (qcH t).1 ++ 46 :: ((qcH t).2.1 ++ [37]) = t ++ [37] by conv=>rhs; rw [hc]; simp] at this
     exact this
    have hd:((t ++ [37]).drop (qcH t).1.length).dropLast = 46 :: (qcH t).2.1:=by
     have:t ++ [37] = (qcH t).1 ++ (46 :: (qcH t).2.1 ++ [37]):=by
      rw [show (qcH t).1 ++ (46 :: (qcH t).2.1 ++ [37]) = ((qcH t).1 ++ 46 :: (qcH t).2.1) ++ [37] by simp,<- hc]
     rw [this,List.drop_left,List.dropLast_concat]
    have h1:((qcH t).1.length != 0) = true:=by
     have:(qcH t).1.length ≠ 0:=fun h=>hne (List.length_eq_zero_iff.1 h)
     simpa using this
    rw [hpl,hd,h1,qEV]
    simp
 ·have:(s.getLast? == some 37) = false:=by simpa using hl
  unfold qm1
  rw [this]; simp
theorem qrF (s:Bs):((qbN s).2 != 2) = qm1 s:=by
 rw [qwT]
 unfold qbN rtB
 cases hl:(s.getLast? == some 37)
 ·rfl
 ·simp only [cond_true,Bool.true_and]
  cases qgG (qcH s.dropLast).1 <;> cases (qcH s.dropLast).2.2 <;> cases qd8 (qcH s.dropLast).2.1 <;> cases decide ((qcH s.dropLast).1.length > 3) <;> cases decide ((qa1 0 ((qcH s.dropLast).1 ++ qgm (qcH s.dropLast).2.1):Int) > 1000000) <;> rfl
theorem qeS (a:Nat) (x y:Bs):qa1 a (x ++ y) = qa1 (qa1 a x) y:=by simp [qa1,List.foldl_append]
theorem qtk:∀ (k a:Nat),qa1 a (List.replicate k 48) = a * 10 ^ k
 | 0,a=>by simp [qa1]
 | k + 1,a=>by
  have:=qtk k (a * 10 + ((48:UInt8).toNat - 48))
  simp only [List.replicate_succ,qa1,List.foldl_cons] at this ⊢
  rw [this]
  simp [Nat.pow_succ,Nat.mul_assoc,Nat.mul_comm]
theorem qd6:∀ (l:Bs) (a:Nat),qa1 a l = a * 10 ^ l.length + qa1 0 l
 | [],a=>by simp [qa1]
 | c :: r,a=>by
  have h1:=qd6 r (a * 10 + (c.toNat - 48))
  have h2:=qd6 r (0 * 10 + (c.toNat - 48))
  simp only [qa1,List.foldl_cons,List.length_cons] at h1 h2 ⊢
  rw [h1,h2,Nat.pow_succ]
  simp only [Nat.zero_mul,Nat.zero_add,Nat.add_mul]
  rw [Nat.mul_assoc,Nat.mul_comm 10]
  omega
theorem qdK {c:UInt8} (h:at8 qbd c = true):48 <= c.toNat /\ c.toNat <= 57:=by
 simp only [at8,qbd,Bool.and_eq_true,decide_eq_true_eq] at h; omega
theorem qfA {c:UInt8} (h:at8 qbd c = true):UInt8.ofNat (48 + (c.toNat - 48)) = c:=by
 have:=qdK h
 rw [show 48 + (c.toNat - 48) = c.toNat by omega]
 exact UInt8.ofNat_toNat
theorem qpm:∀ (n:Nat) (a:Bs),a.length <= n -> qgG a = true -> Lib.decDigits (qa1 0 a) = a:=by
 intro n
 induction n with
 | zero=>
  intro a h hi
  exact absurd (List.length_eq_zero_iff.1 (by omega)) (qbb.1 hi).2.1
 | succ n ih=>
  intro a h hi
  obtain ⟨h1,h2,h3⟩:=qbb.1 hi
  obtain ⟨b,c,rfl⟩:∃ b c,a = b ++ [c]:=⟨a.dropLast,a.getLast h2,(List.dropLast_concat_getLast h2).symm⟩
  rw [List.all_append,Bool.and_eq_true] at h1
  have hc:at8 qbd c = true:=by simpa using h1.2
  have hr:=qdK hc
  have hv:qa1 0 (b ++ [c]) = qa1 0 b * 10 + (c.toNat - 48):=by rw [qeS]; rfl
  by_cases hb:b = []
  ·subst hb
   rw [hv]
   show Lib.decDigits (0 * 10 + (c.toNat - 48)) = [c]
   rw [Lib.decDigits,dif_pos (by omega),Nat.zero_mul,Nat.zero_add,qfA hc]
  ·have hhd:(b ++ [c]).head? = b.head?:=by
    cases b with
    | nil=>exact absurd rfl hb
    | cons=>rfl
   have hlen:(b ++ [c]).length ≠ 1:=by
    have:b.length ≠ 0:=fun h=>hb (List.length_eq_zero_iff.1 h)
    simp; omega
   have h48:b.head? ≠ some 48:=by rw [<- hhd]; exact h3.resolve_left hlen
   have hib:qgG b = true:=qbb.2 ⟨h1.1,hb,.inr h48⟩
   have hpos:1 <= qa1 0 b:=by
    cases b with
    | nil=>exact absurd rfl hb
    | cons x r=>
     have hx:=h1.1
     simp only [List.all_cons,Bool.and_eq_true] at hx
     have hxr:=qdK hx.1
     have hx48:x.toNat ≠ 48:=fun he=>h48 (by
      have:x = 48:=UInt8.toNat_inj.1 (by simpa using he)
      rw [this]; rfl)
     have:=qmk r (0 * 10 + (x.toNat - 48))
     show 1 <= qa1 (0 * 10 + (x.toNat - 48)) r
     omega
   rw [hv,Lib.decDigits,dif_neg (by omega),show (qa1 0 b * 10 + (c.toNat - 48)) / 10 = qa1 0 b by omega,show (qa1 0 b * 10 + (c.toNat - 48)) % 10 = c.toNat - 48 by omega,ih b (by simp at h; omega) hib,qfA hc]
theorem qcs {k:Nat} (h:k < 10):at8 qbd (UInt8.ofNat (48 + k)) = true /\ (UInt8.ofNat (48 + k)).toNat = 48 + k:=by
 have h2:(UInt8.ofNat (48 + k)).toNat = 48 + k:=by rw [UInt8.toNat_ofNat']; omega
 refine ⟨?_,h2⟩
 unfold at8 qbd
 rw [h2,Bool.and_eq_true]
 exact ⟨decide_eq_true (by omega),decide_eq_true (by omega)⟩
theorem qhy:∀ (n u:Nat),u <= n -> qgG (Lib.decDigits u) = true /\ qa1 0 (Lib.decDigits u) = u /\ (u ≠ 0 -> (Lib.decDigits u).head? ≠ some 48):=by
 intro n
 induction n using Nat.strongRecOn with
 | _ n ih=>
  intro u hu
  by_cases h:u < 10
  ·obtain ⟨h1,h2⟩:=qcs h
   rw [Lib.decDigits,dif_pos h]
   refine ⟨qbb.2 ⟨by simpa using h1,by simp,.inl rfl⟩,?_,fun h0 he=>?_⟩
   ·show 0 * 10 + ((UInt8.ofNat (48 + u)).toNat - 48) = u
    rw [h2]; omega
   ·simp only [List.head?_cons,Option.some.injEq] at he
    have:=congrArg UInt8.toNat he
    rw [h2] at this
    have:48 + u = 48:=this
    omega
  ·have hlt:u % 10 < 10:=Nat.mod_lt _ (by decide)
   obtain ⟨h1,h2⟩:=qcs hlt
   obtain ⟨i1,i2,i3⟩:=ih (u / 10) (by omega) (u / 10) (Nat.le_refl _)
   obtain ⟨j1,j2,j3⟩:=qbb.1 i1
   rw [Lib.decDigits,dif_neg h]
   have hhd:(Lib.decDigits (u / 10) ++ [UInt8.ofNat (48 + u % 10)]).head? = (Lib.decDigits (u / 10)).head?:=by
    cases hq:Lib.decDigits (u / 10) with
    | nil=>exact absurd hq j2
    | cons=>rfl
   have h48:=i3 (by omega)
   refine ⟨qbb.2 ⟨?_,by simp,.inr (by rw [hhd]; exact h48)⟩,?_,fun _=>by rw [hhd]; exact h48⟩
   ·rw [List.all_append,j1]; simpa using h1
   ·rw [qeS,i2]
    show u / 10 * 10 + ((UInt8.ofNat (48 + u % 10)).toNat - 48) = u
    rw [h2]; omega
def four (m:Nat):Bs:=[UInt8.ofNat (48 + m / 1000 % 10),UInt8.ofNat (48 + m / 100 % 10),UInt8.ofNat (48 + m / 10 % 10),UInt8.ofNat (48 + m % 10)]
theorem qKh {m:Nat} (h:m < 10000):Lib.decDigits (10000 + m) = 49 :: four m:=by
 rw [Lib.decDigits,dif_neg (by omega),Lib.decDigits,dif_neg (by omega),Lib.decDigits,dif_neg (by omega),Lib.decDigits,dif_neg (by omega),Lib.decDigits,dif_pos (by omega)]
 unfold four
 have e1:(10000 + m) / 10 / 10 / 10 / 10 = 1:=by omega
 have e2:(10000 + m) / 10 / 10 / 10 % 10 = m / 1000 % 10:=by omega
 have e3:(10000 + m) / 10 / 10 % 10 = m / 100 % 10:=by omega
 have e4:(10000 + m) / 10 % 10 = m / 10 % 10:=by omega
 have e5:(10000 + m) % 10 = m % 10:=by omega
 rw [e1,e2,e3,e4,e5]
 rfl
theorem qKu (m:Nat):(four m).all (at8 qbd) = true:=by
 simp only [four,List.all_cons,List.all_nil,Bool.and_true,Bool.and_eq_true]
 exact ⟨(qcs (by omega)).1,(qcs (by omega)).1,(qcs (by omega)).1,(qcs (by omega)).1⟩
theorem qjD (l:Bs) (c:UInt8):Lib.trimRightB (l ++ [c]) 48 = if c = 48 then Lib.trimRightB l 48 else l ++ [c]:=by
 unfold Lib.trimRightB
 rw [List.reverse_append]
 simp only [List.reverse_cons,List.reverse_nil,List.nil_append,List.cons_append,List.dropWhile_cons,beq_iff_eq]
 split
 ·rfl
 ·simp
theorem qoQ:∀ (n:Nat) (l:Bs),l.length = n -> ∃ k,l = Lib.trimRightB l 48 ++ List.replicate k 48 /\ (Lib.trimRightB l 48 = [] \/ (Lib.trimRightB l 48).getLast? ≠ some 48):=by
 intro n
 induction n with
 | zero=>
  intro l h
  have:l = []:=List.length_eq_zero_iff.1 h
  subst this
  exact ⟨0,rfl,.inl rfl⟩
 | succ n ih=>
  intro l h
  have hl:l ≠ []:=by rintro rfl; simp at h
  obtain ⟨b,c,rfl⟩:∃ b c,l = b ++ [c]:=⟨l.dropLast,l.getLast hl,(List.dropLast_concat_getLast hl).symm⟩
  rw [qjD]
  split
  ·rename_i hc
   subst hc
   obtain ⟨k,h1,h2⟩:=ih b (by simpa using h)
   refine ⟨k + 1,?_,h2⟩
   rw [List.replicate_succ',<- List.append_assoc,<- h1]
  ·rename_i hc
   exact ⟨0,by simp,.inr (by simpa using hc)⟩
def qcP (p:Bs):Bs:=bif p != [] then 46 :: p else []
def qrw (n:Nat):Bs:=Lib.decDigits (n / 10000) ++ (qcP (Lib.trimRightB (four (n % 10000)) 48) ++ [37])
theorem qjC {m:Nat} (h:m < 10000):(Lib.trimRightB (four m) 48).all (at8 qbd) = true /\ (Lib.trimRightB (four m) 48).length <= 4 /\ qgm (Lib.trimRightB (four m) 48) = four m /\ (Lib.trimRightB (four m) 48 ≠ [] -> qd8 (Lib.trimRightB (four m) 48) = true):=by
 obtain ⟨k,h1,h2⟩:=qoQ 4 (four m) rfl
 have ha:=qKu m
 rw [h1,List.all_append,Bool.and_eq_true] at ha
 have hlen:=congrArg List.length h1
 rw [List.length_append,List.length_replicate] at hlen
 have h4:(four m).length = 4:=rfl
 refine ⟨ha.1,by omega,?_,fun hne=>?_⟩
 ·unfold qgm
  rw [show 4 - (Lib.trimRightB (four m) 48).length = k by omega,<- h1]
 ·unfold qd8
  have e1:(Lib.trimRightB (four m) 48 != []) = true:=by simpa using hne
  have e2:((Lib.trimRightB (four m) 48).getLast? != some 48) = true:=by simpa using h2.resolve_left hne
  rw [e1,e2,ha.1,decide_eq_true (by omega)]; rfl
theorem qDG {a p:Bs} (ha:qgG a = true):qcH (a ++ qcP p) = (a,p,p != []):=by
 unfold qcP
 have h1:=(qbb.1 ha).1
 cases hp:(p != [])
 ·have:p = []:=by simpa using hp
  subst this
  rw [cond_false,List.append_nil,qmi h1]
 ·rw [cond_true,qpl h1]
theorem qxg {a p:Bs} (ha:qgG a = true) (hp:p ≠ [] -> qd8 p = true):qbN (a ++ (qcP p ++ [37])) = bif decide (a.length > 3) then ((0:Int),(1:Int)) else bif decide ((qa1 0 (a ++ qgm p):Int) > 1000000) then (0,1) else (((qa1 0 (a ++ qgm p):Nat):Int),0):=by
 have h1:((a ++ (qcP p ++ [37])).getLast? == some 37) = true:=by rw [<- List.append_assoc]; simp
 have h2:(a ++ (qcP p ++ [37])).dropLast = a ++ qcP p:=by rw [<- List.append_assoc,List.dropLast_concat]
 unfold qbN
 rw [h1,h2,qDG ha]
 simp only [cond_true,ha,Bool.not_true,Bool.false_or]
 have h3:((p != []) && !qd8 p) = false:=by
  cases hq:(p != [])
  ·rfl
  ·rw [hp (by simpa using hq)]; rfl
 rw [h3,cond_false]
end Go.Tk

/- A machine of plain values, and that what it says holds of the program. -/
import Derived.Test.YtgpbobelbcbcaaaGreatDoorE1
import Derived.Orders
import Derived.ProofKit
import Derived.Deep.Slices
import Derived.OpenShut
set_option linter.unusedVariables false
set_option linter.unusedSimpArgs false
set_option linter.unnecessarySimpa false
namespace Go.Eng
theorem qOs {k:EK} {x y:AV} (h:eqK k x y = some true):x = y:=by
 cases k <;> cases x <;> cases y <;> simp [eqK] at h
 ·obtain ⟨rfl,rfl⟩:=h; rfl
 ·subst h; rfl
 ·subst h; rfl
theorem qOr {k:EK} {x:AV} {b:Bool} (h:eqK k x x = some b):b = true:=by
 cases k <;> cases x <;> simp [eqK] at h <;> exact h.symm ▸ rfl
theorem qDT:∀ {ks:List EK} {xs ys:List AV},qcC ks xs ys = some true -> xs = ys
 | [],[],[],_=>rfl
 | [],_ :: _,_,h=>by simp [qcC] at h
 | [],[],_ :: _,h=>by simp [qcC] at h
 | k :: ks,[],_,h=>by simp [qcC] at h
 | k :: ks,_ :: _,[],h=>by simp [qcC] at h
 | k :: ks,x :: xs,y :: ys,h=>by
  simp only [qcC] at h
  split at h
  ·rename_i b bs h1 h2
   simp only [Option.some.injEq,Bool.and_eq_true] at h
   obtain ⟨rfl,rfl⟩:=h
   rw [qOs h1,qDT h2]
  ·cases h
theorem qDS:∀ {ks:List EK} {xs:List AV} {b:Bool},qcC ks xs xs = some b -> b = true
 | [],[],b,h=>by simp [qcC] at h; exact h.symm ▸ rfl
 | [],_ :: _,b,h=>by simp [qcC] at h
 | k :: ks,[],b,h=>by simp [qcC] at h
 | k :: ks,x :: xs,b,h=>by
  simp only [qcC] at h
  split at h
  ·rename_i b bs h1 h2
   simp only [Option.some.injEq] at h
   rw [<- h,qOr h1,qDS h2]; rfl
  ·cases h
theorem qcJ {ks:Key} {x y:AV} (h:qbK ks x y = some true):x = y:=by
 unfold qbK at h
 split at h
 ·rw [qDT h]
 ·exact qOs h
 ·cases h
theorem qj4 {ks:Key} {x:AV} {b:Bool} (h:qbK ks x x = some b):b = true:=by
 obtain ⟨t,l⟩:=ks
 cases t
 ·cases l with
  | nil=>cases x <;> simp [qbK] at h
  | cons k l=>
   cases l with
   | nil=>
    have:eqK k x x = some b:=by cases x <;> exact h
    exact qOr this
   | cons _ _=>cases x <;> simp [qbK] at h
 ·cases x <;> simp [qbK] at h
  exact qDS h
theorem qpp:∀ {ks:List EK} {xs ys:List AV} {b:Bool},qcC ks xs ys = some b -> ks.all isI = true -> ∃ kk,qbM xs = some kk /\ qbM ys = some kk
 | [],[],[],b,_,_=>⟨[],rfl,rfl⟩
 | [],_ :: _,_,b,h,_=>by simp [qcC] at h
 | [],[],_ :: _,b,h,_=>by simp [qcC] at h
 | k :: ks,[],_,b,h,_=>by simp [qcC] at h
 | k :: ks,_ :: _,[],b,h,_=>by simp [qcC] at h
 | k :: ks,x :: xs,y :: ys,b,h,hi=>by
  simp only [qcC] at h
  simp only [List.all_cons,Bool.and_eq_true] at hi
  split at h
  ·rename_i c cs h1 h2
   obtain ⟨kk,g1,g2⟩:=qpp h2 hi.2
   have hk:k = .i:=by
    cases k
    ·rfl
    ·exact absurd hi.1 (by simp [isI])
    ·exact absurd hi.1 (by simp [isI])
   subst hk
   cases x <;> cases y <;> simp [eqK] at h1
   obtain ⟨rfl,_⟩:=h1
   rename_i k1 _ _ _
   exact ⟨k1 :: kk,by simp only [qbM,g1,Option.map_some],by simp only [qbM,g2,Option.map_some]⟩
  ·cases h
theorem qgi {ks:Key} {x y:AV} {b:Bool} (h:qbK ks x y = some b) (hi:qm9 ks = true):∃ kk,qeI x = some kk /\ qeI y = some kk:=by
 obtain ⟨t,l⟩:=ks
 simp only [qm9,Bool.and_eq_true] at hi
 obtain ⟨rfl,hi⟩:=hi
 cases x <;> cases y <;> simp [qbK] at h
 exact qpp h hi
theorem qDR:∀ {ks:List EK} {xs ys:List AV} {kk:List IntKind},qbM xs = some kk -> qbM ys = some kk -> ks.all isI = true -> ks.length = kk.length -> ∃ b,qcC ks xs ys = some b
 | [],[],[],kk,_,_,_,_=>⟨true,rfl⟩
 | [],x :: xs,ys,kk,h,_,_,hl=>by
  cases x <;> simp [qbM] at h
  obtain ⟨_,_,rfl⟩:=h; simp at hl
 | [],[],y :: ys,kk,h,h',_,_=>by
  cases y <;> simp [qbM] at h h'
  obtain ⟨_,_,rfl⟩:=h'; cases h
 | k :: ks,[],ys,kk,h,_,_,hl=>by simp [qbM] at h; subst h; simp at hl
 | k :: ks,x :: xs,[],kk,h,h',_,_=>by
  simp [qbM] at h'; subst h'
  cases x <;> simp [qbM] at h
 | k :: ks,x :: xs,y :: ys,kk,h,h',hi,hl=>by
  simp only [List.all_cons,Bool.and_eq_true] at hi
  have hk:k = .i:=by
   cases k
   ·rfl
   ·exact absurd hi.1 (by simp [isI])
   ·exact absurd hi.1 (by simp [isI])
  subst hk
  cases x <;> simp [qbM] at h
  cases y <;> simp [qbM] at h'
  obtain ⟨k1,g1,rfl⟩:=h
  obtain ⟨k2,g2,g3⟩:=h'
  simp only [List.cons.injEq] at g3
  obtain ⟨rfl,rfl⟩:=g3
  obtain ⟨b,hb⟩:=qDR (ks:=ks) g1 g2 hi.2 (by simpa using hl)
  simp only [qcC,eqK,hb,if_true]
  exact ⟨_,rfl⟩
theorem qDQ:∀ {ks:List EK} {xs ys:List AV} {b:Bool} {kk:List IntKind},qcC ks xs ys = some b -> qbM ys = some kk -> ks.all isI = true /\ ks.length = kk.length /\ qbM xs = some kk
 | [],[],[],b,kk,_,h=>by simp [qbM] at h; subst h; exact ⟨rfl,rfl,rfl⟩
 | [],_ :: _,_,b,kk,h,_=>by simp [qcC] at h
 | [],[],_ :: _,b,kk,h,_=>by simp [qcC] at h
 | k :: ks,[],_,b,kk,h,_=>by simp [qcC] at h
 | k :: ks,_ :: _,[],b,kk,h,_=>by simp [qcC] at h
 | k :: ks,x :: xs,y :: ys,b,kk,h,hy=>by
  simp only [qcC] at h
  split at h
  ·rename_i c cs h1 h2
   cases y <;> simp [qbM] at hy
   obtain ⟨k1,g1,rfl⟩:=hy
   obtain ⟨a1,a2,a3⟩:=qDQ h2 g1
   cases k <;> cases x <;> simp [eqK] at h1
   obtain ⟨rfl,_⟩:=h1
   exact ⟨by simp only [List.all_cons,isI,a1,Bool.and_self],by simp [a2],by simp only [qbM,a3,Option.map_some]⟩
  ·cases h
theorem qg1 {ks:Key} {x y:AV} {b:Bool} {kk:List IntKind} (h:qbK ks x y = some b) (hy:qeI y = some kk):qm9 ks = true /\ qeI x = some kk /\ ∀ z,qeI z = some kk -> ∃ c,qbK ks x z = some c:=by
 obtain ⟨t,l⟩:=ks
 cases y <;> simp [qeI] at hy
 cases t
 ·exfalso
  cases l with
  | nil=>cases x <;> simp [qbK] at h
  | cons k l=>
   cases l with
   | nil=>cases k <;> cases x <;> simp [qbK,eqK] at h
   | cons _ _=>cases x <;> simp [qbK] at h
 ·cases x <;> simp [qbK] at h
  obtain ⟨h1,h2,h3⟩:=qDQ h hy
  refine ⟨by simp only [qm9,h1,Bool.and_self],h3,fun z hz=>?_⟩
  cases z <;> simp [qeI] at hz
  exact qDR h3 hz h1 h2
theorem qGe:∀ (xs:List AV),ltL xs xs = false
 | []=>rfl
 | x :: xs=>by cases x <;> simp [ltL,qGe xs]
theorem quh:∀ {xs ys zs:List AV},ltL xs ys = true -> ltL ys zs = true -> ltL xs zs = true
 | [],_,_,h,_=>by simp [ltL] at h
 | x :: xs,[],_,h,_=>by cases x <;> simp [ltL] at h
 | x :: xs,y :: ys,[],_,h=>by cases y <;> simp [ltL] at h
 | x :: xs,y :: ys,z :: zs,h1,h2=>by
  cases x <;> cases y <;> simp [ltL] at h1
  cases z <;> simp [ltL] at h2
  simp only [ltL,Bool.or_eq_true,decide_eq_true_eq,Bool.and_eq_true]
  rcases h1 with h1 | ⟨rfl,h1⟩ <;> rcases h2 with h2 | ⟨rfl,h2⟩
  ·left; omega
  ·left; omega
  ·left; omega
  ·exact .inr ⟨rfl,quh h1 h2⟩
theorem qGf:∀ {xs ys:List AV} {kk:List IntKind},qbM xs = some kk -> qbM ys = some kk -> xs = ys \/ ltL xs ys = true \/ ltL ys xs = true
 | [],[],_,_,_=>.inl rfl
 | [],y :: ys,kk,h,h'=>by
  simp [qbM] at h; subst h
  cases y <;> simp [qbM] at h'
 | x :: xs,[],kk,h,h'=>by
  simp [qbM] at h'; subst h'
  cases x <;> simp [qbM] at h
 | x :: xs,y :: ys,kk,h,h'=>by
  cases x <;> simp [qbM] at h
  cases y <;> simp [qbM] at h'
  obtain ⟨k1,g1,rfl⟩:=h
  obtain ⟨k2,g2,g3⟩:=h'
  simp only [List.cons.injEq] at g3
  obtain ⟨rfl,rfl⟩:=g3
  rename_i a k b
  simp only [ltL,Bool.or_eq_true,decide_eq_true_eq,Bool.and_eq_true]
  rcases Int.lt_trichotomy a b with h | h | h
  ·exact .inr (.inl (.inl h))
  ·subst h
   rcases qGf g1 g2 with h | h | h
   ·exact .inl (by rw [h])
   ·exact .inr (.inl (.inr ⟨rfl,h⟩))
   ·exact .inr (.inr (.inr ⟨rfl,h⟩))
  ·exact .inr (.inr (.inl h))
theorem qka (x:AV):ltK x x = false:=by cases x <;> simp [ltK,qGe]
theorem qg6 {x y z:AV} (h1:ltK x y = true) (h2:ltK y z = true):ltK x z = true:=by
 cases x <;> cases y <;> simp [ltK] at h1
 cases z <;> simp [ltK] at h2
 simp only [ltK]; exact quh h1 h2
theorem qGd {x y:AV} {kk:List IntKind} (hx:qeI x = some kk) (hy:qeI y = some kk):x = y \/ ltK x y = true \/ ltK y x = true:=by
 cases x <;> simp [qeI] at hx
 cases y <;> simp [qeI] at hy
 simp only [ltK,AV.agg.injEq]; exact qGf hx hy
theorem qVO {x y:AV} (h:ltK x y = true):x ≠ y:=by
 rintro rfl; rw [qka] at h; cases h
theorem qrn {ks:Key} {x:AV}:∀ {l:List (AV × AV)},(∀ p ∈ l,∃ b,qbK ks x p.1 = some b) -> ∃ ri,qhW ks l x = some ri
 | [],_=>⟨none,rfl⟩
 | (k,v) :: l,h=>by
  obtain ⟨b,hb⟩:=h (k,v) (by simp)
  obtain ⟨ri,hr⟩:=qrn (l:=l) fun p hp=>h p (by simp [hp])
  cases b
  ·exact ⟨ri.map (· + 1),by simp only [qhW,hb,hr,Option.map_some]⟩
  ·exact ⟨some 0,by simp only [qhW,hb]⟩
theorem qja {ks:Key} {x:AV}:∀ {l:List (AV × AV)},qhW ks l x = some none -> ∀ p ∈ l,qbK ks x p.1 = some false
 | [],_=>by simp
 | (k,v) :: l,h=>by
  simp only [qhW] at h
  split at h
  ·simp at h
  ·rename_i hk
   simp only [Option.map_eq_some_iff] at h
   obtain ⟨r,hr,he⟩:=h
   cases r with
   | some _=>simp at he
   | none=>
    intro p hp
    rcases List.mem_cons.1 hp with rfl | hp
    ·exact hk
    ·exact qja hr p hp
  ·cases h
theorem set_perm {α:Type}:∀ {l:List α} {i:Nat} {a:α},i < l.length -> (l.set i a).Perm (a :: l.eraseIdx i)
 | x :: l,0,a,_=>by simp
 | x :: l,i + 1,a,h=>by
  have:=set_perm (l:=l) (i:=i) (a:=a) (by simpa using h)
  simp only [List.set_cons_succ,List.eraseIdx_cons_succ]
  exact (this.cons x).trans (List.Perm.swap a x _)
theorem qfm {α:Type}:∀ {l:List α} {i:Nat} {a:α},l[i]? = some a -> l.Perm (a :: l.eraseIdx i)
 | x :: l,0,a,h=>by simp at h; subst h; simp
 | x :: l,i + 1,a,h=>by
  have:=qfm (l:=l) (i:=i) (a:=a) (by simpa using h)
  simp only [List.eraseIdx_cons_succ]
  exact (this.cons x).trans (List.Perm.swap a x _)
 | [],_,_,h=>by simp at h
theorem qy9 {ks:Key} {x y:AV} {kk:List IntKind} (hx:qeI x = some kk):∀ {m m':List (AV × AV)},qcE ks m x y = some m' -> (∀ p ∈ m,qeI p.1 = some kk) -> (m.Pairwise fun p q=>ltK p.1 q.1 = true) ->
  (m'.Pairwise fun p q=>ltK p.1 q.1 = true) /\ (∀ p ∈ m',p = (x,y) \/ p ∈ m) /\ ((∃ (i:Nat) (q:AV),m[i]? = some (x,q) /\ m'.Perm ((x,y) :: m.eraseIdx i)) \/ ((∀ p ∈ m,x ≠ p.1) /\ m'.Perm ((x,y) :: m)))
 | [],m',h,_,_=>by
  simp only [qcE,Option.some.injEq] at h
  subst h
  exact ⟨by simp,by simp,.inr ⟨by simp,.refl _⟩⟩
 | (k,v) :: m,m',h,hu,hs=>by
  simp only [qcE] at h
  rw [List.pairwise_cons] at hs
  split at h
  ·rename_i he
   simp only [Option.some.injEq] at h
   subst h
   have:=qcJ he
   subst this
   exact ⟨List.pairwise_cons.2 hs,fun p hp=>(List.mem_cons.1 hp).imp id fun h=>by simp [h],.inl ⟨0,v,rfl,by simp⟩⟩
  ·rename_i he
   split at h
   ·rename_i hlt
    simp only [Option.some.injEq] at h
    subst h
    have hall:∀ p ∈ (k,v) :: m,ltK x p.1 = true:=by
     intro p hp
     rcases List.mem_cons.1 hp with rfl | hp
     ·exact hlt
     ·exact qg6 hlt (hs.1 p hp)
    exact ⟨List.pairwise_cons.2 ⟨hall,List.pairwise_cons.2 hs⟩,fun p hp=>List.mem_cons.1 hp,.inr ⟨fun p hp=>qVO (hall p hp),.refl _⟩⟩
   ·rename_i hlt
    simp only [Option.map_eq_some_iff] at h
    obtain ⟨m1,h1,rfl⟩:=h
    obtain ⟨g1,g2,g3⟩:=qy9 hx h1 (fun p hp=>hu p (by simp [hp])) hs.2
    have hk:=hu (k,v) (by simp)
    have hkx:x ≠ k:=by
     rintro rfl
     have:=qj4 he
     cases this
    have hgt:ltK k x = true:=by
     rcases qGd hk hx with h | h | h
     ·exact absurd h.symm hkx
     ·exact h
     ·exact absurd h hlt
    refine ⟨List.pairwise_cons.2 ⟨fun p hp=>?_,g1⟩,fun p hp=>?_,?_⟩
    ·rcases g2 p hp with rfl | hp
     ·exact hgt
     ·exact hs.1 p hp
    ·rcases List.mem_cons.1 hp with rfl | hp
     ·exact .inr (by simp)
     ·exact (g2 p hp).imp id fun h=>by simp [h]
    ·rcases g3 with ⟨i,q,e1,e2⟩ | ⟨e1,e2⟩
     ·exact .inl ⟨i + 1,q,by simpa using e1,by simp only [List.eraseIdx_cons_succ]; exact (e2.cons _).trans (List.Perm.swap _ _ _)⟩
     ·exact .inr ⟨fun p hp=>by
       rcases List.mem_cons.1 hp with rfl | hp
       ·exact hkx
       ·exact e1 p hp,(e2.cons _).trans (List.Perm.swap _ _ _)⟩
  ·cases h
theorem qBr {ks:Key} {x y x' y':AV} {kk:List IntKind} (hx:qeI x = some kk) (hx':qeI x' = some kk) (hne:qbK ks x x' = some false) (hne':qbK ks x' x = some false) :
  ∀ {m m1 m2:List (AV × AV)},qcE ks m x y = some m1 -> qcE ks m1 x' y' = some m2 -> ∃ m3,qcE ks m x' y' = some m3 /\ qcE ks m3 x y = some m2:=by
 have hnn:x ≠ x':=by
  rintro rfl
  have:=qj4 hne
  cases this
 have htot:(ltK x x' = true /\ ltK x' x = false) \/ (ltK x x' = false /\ ltK x' x = true):=by
  rcases qGd hx hx' with h | h | h
  ·exact absurd h hnn
  ·refine .inl ⟨h,?_⟩
   cases h2:ltK x' x with
   | false=>rfl
   | true=>have:=qg6 h h2; rw [qka] at this; cases this
  ·refine .inr ⟨?_,h⟩
   cases h2:ltK x x' with
   | false=>rfl
   | true=>have:=qg6 h h2; rw [qka] at this; cases this
 intro m
 induction m with
 | nil=>
  intro m1 m2 h1 h2
  simp only [qcE,Option.some.injEq] at h1
  subst h1
  refine ⟨[(x',y')],rfl,?_⟩
  simp only [qcE,hne',hne] at h2 ⊢
  rcases htot with ⟨a,b⟩ | ⟨a,b⟩ <;> simp only [a,b,if_true,Bool.false_eq_true,if_false,Option.map_some] at h2 ⊢ <;> exact h2
 | cons p m ih=>
  obtain ⟨k,v⟩:=p
  intro m1 m2 h1 h2
  simp only [qcE] at h1
  split at h1
  ·
   rename_i he
   simp only [Option.some.injEq] at h1
   subst h1
   have hk:=qcJ he
   subst hk
   simp only [qcE,hne'] at h2 ⊢
   split at h2
   ·rename_i hlt
    simp only [Option.some.injEq] at h2
    subst h2
    have hnl:ltK x x' = false:=by
     rcases htot with ⟨_,b⟩ | ⟨a,_⟩
     ·rw [b] at hlt; cases hlt
     ·exact a
    refine ⟨(x',y') :: (x,v) :: m,by rw [if_pos hlt],?_⟩
    simp only [qcE,hne,hnl,Bool.false_eq_true,if_false,he,Option.map_some]
   ·rename_i hlt
    simp only [Option.map_eq_some_iff] at h2
    obtain ⟨m3,h3,rfl⟩:=h2
    refine ⟨(x,v) :: m3,by rw [if_neg hlt,h3]; rfl,?_⟩
    simp only [qcE,he]
  ·rename_i he
   split at h1
   ·
    rename_i hlt
    simp only [Option.some.injEq] at h1
    subst h1
    simp only [qcE,hne'] at h2
    split at h2
    ·rename_i hlt'
     simp only [Option.some.injEq] at h2
     subst h2
     have hnl:ltK x x' = false:=by
      rcases htot with ⟨_,b⟩ | ⟨a,_⟩
      ·rw [b] at hlt'; cases hlt'
      ·exact a
     have hk:ltK x' k = true:=qg6 hlt' hlt
     cases hq:qbK ks x' k with
     | none=>
      exfalso
      obtain ⟨hik,_,hal⟩:=qg1 hne' hx
      obtain ⟨k2,e1,e2⟩:=qgi he hik
      rw [hx] at e1; cases e1
      obtain ⟨c,hc⟩:=hal k e2
      rw [hq] at hc; cases hc
     | some b=>
      cases b
      ·refine ⟨(x',y') :: (k,v) :: m,by simp only [qcE,hq,hk,if_true],?_⟩
       simp only [qcE,hne,hnl,Bool.false_eq_true,if_false,he,hlt,if_true,Option.map_some]
      ·have:=qcJ hq
       subst this
       rw [qka] at hk; cases hk
    ·rename_i hlt'
     simp only [Option.map_eq_some_iff] at h2
     obtain ⟨m3,h3,rfl⟩:=h2
     have h3':qcE ks ((k,v) :: m) x' y' = some m3:=by simp only [qcE]; exact h3
     refine ⟨m3,h3',?_⟩
     split at h3
     ·rename_i he2
      simp only [Option.some.injEq] at h3
      subst h3
      simp only [qcE,he,hlt,if_true]
     ·rename_i he2
      split at h3
      ·simp only [Option.some.injEq] at h3
       subst h3
       have hl:ltK x x' = true:=by
        rcases htot with ⟨a,_⟩ | ⟨_,b⟩
        ·exact a
        ·exact absurd b hlt'
       simp only [qcE,hne,hl,if_true]
      ·simp only [Option.map_eq_some_iff] at h3
       obtain ⟨m4,h4,rfl⟩:=h3
       simp only [qcE,he,hlt,if_true]
     ·cases h3
   ·rename_i hlt
    simp only [Option.map_eq_some_iff] at h1
    obtain ⟨m1',h1',rfl⟩:=h1
    simp only [qcE] at h2
    split at h2
    ·rename_i he2
     simp only [Option.some.injEq] at h2
     subst h2
     refine ⟨(k,y') :: m,by simp only [qcE,he2],?_⟩
     simp only [qcE,he,hlt,Bool.false_eq_true,if_false,h1',Option.map_some]
    ·rename_i he2
     split at h2
     ·rename_i hlt2
      simp only [Option.some.injEq] at h2
      subst h2
      refine ⟨(x',y') :: (k,v) :: m,by simp only [qcE,he2,hlt2,if_true],?_⟩
      have hnl:ltK x x' = false:=by
       cases h:ltK x x' with
       | false=>rfl
       | true=>exact absurd (qg6 h hlt2) hlt
      simp only [qcE,hne,hnl,he,hlt,Bool.false_eq_true,if_false,h1',Option.map_some]
     ·rename_i hlt2
      simp only [Option.map_eq_some_iff] at h2
      obtain ⟨m2',h2',rfl⟩:=h2
      obtain ⟨m3,h3,h4⟩:=ih h1' h2'
      refine ⟨(k,v) :: m3,by simp only [qcE,he2,hlt2,Bool.false_eq_true,if_false,h3,Option.map_some],?_⟩
      simp only [qcE,he,hlt,Bool.false_eq_true,if_false,h4,Option.map_some]
    ·cases h2
  ·cases h1
theorem qqh {l:List (AV × AV)} (hs:l.Pairwise fun p q=>ltK p.1 q.1 = true) {p q:AV × AV} (hp:p ∈ l) (hq:q ∈ l) (he:p.1 = q.1):p = q:=by
 obtain ⟨i,hi,rfl⟩:=List.mem_iff_getElem.1 hp
 obtain ⟨j,hj,rfl⟩:=List.mem_iff_getElem.1 hq
 have h:=List.pairwise_iff_getElem.1 hs
 rcases Nat.lt_trichotomy i j with hl | rfl | hl
 ·have:=h i j hi hj hl; rw [he,qka] at this; cases this
 ·rfl
 ·have:=h j i hj hi hl; rw [he,qka] at this; cases this
theorem quk {ks:Key} {x k v:AV} {l:List (AV × AV)} {r:Option Nat} (h:qhW ks ((k,v) :: l) x = some r):∃ b,qbK ks x k = some b:=by
 simp only [qhW] at h
 split at h
 ·exact ⟨true,by assumption⟩
 ·exact ⟨false,by assumption⟩
 ·cases h
theorem MapOf.pos {kvs0 kvs:List (AV × AV)} (hM:MapOf kvs0 kvs) {ks:Key} {x:AV} {ri:Option Nat} (h:qhW ks kvs x = some ri) :
  ∃ r0,qhW ks kvs0 x = some r0 /\ ((ri = none /\ r0 = none) \/ ∃ i j kv,ri = some i /\ r0 = some j /\ kvs[i]? = some kv /\ kvs0[j]? = some kv /\ x = kv.1 /\ (kvs0 = kvs -> i = j)):=by
 rcases hM with ⟨rfl,_⟩ | ⟨hp,⟨kk,hk⟩,hs⟩
 ·refine ⟨ri,h,?_⟩
  cases ri with
  | none=>exact .inl ⟨rfl,rfl⟩
  | some i=>
   obtain ⟨k,v,h1,h2⟩:=qeU h
   exact .inr ⟨i,i,(k,v),rfl,rfl,h1,h1,qcJ h2,fun _=>rfl⟩
 ·cases hkv:kvs with
  | nil=>
   subst hkv
   have:=hp.eq_nil
   subst this
   simp only [qhW,Option.some.injEq] at h
   exact ⟨none,rfl,.inl ⟨h.symm,rfl⟩⟩
  | cons kv l=>
   rw [<- hkv]
   obtain ⟨k,v⟩:=kv
   obtain ⟨b,hb⟩:=quk (hkv ▸ h)
   obtain ⟨_,hxk,hall⟩:=qg1 hb (hk (k,v) (by rw [hkv]; simp))
   obtain ⟨r0,h0⟩:=qrn (l:=kvs0) (x:=x) (ks:=ks) fun p hpm=>hall p.1 (hk p (hp.mem_iff.1 hpm))
   refine ⟨r0,h0,?_⟩
   cases ri with
   | none=>
    have hn:=qja h
    cases r0 with
    | none=>exact .inl ⟨rfl,rfl⟩
    | some j=>
     obtain ⟨k',v',h1,h2⟩:=qeU h0
     have:=hn (k',v') (hp.mem_iff.1 (List.mem_of_getElem? h1))
     rw [h2] at this; cases this
   | some i=>
    obtain ⟨k',v',h1,h2⟩:=qeU h
    have hx:=qcJ h2
    subst hx
    cases r0 with
    | none=>
     have:=qja h0 (x,v') (hp.mem_iff.2 (List.mem_of_getElem? h1))
     rw [h2] at this; cases this
    | some j=>
     obtain ⟨k2,v2,h3,h4⟩:=qeU h0
     have hx:=qcJ h4
     subst hx
     have:=qqh hs (List.mem_of_getElem? h1) (hp.mem_iff.1 (List.mem_of_getElem? h3)) rfl
     cases this
     exact .inr ⟨i,j,(x,v'),rfl,rfl,h1,h3,rfl,fun he=>by
      subst he; rw [h0] at h; cases h; rfl⟩
theorem MapOf.put {kvs0 kvs kvs':List (AV × AV)} (hM:MapOf kvs0 kvs) {ks:Key} {x y:AV} (hkey:isKey ks x = true) (h:qBq ks kvs x y = some kvs') :
  ∃ r0,qhW ks kvs0 x = some r0 /\ ((r0 = none /\ MapOf (kvs0 ++ [(x,y)]) kvs') \/ ∃ j q,r0 = some j /\ kvs0[j]? = some (x,q) /\ MapOf (kvs0.set j (x,y)) kvs'):=by
 obtain ⟨bx,hbx⟩:=Option.isSome_iff_exists.1 hkey
 unfold qBq at h
 split at h
 ·rename_i hi
  obtain ⟨kk,hkx,_⟩:=qgi hbx hi
  have hR:kvs0.Perm kvs /\ (∀ p ∈ kvs,qeI p.1 = some kk) /\ kvs.Pairwise fun p q=>ltK p.1 q.1 = true:=by
   cases hkv:kvs with
   | nil=>
    subst hkv
    have:kvs0 = []:=by
     rcases hM with ⟨h,_⟩ | ⟨h,_⟩
     ·exact h
     ·exact h.eq_nil
    subst this
    exact ⟨.refl _,by simp,.nil⟩
   | cons kv l=>
    obtain ⟨k,v⟩:=kv
    have hd:∃ b,qbK ks x k = some b:=by
     rw [hkv] at h
     simp only [qcE] at h
     split at h
     ·exact ⟨true,by assumption⟩
     ·exact ⟨false,by assumption⟩
     ·cases h
    obtain ⟨b,hb⟩:=hd
    obtain ⟨k2,e1,e2⟩:=qgi hb hi
    rw [hkx] at e1; cases e1
    rw [<- hkv]
    rcases hM with ⟨rfl,hno⟩ | ⟨hp,⟨k3,hk3⟩,hs⟩
    ·have:=hno (k,v) (by rw [hkv]; simp)
     rw [e2] at this; cases this
    ·have:=hk3 (k,v) (by rw [hkv]; simp)
     rw [e2] at this; cases this
     exact ⟨hp,hk3,hs⟩
  obtain ⟨hp,hk,hs⟩:=hR
  obtain ⟨_,_,hall⟩:=qg1 hbx hkx
  obtain ⟨r0,h0⟩:=qrn (l:=kvs0) (x:=x) (ks:=ks) fun p hpm=>hall p.1 (hk p (hp.mem_iff.1 hpm))
  obtain ⟨g1,g2,g3⟩:=qy9 hkx h hk hs
  have hkk:∃ kk,∀ p ∈ kvs',qeI p.1 = some kk:=⟨kk,fun p hpm=>by
   rcases g2 p hpm with rfl | hpm
   ·exact hkx
   ·exact hk p hpm⟩
  refine ⟨r0,h0,?_⟩
  cases r0 with
  | none=>
   have hn:=qja h0
   refine .inl ⟨rfl,.inr ⟨?_,hkk,g1⟩⟩
   rcases g3 with ⟨i,q,e1,_⟩ | ⟨_,e2⟩
   ·have:=hn (x,q) (hp.mem_iff.2 (List.mem_of_getElem? e1))
    have:=qj4 this
    cases this
   ·exact (List.perm_append_comm.trans ((hp.cons _))).trans e2.symm
  | some j=>
   obtain ⟨k',v',h1,h2⟩:=qeU h0
   have hx:=qcJ h2
   subst hx
   refine .inr ⟨j,v',rfl,h1,.inr ⟨?_,hkk,g1⟩⟩
   have hmem:=hp.mem_iff.1 (List.mem_of_getElem? h1)
   rcases g3 with ⟨i,q,e1,e2⟩ | ⟨e1,_⟩
   ·have:=qqh hs hmem (List.mem_of_getElem? e1) rfl
    cases this
    have hlt:j < kvs0.length:=(List.getElem?_eq_some_iff.1 h1).1
    have hc:(kvs0.eraseIdx j).Perm (kvs.eraseIdx i):=by
     have:=((qfm h1).symm.trans hp).trans (qfm e1)
     exact this.cons_inv
    exact ((set_perm hlt).trans (hc.cons _)).trans e2.symm
   ·exact absurd rfl (e1 _ hmem)
 ·rename_i hi
  obtain ⟨ri,hpos,hri⟩:=qul h
  have hnx:qeI x = none:=by
   cases hq:qeI x with
   | none=>rfl
   | some kk=>exact absurd (qg1 hbx hq).1 hi
  have hL:kvs0 = kvs /\ ∀ p ∈ kvs,qeI p.1 = none:=by
   rcases hM with hM | ⟨hp,⟨kk,hk⟩,_⟩
   ·exact hM
   ·cases hkv:kvs with
    | nil=>subst hkv; exact ⟨hp.eq_nil,by simp⟩
    | cons kv l=>
     obtain ⟨k,v⟩:=kv
     obtain ⟨b,hb⟩:=quk (hkv ▸ hpos)
     exact absurd (qg1 hb (hk (k,v) (by rw [hkv]; simp))).1 hi
  obtain ⟨rfl,hno⟩:=hL
  refine ⟨ri,hpos,?_⟩
  rcases hri with ⟨rfl,rfl⟩ | ⟨i,k,v,rfl,h1,rfl⟩
  ·exact .inl ⟨rfl,.inl ⟨rfl,fun p hp=>by
    rcases List.mem_append.1 hp with hp | hp
    ·exact hno p hp
    ·rw [List.mem_singleton] at hp; subst hp; exact hnx⟩⟩
  ·obtain ⟨k',v',h3,h4⟩:=qeU hpos
   have hx:=qcJ h4
   subst hx
   rw [h1] at h3; cases h3
   exact .inr ⟨i,v,rfl,h1,.inl ⟨rfl,fun p hp=>by
    rcases List.mem_or_eq_of_mem_set hp with hp | rfl
    ·exact hno p hp
    ·exact hnx⟩⟩
theorem MapOf.cut {kvs0 kvs kvs':List (AV × AV)} (hM:MapOf kvs0 kvs) {ks:Key} {x:AV} (h:qKQ ks kvs x = some kvs') :
  ∃ r0,qhW ks kvs0 x = some r0 /\ ((r0 = none /\ kvs' = kvs) \/ ∃ j q,r0 = some j /\ kvs0[j]? = some (x,q) /\ MapOf (kvs0.eraseIdx j) kvs'):=by
 obtain ⟨ri,hpos,hri⟩:=qy7 h
 obtain ⟨r0,h0,hc⟩:=hM.pos hpos
 refine ⟨r0,h0,?_⟩
 rcases hc with ⟨rfl,rfl⟩ | ⟨i,j,kv,rfl,rfl,h1,h2,hx,hij⟩
 ·rcases hri with ⟨_,h⟩ | ⟨i,hi,_⟩
  ·exact .inl ⟨rfl,h⟩
  ·cases hi
 ·rcases hri with ⟨hi,_⟩ | ⟨i',hi,hlt,rfl⟩
  ·cases hi
  ·cases hi
   obtain ⟨k,v⟩:=kv
   simp only at hx
   subst hx
   refine .inr ⟨j,v,rfl,h2,?_⟩
   rcases hM with ⟨rfl,hno⟩ | ⟨hp,⟨kk,hk⟩,hs⟩
   ·have:=hij rfl
    subst this
    exact .inl ⟨rfl,fun p hp=>hno p (List.mem_of_mem_eraseIdx hp)⟩
   ·have:=((qfm h2).symm.trans hp).trans (qfm h1)
    exact .inr ⟨this.cons_inv,⟨kk,fun p hp=>hk p (List.mem_of_mem_eraseIdx hp)⟩,hs.sublist (List.eraseIdx_sublist _ _)⟩
end Go.Eng
namespace Go.Eng
set_option linter.unusedSectionVars false
variable [Globs]
section
variable {P:Program} {w:World} {I:Imm} {m:Names} {h:Heap} {nx:Nat}
theorem run_getObj_map {r:Nat} {es:Array MapEntry} {clock:Nat} (hr:w.heap[r]? = some (.map es clock)):(getObj r).run P w = .ok (.map es clock) w:=by
 simp [getObj,Sem.run,hr]
def World.setObj' (w:World) (r:Nat) (o:Obj):World:={ w with heap:=w.heap.setIfInBounds r o }
theorem run_setObj_map {r:Nat} {es:Array MapEntry} {clock:Nat} {o:Obj} (hr:w.heap[r]? = some (.map es clock)):(setObj r o).run P w = .ok () (World.setObj' w r o):=by
 simp [setObj,Sem.run,hr,World.setObj']
theorem qoi {r:Nat} {o:Obj} (h:r < w.heap.size):(World.setObj' w r o).heap[r]? = some o:=by simp [World.setObj',h]
theorem qe0 {r k:Nat} {o:Obj} (h:k ≠ r):(World.setObj' w r o).heap[k]? = w.heap[k]?:=by simp [World.setObj',Array.getElem?_setIfInBounds,Ne.symm h]
theorem qoj {r:Nat} {o:Obj}:(World.setObj' w r o).heap.size = w.heap.size:=by simp [World.setObj']
theorem qkW (H:HeapAt w I m h) {r:Nat} {es es':Array MapEntry} {clock clock':Nat} (hr:w.heap[r]? = some (.map es clock)):Stays w (World.setObj' w r (.map es' clock')) I where
 size:=by rw [qoj]; exact Nat.le_refl _
 row:=fun b C e hC=>by
  have hb:b ≠ r:=fun h=>by rw [h,hr] at hC; cases hC
  exact ⟨C,by rw [qe0 hb]; exact hC,rfl⟩
 imm:=fun b o _=>by
  have hlt:r < w.heap.size:=(Array.getElem?_eq_some_iff.1 hr).1
  by_cases hb:b = r
  ·subst hb
   simp only [World.cell?,ad,qoi hlt,hr]
  ·simp only [World.cell?,ad]
   rw [qe0 hb]
 out:=⟨rfl,rfl,rfl⟩
theorem After.mapped (H:HeapAt w I m h) {id:Nat} {old:Blk} {kvs:List (AV × AV)} (hid:qad h id = some old) {L:Loc} (hL:m id = some L) {es es':Array MapEntry} {clock clock':Nat}
  (hC:w.heap[L.blk]? = some (.map es clock)) {kvs0:List (AV × AV)} (hM:MapOf kvs0 kvs) (hnew:qiL w I kvs0 es'.toList):After w (World.setObj' w L.blk (.map es' clock')) I I m m h (qch h id (.mp kvs)) nx where
 stays:=qkW H hC
 imm:=fun _ _ h=>h
 names:=fun _ _ h=>h
 fresh:=fun i h1 h2=>absurd h1 h2
 heap:=by
  have hlt:L.blk < w.heap.size:=(Array.getElem?_eq_some_iff.1 hC).1
  have hs:Stays w (World.setObj' w L.blk (.map es' clock')) I:=qkW H hC
  constructor
  ·intro i a hi
   rw [qa6] at hi
   by_cases ei:i = id
   ·subst ei
    simp at hi; subst hi
    obtain ⟨h1,h2⟩:=qcu.1 hnew
    refine ⟨L,hL,es',clock',kvs0,hM,qoi hlt,by simpa using h1,fun i kv hkv=>?_⟩
    obtain ⟨x,hx,h3,h4⟩:=h2 i kv hkv
    exact ⟨x,by simpa using hx,qaP hs (fun _ _ h=>h) _ (fun _ _ h=>h) h3,qaP hs (fun _ _ h=>h) _ (fun _ _ h=>h) h4⟩
   ·rw [if_neg ei] at hi
    obtain ⟨L',hL',hat⟩:=H.at_ i a hi
    have hne:L'.blk ≠ L.blk:=fun he=>ei (H.apart i id a old L' L hi hid hL' hL he)
    exact ⟨L',hL',hat.keep hs (fun _ _ h=>h) (fun _ _ h=>h) (qe0 hne) fun _ h=>h⟩
  ·intro i j a b L1 L2 hi hj hL1 hL2 he
   rw [qa6] at hi hj
   have hi':∃ a,qad h i = some a:=by
    by_cases ei:i = id
    ·exact ⟨old,ei ▸ hid⟩
    ·rw [if_neg ei] at hi; exact ⟨a,hi⟩
   have hj':∃ a,qad h j = some a:=by
    by_cases ej:j = id
    ·exact ⟨old,ej ▸ hid⟩
    ·rw [if_neg ej] at hj; exact ⟨b,hj⟩
   obtain ⟨a',hi'⟩:=hi'
   obtain ⟨b',hj'⟩:=hj'
   exact H.apart i j a' b' L1 L2 hi' hj' hL1 hL2 he
  ·intro b o hi
   rw [qoj]; exact H.old b o hi
  ·exact H.glob.mono hs fun _ _ h=>h
 frame:=fun k hk hno=>qe0 fun e=>hno ⟨id,old,L,hid,hL,e.symm⟩
 newI:=fun _ _ h=>.inl h
 owns:=fun k ho=>by
  obtain ⟨i,a,L',hi,hL',rfl⟩:=ho
  rw [qa6] at hi
  by_cases ei:i = id
  ·exact .inl ⟨i,old,L',ei ▸ hid,hL',rfl⟩
  ·rw [if_neg ei] at hi; exact .inl ⟨i,a,L',hi,hL',rfl⟩
 dom:=fun i a hi=>by
  rw [qa6] at hi
  by_cases ei:i = id
  ·exact .inl ⟨old,ei ▸ hid⟩
  ·rw [if_neg ei] at hi; exact .inl ⟨a,hi⟩
theorem qy6 (H:HeapAt w I m h) {id:Nat} {kvs:List (AV × AV)} (hid:qad h id = some (.mp kvs)) {v:Value} (hr:Rel w I (.mref id) m v) :
  ∃ L es clock kvs0,MapOf kvs0 kvs /\ m id = some L /\ v = .map (some L.blk) /\ w.heap[L.blk]? = some (.map es clock) /\ es.size = kvs0.length /\ qiL w I kvs0 es.toList:=by
 simp only [Rel] at hr
 obtain ⟨L,hL,rfl⟩:=hr
 obtain ⟨L',hL',hat⟩:=H.at_ id _ hid
 rw [hL] at hL'; cases hL'
 obtain ⟨es,clock,kvs0,hM,hC,hsz,hcell⟩:=hat
 refine ⟨L,es,clock,kvs0,hM,hL,rfl,hC,hsz,qcu.2 ⟨by simpa using hsz,fun i kv hkv=>?_⟩⟩
 obtain ⟨x,hx,h1,h2⟩:=hcell i kv hkv
 exact ⟨x,by simpa using hx,h1,h2⟩
theorem qDU {k:EK} {x y:AV} {c:Bool} (h:eqK k x y = some c):idsA x = []:=by
 cases k <;> cases x <;> cases y <;> first | rfl | simp [eqK] at h
theorem qFy {ks:Key} {x:AV} (hk:isKey ks x = true) {u:Value} (hr:Rel w I x m u):Rel w I x m0 u:=by
 refine qeB x ?_ hr
 simp only [isKey,Option.isSome_iff_exists] at hk
 obtain ⟨b,hb⟩:=hk
 obtain ⟨xs,ys,h1,h2,h3⟩:=qer hb
 have key:∀ (l:List EK) (xs ys:List AV) (b:Bool),qcC l xs ys = some b -> idsA.idsL xs = []:=by
  intro l
  induction l with
  | nil=>intro xs ys b hb; cases xs <;> cases ys <;> simp [qcC] at hb; rfl
  | cons k l ih=>
   intro xs ys b hb
   cases xs <;> cases ys <;> simp only [qcC,reduceCtorEq] at hb
   split at hb
   ·rename_i c d h1 h2
    simp only [idsA.idsL,ih _ _ _ h2,List.append_nil]
    exact qDU h1
   ·cases hb
 have hxs:=key _ _ _ _ h3
 rcases h1 with ⟨_,rfl⟩ | ⟨_,rfl⟩
 ·simpa [idsA] using hxs
 ·simpa [idsA.idsL] using hxs
theorem qOG (H:HeapAt w I m h) {t kt et:TypeId} {ks:Key} {z:AV} (ht:P.underlying t = some (.map kt et)) (hk:qvw P kt = some ks) (hz:zeroOf P et = some z) {id:Nat} {kvs:List (AV × AV)} (hid:qad h id = some (.mp kvs))
  {v u:Value} (hr:Rel w I (.mref id) m v) {x:AV} (hx:Rel w I x m u) (hkey:isKey ks x = true) {r:Option AV} (hf:qno ks kvs x = some r) {ok:Bool} {q:AV}
  (hq:q = (let p:=r.getD z; if ok then .tup [p,.bool r.isSome] else p)):Gives P w I m (do pure (.value (<- Instr.lookup t v u ok))) q:=by
 obtain ⟨L,es,clock,kvs0,hM,hL,rfl,hC,hsz,hkv⟩:=qy6 H hid hr
 obtain ⟨ri0,hp0,hri⟩:=quj hf
 obtain ⟨ri,hp,hcase⟩:=hM.pos hp0
 have hx0:=qFy hkey hx
 have hfk:=qgf (P:=P) hk hx0 hkey hkv hp
 have hck:=qe8 (P:=P) hk hx hkey es.isEmpty
 obtain ⟨zv,hzv,hav⟩:=qdx hz w
 have hzr:Rel w I z m zv:=hav _ _ _
 obtain ⟨h1,h2⟩:=qcu.1 hkv
 rcases hcase with ⟨rfl,rfl⟩ | ⟨i0,i,kv,rfl,rfl,hi0,hi,_,_⟩
 ·simp at hri; subst hri
  have hrun:(Instr.lookup t (.map (some L.blk)) u ok).run P w = .ok (if ok then .tuple #[zv,.bool false] else zv) w:=by
   simp only [Instr.lookup,Sem.run_bind,run_underlying ht,Result.andThen_ok,run_getObj_map hC,Sem.run_pure,hck,hfk,Option.bind_none,hzv]
  refine qaz hrun ?_
  subst hq
  cases ok
  ·simpa using hzr
  ·simp only [if_true,Option.getD_none,Option.isSome_none,Rel]
   exact ⟨[zv,.bool false],rfl,by simp [qaM,Rel,hzr]⟩
 ·obtain ⟨k,y⟩:=kv
  obtain ⟨e,he,_,hy⟩:=h2 i (k,y) hi
  simp [hi0] at hri; subst hri
  have hrun:(Instr.lookup t (.map (some L.blk)) u ok).run P w = .ok (if ok then .tuple #[e.val,.bool true] else e.val) w:=by
   simp only [Instr.lookup,Sem.run_bind,run_underlying ht,Result.andThen_ok,run_getObj_map hC,Sem.run_pure,hck,hfk,Option.bind_some,he,Option.map_some]
  refine qaz hrun ?_
  subst hq
  have hy':=qu3 (m:=m) hy
  cases ok
  ·simpa using hy'
  ·simp only [if_true,Option.getD_some,Option.isSome_some,Rel]
   exact ⟨[e.val,.bool true],rfl,by simp [qaM,Rel,hy']⟩
theorem qOo (H:HeapAt w I m h) {t kt et:TypeId} {ks:Key} (ht:P.underlying t = some (.map kt et)) (hk:qvw P kt = some ks) {id:Nat} {kvs kvs':List (AV × AV)} (hid:qad h id = some (.mp kvs))
  {v u y':Value} (hr:Rel w I (.mref id) m v) {x y:AV} (hx:Rel w I x m u) (hy:Rel w I y m y') (hids:idsA y = []) (hkey:isKey ks x = true) (hf:qBq ks kvs x y = some kvs') :
  Does P w I m h nx (do Instr.mapUpdate t v u y'; pure .skip) unit (qch h id (.mp kvs')):=by
 obtain ⟨L,es,clock,kvs0,hM,hL,rfl,hC,hsz,hkv⟩:=qy6 H hid hr
 obtain ⟨ri,hp,hri⟩:=hM.put hkey hf
 have hx0:=qFy hkey hx
 have hy0:=qeB (m':=m0) y hids hy
 have hfk:=qgf (P:=P) hk hx0 hkey hkv hp
 have hck:=qe8 (P:=P) hk hx hkey false
 obtain ⟨h1,h2⟩:=qcu.1 hkv
 rcases hri with ⟨rfl,hM'⟩ | ⟨i,q,rfl,hi,hM'⟩
 ·have hrun:(Instr.mapUpdate t (.map (some L.blk)) u y').run P w = .ok () (World.setObj' w L.blk (.map (es.push { key:=u,val:=y',born:=clock }) (clock + 1))):=by
   simp only [Instr.mapUpdate,Sem.run_bind,run_underlying ht,Result.andThen_ok,run_getObj_map hC,hck,hfk,Option.bind_none,run_setObj_map hC]
  refine ⟨_,_,I,m,by rw [Sem.run_bind,hrun]; rfl,After.mapped H hid hL hC hM' ?_,.inr ⟨rfl,rfl⟩⟩
  rw [qcu]
  refine ⟨by simp [hsz],fun j kv hj=>?_⟩
  by_cases hlt:j < kvs0.length
  ·rw [List.getElem?_append_left hlt] at hj
   obtain ⟨e,he,g1,g2⟩:=h2 j kv hj
   exact ⟨e,by simp only [Array.toList_push]; rw [List.getElem?_append_left (by rw [h1]; exact hlt)]; exact he,g1,g2⟩
  ·rw [List.getElem?_append_right (by omega)] at hj
   have hj0:j = kvs0.length:=by
    have:=(List.getElem?_eq_some_iff.1 hj).1
    simp at this; omega
   subst hj0
   simp at hj; subst hj
   exact ⟨{ key:=u,val:=y',born:=clock },by simp only [Array.toList_push]; rw [List.getElem?_append_right (by rw [h1]; exact Nat.le_refl _),h1]; simp,hx0,hy0⟩
 ·obtain ⟨k',q',hi',hkeq⟩:=qeU hp
  rw [hi] at hi'; cases hi'
  obtain ⟨e,he,g1,g2⟩:=h2 i (x,q) hi
  obtain ⟨hsame,hbits⟩:=qKI hkeq hx0 g1
  have hesi:es[i]? = some e:=by simpa using he
  have hrun:(Instr.mapUpdate t (.map (some L.blk)) u y').run P w = .ok () (World.setObj' w L.blk (.map (es.modify i fun e=>{ e with key:=u,val:=y' }) clock)):=by
   simp only [Instr.mapUpdate,Sem.run_bind,run_underlying ht,Result.andThen_ok,run_getObj_map hC,hck,hfk,Option.bind_some,he,Option.map_some,hesi,Option.getD_some,Instr.keyThatStays,hbits,if_true,Sem.run_pure,run_setObj_map hC]
  refine ⟨_,_,I,m,by rw [Sem.run_bind,hrun]; rfl,After.mapped H hid hL hC hM' ?_,.inr ⟨rfl,rfl⟩⟩
  rw [qcu]
  refine ⟨by simp [hsz],fun j kv hj=>?_⟩
  simp only [List.getElem?_set] at hj
  by_cases hij:i = j
  ·subst hij
   rw [if_pos rfl] at hj
   split at hj
   ·simp at hj; subst hj
    refine ⟨{ e with key:=u,val:=y' },?_,hsame ▸ g1,hy0⟩
    rw [Array.getElem?_toList,Array.getElem?_modify]; simp [hesi]
   ·cases hj
  ·rw [if_neg hij] at hj
   obtain ⟨e',he',g1',g2'⟩:=h2 j kv hj
   refine ⟨e',?_,g1',g2'⟩
   rw [Array.getElem?_toList,Array.getElem?_modify]; simp [hij]; simpa using he'
theorem qVo (H:HeapAt w I m h) {t kt et:TypeId} {ks:Key} (ht:P.underlying t = some (.map kt et)) (hk:qvw P kt = some ks) {id:Nat} {kvs kvs':List (AV × AV)} (hid:qad h id = some (.mp kvs))
  {v u:Value} (hr:Rel w I (.mref id) m v) {x:AV} (hx:Rel w I x m u) (hkey:isKey ks x = true) (hf:qKQ ks kvs x = some kvs') (ts:List TypeId) (ty:TypeId) :
  Does P w I m h nx (do pure (.value (<- Builtin.delete_ (t :: ts).toArray ty #[v,u]))) unit (qch h id (.mp kvs')):=by
 obtain ⟨L,es,clock,kvs0,hM,hL,rfl,hC,hsz,hkv⟩:=qy6 H hid hr
 obtain ⟨ri,hp,hri⟩:=hM.cut hf
 have hx0:=qFy hkey hx
 have hfk:=qgf (P:=P) hk hx0 hkey hkv hp
 have hck:=qe8 (P:=P) hk hx hkey es.isEmpty
 obtain ⟨h1,h2⟩:=qcu.1 hkv
 rcases hri with ⟨rfl,rfl⟩ | ⟨i,q,rfl,hik,hM'⟩
 ·have hrun:(Builtin.delete_ (t :: ts).toArray ty #[.map (some L.blk),u]).run P w = .ok (.tuple #[]) (World.setObj' w L.blk (.map es clock)):=by
   simp only [Builtin.delete_,List.getElem?_toArray,List.getElem?_cons_zero,List.getElem?_cons_succ,Sem.run_bind,run_underlying ht,Result.andThen_ok,run_getObj_map hC,hck,hfk,Option.bind_none,run_setObj_map hC,Sem.run_pure]
  exact ⟨_,_,I,m,by rw [Sem.run_bind,hrun]; rfl,After.mapped H hid hL hC hM hkv,.inl ⟨_,rfl,by simp [unit,Rel,qaM]⟩⟩
 ·have hi:i < kvs0.length:=(List.getElem?_eq_some_iff.1 hik).1
  obtain ⟨e,he,g1,g2⟩:=h2 i (x,q) hik
  have hrun:(Builtin.delete_ (t :: ts).toArray ty #[.map (some L.blk),u]).run P w = .ok (.tuple #[]) (World.setObj' w L.blk (.map (es.eraseIdxIfInBounds i) clock)):=by
   simp only [Builtin.delete_,List.getElem?_toArray,List.getElem?_cons_zero,List.getElem?_cons_succ,Sem.run_bind,run_underlying ht,Result.andThen_ok,run_getObj_map hC,hck,hfk,Option.bind_some,he,Option.map_some,run_setObj_map hC,Sem.run_pure]
  refine ⟨_,_,I,m,by rw [Sem.run_bind,hrun]; rfl,After.mapped H hid hL hC hM' ?_,.inl ⟨_,rfl,by simp [unit,Rel,qaM]⟩⟩
  have htl:(es.eraseIdxIfInBounds i).toList = es.toList.eraseIdx i:=by
   have:i < es.size:=by rw [hsz]; exact hi
   simp [Array.eraseIdxIfInBounds,this,Array.toList_eraseIdx]
  rw [qcu,htl]
  refine ⟨by simp [List.length_eraseIdx,hsz],fun j kv hj=>?_⟩
  rw [List.getElem?_eraseIdx] at hj
  split at hj
  ·rename_i hlt
   obtain ⟨e',he',g1',g2'⟩:=h2 j kv hj
   exact ⟨e',by rw [List.getElem?_eraseIdx,if_pos hlt]; exact he',g1',g2'⟩
  ·rename_i hlt
   obtain ⟨e',he',g1',g2'⟩:=h2 (j + 1) kv hj
   exact ⟨e',by rw [List.getElem?_eraseIdx,if_neg hlt]; exact he',g1',g2'⟩
theorem qZc (H:HeapAt w I m h) {t:TypeId} (ht:(∃ e,P.underlying t = some (.slice e)) \/ P.underlying t = some .string \/ ∃ k e,P.underlying t = some (.map k e)) {x:AV} {v:Value} (hr:Rel w I x m v) {n:Nat}
  (hx:(∃ s,P.underlying t = some .string /\ x = .str s /\ n = s.length) \/ ((∃ e,P.underlying t = some (.slice e)) /\ ((∃ q,x = .nils q /\ n = 0) \/ (∃ sz es,x = .view sz es /\ n = es.length) \/ ∃ id off lo sz es fz,x = .own id off lo /\ qad h id = some (.arr sz es fz) /\ n = qgH es.length off lo)) \/
   ((∃ k e,P.underlying t = some (.map k e)) /\ ((x = .nilm /\ n = 0) \/ ∃ id kvs,x = .mref id /\ qad h id = some (.mp kvs) /\ n = kvs.length))) (ty:TypeId) :
  Gives P w I m (do pure (.value (<- Builtin.len_ #[t] ty #[v]))) (.int .i64 n):=by
 rcases hx with ⟨s,hu,rfl,rfl⟩ | ⟨⟨e,hu⟩,hx⟩ | ⟨⟨k,e,hu⟩,hx⟩
 ·simp only [Rel] at hr; subst hr
  exact qaz (u:=.int .i64 s.length) (by simp [Builtin.len_,run_underlying hu,size_mk,goInt]) (by simp [Rel])
 ·rcases hx with ⟨q,rfl,rfl⟩ | ⟨sz,es,rfl,rfl⟩ | ⟨id,off,lo,sz,es,fz,rfl,hlk,rfl⟩
  ·simp only [Rel] at hr
   obtain ⟨b,cap,rfl,_⟩:=qfz hr
   exact qaz (u:=.int .i64 0) (by simp [Builtin.len_,run_underlying hu,goInt]) (by simp [Rel])
  ·simp only [Rel] at hr
   obtain ⟨ar,cap,rfl,_⟩:=hr
   exact qaz (u:=.int .i64 es.length) (by simp [Builtin.len_,run_underlying hu,goInt]) (by simp [Rel])
  ·simp only [Rel] at hr
   obtain ⟨L,hL,o,cap,C,e',rfl,_⟩:=hr
   obtain ⟨L',hL',hat⟩:=H.at_ id _ hlk
   rw [hL] at hL'; cases hL'
   rw [hat.1]
   exact qaz (u:=.int .i64 (qgH es.length off lo)) (by simp [Builtin.len_,run_underlying hu,goInt]) (by simp [Rel])
 ·rcases hx with ⟨rfl,rfl⟩ | ⟨id,kvs,rfl,hid,rfl⟩
  ·simp only [Rel] at hr; subst hr
   exact qaz (u:=.int .i64 0) (by simp [Builtin.len_,run_underlying hu,goInt]) (by simp [Rel])
  ·obtain ⟨L,es,clock,kvs0,hM,hL,rfl,hC,hsz0,_⟩:=qy6 H hid hr
   have hsz:=hsz0.trans hM.len
   exact qaz (u:=.int .i64 kvs.length) (by simp [Builtin.len_,run_underlying hu,run_getObj_map hC,goInt,hsz]) (by simp [Rel])
end
end Go.Eng
namespace Go.Eng
set_option linter.unusedSectionVars false
variable [Globs]
def qdD:IOp -> Bool
 | .call _ _=>true
 | .callv _ _=>true
 | .invk _ _ _=>true
 | _=>false
section
variable {P:Program} {w:World} {I:Imm} {m:Names} {h:Heap} {nx:Nat} {e:Env} {a:Act}
theorem qke (ht:qhV w I m e a):∀ {ps:List (Nat × Operand)} {qs:List (Nat × Opd)},qtb ps = some qs -> qaM w I (qs.map fun p=>qaN e p.2) m ((ps.map fun p=>(p.1,a.eval p.2)).map (·.2)) /\ qs.map (·.1) = (ps.map fun p=>(p.1,a.eval p.2)).map (·.1)
 | [],qs,h=>by simp [qtb] at h; subst h; simp [qaM]
 | (i,x) :: ps,qs,h=>by
  simp only [qtb] at h
  split at h
  ·rename_i y qs' h1 h2
   simp at h; subst h
   obtain ⟨h3,h4⟩:=qke ht h2
   simp only [List.map_cons,qaM]
   exact ⟨⟨_,_,rfl,qay ht h1,h3⟩,by simp [h4]⟩
  ·cases h
theorem qBF {x y:Opd} (h:qLc x y = true) {e:Env}:qaN e x = qaN e y:=by
 cases x <;> cases y <;> simp [qLc] at h
 subst h; rfl
theorem qRW {ev:Opd -> AV} {len:Option Nat} {lo hi:Option Opd} {num off l u:Nat} (hb:qeR (qgH num off len) (num - off) (qbE ev lo) (qbE ev hi) = some (l,u)) :
  qXO len hi (u - l) = some (u - l) \/ qXO len hi (u - l) = none /\ len = none /\ u = num - off:=by
 cases len with
 | some n=>exact .inl rfl
 | none=>
  cases hi with
  | some h=>exact .inl rfl
  | none=>
   refine .inr ⟨rfl,rfl,?_⟩
   have h0:qbE ev (none:Option Opd) = none:=rfl
   rw [h0] at hb
   generalize qbE ev lo = q at hb
   simp only [qeR,qA2,qc5] at hb
   cases q with
   | none=>simp [qSj] at hb; exact hb.2.symm
   | some v=>
    cases v <;> simp only [qSj,reduceCtorEq] at hb
    split at hb
    ·simp at hb; exact hb.2.symm
    ·cases hb
theorem qJa {v:Option AV} {r:Res} {h':Heap} {b:Bool} (hs:qvs v h = some (r,h',b)):∃ x,v = some x /\ r = .ret x /\ h' = h:=by
 cases v with
 | none=>simp [qvs] at hs
 | some x=>simp [qvs] at hs; exact ⟨x,rfl,hs.1.symm,hs.2.1.symm⟩
theorem qLp {v:AV} {r:Res} {h':Heap} {b:Bool} (hs:val v h = some (r,h',b)):r = .ret v /\ h' = h:=by
 simp [val] at hs; exact ⟨hs.1.symm,hs.2.1.symm⟩
def qcj (P:Program) (w:World) (I:Imm) (m:Names) (h:Heap) (nx:Nat) (s:Sem Next) (r:Res) (h':Heap):Prop:=
 match r with
 | .ret v=>Does P w I m h nx s v h'
 | .pan v=>h' = h /\ ∃ u,s.run P w = .halt (.panic u) w /\ Rel w I v m u
theorem qaS {v:AV} {r:Res} {h':Heap} {b:Bool} {s:Sem Next} (H:HeapAt w I m h) (hs:val v h = some (r,h',b)) (g:Gives P w I m s v):qcj P w I m h nx s r h':=by
 obtain ⟨rfl,rfl⟩:=qLp hs
 exact g.does H
theorem qeW {v:Option AV} {r:Res} {h':Heap} {b:Bool} {s:Sem Next} (H:HeapAt w I m h) (hs:qvs v h = some (r,h',b)) (g:∀ x,v = some x -> Gives P w I m s x):qcj P w I m h nx s r h':=by
 obtain ⟨x,hx,rfl,rfl⟩:=qJa hs
 exact (g x hx).does H
theorem qcn {v:AV} {r:Res} {h' h'':Heap} {b b':Bool} {s:Sem Next} (hs:some (Res.ret v,h',b) = some (r,h'',b')) (d:Does P w I m h nx s v h'):qcj P w I m h nx s r h'':=by
 simp only [Option.some.injEq,Prod.mk.injEq] at hs
 obtain ⟨rfl,rfl,_⟩:=hs
 exact d
theorem qcB {t e:TypeId} (h:qwj P t = some e):P.underlying t = some (.slice e):=by
 simp only [qwj] at h
 split at h
 ·rename_i e' he; simp at h; subst h; exact he
 ·cases h
section builtins
variable {IP:Prog} {call:qa7} {r:Res} {h':Heap} {b:Bool} {ty:TypeId} {consts:Array Bool}
theorem qYK (ht:qhV w I m e a) (H:HeapAt w I m h) {x:Operand} {t:TypeId} {io:IOp} (hc:qUs P x t = some io) (hs:opS IP call nx (qaN e) h io = some (r,h',b)) :
  qcj P w I m h nx (builtin .len #[t] ty consts #[a.eval x]) r h':=by
 simp only [qUs] at hc
 split at hc
 ·rename_i d y hd hy
  simp only [Option.map_eq_some_iff] at hc
  obtain ⟨k,hk,rfl⟩:=hc
  have hr:=qay ht hy
  have hb:builtin .len #[t] ty consts #[a.eval x] = (do pure (.value (<- Builtin.len_ #[t] ty #[a.eval x]))):=rfl
  rw [hb]
  simp only [opS] at hs
  have G:=fun (n:Nat) hx=>qZc (P:=P) H (t:=t) (by cases d <;> simp [qw4] at hk <;> first | exact .inl ⟨_,hd⟩ | exact .inr (.inl hd) | exact .inr (.inr ⟨_,_,hd⟩)) hr (n:=n) hx ty
  cases d <;> simp only [qw4,reduceCtorEq,Option.some.injEq] at hk <;> subst hk
  case string=>
   generalize hx:qaN e y = z at *
   cases z <;> simp only [reduceCtorEq] at hs
   exact qaS H hs (G _ (.inl ⟨_,hd,rfl,rfl⟩))
  case slice et=>
   generalize hx:qaN e y = z at *
   cases z <;> simp only [reduceCtorEq] at hs
   ·exact qaS H hs (G 0 (.inr (.inl ⟨⟨_,hd⟩,.inl ⟨_,rfl,rfl⟩⟩)))
   ·exact qaS H hs (G _ (.inr (.inl ⟨⟨_,hd⟩,.inr (.inl ⟨_,_,rfl,rfl⟩)⟩)))
   ·split at hs
    ·rename_i hlk
     exact qaS H hs (G _ (.inr (.inl ⟨⟨_,hd⟩,.inr (.inr ⟨_,_,_,_,_,_,rfl,hlk,rfl⟩)⟩)))
    ·cases hs
  case map kt et=>
   generalize hx:qaN e y = z at *
   cases z <;> simp only [reduceCtorEq] at hs
   ·exact qaS H hs (G 0 (.inr (.inr ⟨⟨_,_,hd⟩,.inl ⟨rfl,rfl⟩⟩)))
   ·split at hs
    ·rename_i kvs hl
     exact qaS H hs (G _ (.inr (.inr ⟨⟨_,_,hd⟩,.inr ⟨_,_,rfl,hl,rfl⟩⟩)))
    ·cases hs
 ·cases hc
theorem qYH (ht:qhV w I m e a) (H:HeapAt w I m h) (hnx:m nx = none) {s x:Operand} {t u:TypeId} {io:IOp} (hc:qUo P s x t u = some io) (hs:opS IP call nx (qaN e) h io = some (r,h',b)) :
  qcj P w I m h nx (builtin .append #[t,u] ty consts #[a.eval s,a.eval x]) r h':=by
 simp only [qUo] at hc
 split at hc
 ·rename_i et eu p q h1 h2 h3 h4
  split at hc
  ·rename_i sz by_ z h5 h6 h7
   split at hc
   ·rename_i hcond
    obtain ⟨c1,c2,c3,c4⟩:=hcond
    simp at hc; subst hc
    simp only [opS] at hs
    split at hs
    ·rename_i src hsrc
     split at hs
     ·rename_i v h1' happ
      exact qcn hs (qY1 H hnx (qcB h1) (qcB h2) h5 h6 h7 c1 c2 c3 c4 (qay ht h3) (qay ht h4) hsrc happ ty)
     ·cases hs
    ·cases hs
   ·cases hc
  ·cases hc
 ·cases hc
theorem qYJ (ht:qhV w I m e a) (H:HeapAt w I m h) {mp k:Operand} {t:TypeId} {ts:List TypeId} {io:IOp} (hc:qUq P mp k t = some io) (hs:opS IP call nx (qaN e) h io = some (r,h',b)) :
  qcj P w I m h nx (builtin .delete (t :: ts).toArray ty consts #[a.eval mp,a.eval k]) r h':=by
 simp only [qUq] at hc
 split at hc
 ·rename_i kt et p q h1 h2 h3
  simp only [Option.map_eq_some_iff] at hc
  obtain ⟨ks,hks,rfl⟩:=hc
  have hr:=qay ht h2
  have hk:=qay ht h3
  simp only [opS] at hs
  generalize hx:qaN e p = z at *
  cases z <;> simp only [reduceCtorEq] at hs
  split at hs
  ·rename_i kvs hl
   split at hs
   ·rename_i kvs' hcut
    split at hcut
    ·rename_i hkey
     exact qcn hs (qVo H h1 hks hl hr hk hkey hcut ts ty)
    ·cases hcut
   ·cases hs
  ·cases hs
 ·cases hc
theorem qYI (ht:qhV w I m e a) (H:HeapAt w I m h) {x:Operand} {t:TypeId} {io:IOp} (hc:qUp P x t = some io) (hs:opS IP call nx (qaN e) h io = some (r,h',b)) :
  qcj P w I m h nx (builtin .clear #[t] ty consts #[a.eval x]) r h':=by
 simp only [qUp] at hc
 split at hc
 ·rename_i et y h1 h2
  split at hc
  ·rename_i sz z h3 h4
   split at hc
   ·rename_i hcond
    obtain ⟨c1,c2,c3⟩:=hcond
    simp at hc; subst hc
    have hr:=qay ht h2
    simp only [opS] at hs
    generalize hx:qaN e y = q at *
    cases q <;> simp only [reduceCtorEq] at hs
    ·simp only [Rel] at hr
     refine qaS H hs (qaz (u:=.tuple #[]) ?_ (by simp [unit,Rel,qaM]))
     obtain ⟨b,cap,hb,_⟩:=qfz hr
     rw [hb]
     cases b <;> simp [Builtin.clear_,run_underlying (qcB h1)]
    ·split at hs
     ·rename_i sz' es hl
      split at hs
      ·rename_i hcc
       obtain ⟨rfl,hle⟩:=hcc
       exact qcn hs (qY3 H (qcB h1) h3 h4 c1 c2 c3 hl hle rfl hr ty)
      ·cases hs
     ·cases hs
   ·cases hc
  ·cases hc
 ·cases hc
theorem qxb (ht:qhV w I m e a) (H:HeapAt w I m h) (hnx:m nx = none) {bi:Builtin} {args:List Operand} {ts:List TypeId} {io:IOp} (hc:qiR P bi args ts = some io) (hs:opS IP call nx (qaN e) h io = some (r,h',b)) :
  qcj P w I m h nx (builtin bi ts.toArray ty consts (args.map a.eval).toArray) r h':=by
 simp only [qiR] at hc
 split at hc
 ·rename_i hb; subst hb
  split at hc
  ·exact qYK ht H hc hs
  ·cases hc
 ·split at hc
  ·rename_i hb; subst hb
   split at hc
   ·exact qYH ht H hnx hc hs
   ·cases hc
  ·split at hc
   ·rename_i hb; subst hb
    split at hc
    ·exact qYJ ht H hc hs
    ·cases hc
   ·split at hc
    ·rename_i hb; subst hb
     split at hc
     ·exact qYI ht H hc hs
     ·cases hc
    ·split at hc
     ·rename_i hb; subst hb
      simp only [Option.map_eq_some_iff] at hc
      obtain ⟨ys,hys,rfl⟩:=hc
      have hr:=qez ht hys
      simp only [opS] at hs
      split at hs
      ·rename_i x xs hx
       exact qeW H hs fun z hz=>qZd hr hx hz _ _
      ·cases hs
     ·split at hc
      ·rename_i hb; subst hb
       simp only [Option.map_eq_some_iff] at hc
       obtain ⟨ys,hys,rfl⟩:=hc
       have hr:=qez ht hys
       simp only [opS] at hs
       split at hs
       ·rename_i x xs hx
        exact qeW H hs fun z hz=>qZe hr hx hz _ _
       ·cases hs
      ·split at hc
       ·rename_i hb; subst hb
        split at hc
        ·rename_i x
         simp only [Option.map_eq_some_iff] at hc
         obtain ⟨y,hy,rfl⟩:=hc
         have hr:=qay ht hy
         simp only [opS] at hs
         generalize hx:qaN e y = z at *
         cases z <;> simp only [reduceCtorEq,Option.some.injEq,Prod.mk.injEq] at hs
         obtain ⟨rfl,rfl,_⟩:=hs
         refine ⟨rfl,a.eval x,?_,hr⟩
         simp only [Rel] at hr
         obtain ⟨u,hu,_⟩:=hr
         simp [builtin,Instr.panic,hu]
        ·cases hc
       ·cases hc
end builtins
set_option maxHeartbeats 2000000 in
theorem quq {t f:Nat} {y:Value} {name:String} (h:qTG P name t = some f) (n:Nat):(nilAhead (n + 1) t y name).run P w = .ok (some false) w:=by
 unfold qTG at h
 split at h
 ·rename_i i hi
  split at h
  ·rename_i mt hm
   have hti:(typeInfo t).run P w = .ok i w:=by simp [typeInfo,hi]
   split at h
   ·rename_i g e hp hfn hu
    cases h
    simp only [nilAhead,Sem.run_bind,hti,Result.andThen_ok,hm,hp,followBlind,Sem.run_pure,hfn]
   ·cases h
   ·rename_i g d hne hp hfn hu
    cases h
    simp only [nilAhead,Sem.run_bind,hti,Result.andThen_ok,hm,hp,followBlind,Sem.run_pure,hfn,run_underlying hu]
    cases d <;> first | rfl | exact absurd rfl (hne _)
   ·cases h
  ·cases h
 ·cases h
theorem qKV {IP:Prog} {call:qa7} (ht:qhV w I m e a) (H:HeapAt w I m h) (hnx:m nx = none) {o:Oper} {io:IOp} {mn:Nat -> Option String} (hc:cOp P mn o.op = some io) (hnc:qdD io = false) {r:Res} {h':Heap} {b:Bool}
  (hs:opS IP call nx (qaN e) h io = some (r,h',b)):qcj P w I m h nx (execOp a.eval o) r h':=by
 obtain ⟨dst,op,type,pos,after,guard⟩:=o
 simp only at hc
 cases op <;> simp only [cOp,reduceCtorEq] at hc <;> simp only [execOp]
 case move x=>
  simp only [Option.map_eq_some_iff] at hc
  obtain ⟨y,hy,rfl⟩:=hc
  exact qaS H hs ⟨_,rfl,qay ht hy⟩
 case panic x=>
  simp only [Option.map_eq_some_iff] at hc
  obtain ⟨y,hy,rfl⟩:=hc
  have hr:=qay ht hy
  simp only [opS] at hs
  generalize hx:qaN e y = z at *
  cases z <;> simp only [reduceCtorEq,Option.some.injEq,Prod.mk.injEq] at hs
  obtain ⟨rfl,rfl,_⟩:=hs
  refine ⟨rfl,a.eval x,?_,hr⟩
  simp only [Rel] at hr
  obtain ⟨u,hu,_⟩:=hr
  simp [Instr.panic,hu]
 case assign x=>
  simp only [Option.map_eq_some_iff] at hc
  obtain ⟨y,hy,rfl⟩:=hc
  exact qaS H hs ⟨_,rfl,qay ht hy⟩
 case pick c x y=>
  split at hc
  ·rename_i c' x' y' h1 h2 h3
   simp at hc; subst hc
   have hr:=qay ht h1
   simp only [opS] at hs
   generalize hx:qaN e c' = z at *
   cases z <;> simp only [reduceCtorEq] at hs
   rename_i t
   simp only [Rel] at hr
   refine qaS H hs ⟨if t then a.eval x else a.eval y,by simp [hr,asBool],?_⟩
   cases t
   ·simpa using qay ht h3
   ·simpa using qay ht h2
  ·cases hc
 case alloc t=>
  split at hc
  ·rename_i z hz
   split at hc
   ·rename_i hok
    simp at hc; subst hc
    exact qcn hs (qRX H hnx hz hok)
   ·cases hc
  ·cases hc
 case box t x=>
  split at hc
  ·rename_i n y h1 h2
   simp at hc; subst hc
   simp only [opS] at hs
   split at hs
   ·rename_i hcond
    exact qcn hs (qY2 H hnx (qay ht h2) hcond.2)
   ·cases hs
  ·cases hc
 case build t ps=>
  split at hc
  ·rename_i z fs hz hu
   split at hc
   ·rename_i hcond
    simp only [Option.map_eq_some_iff] at hc
    obtain ⟨qs,hqs,rfl⟩:=hc
    simp only [opS] at hs
    split at hs
    ·rename_i cs hcs
     exact qaS H hs (qo2 ht hz hcond.2 hu hcond.1 hqs hcs)
    ·cases hs
   ·cases hc
  ·rename_i z k et hz hu
   split at hc
   ·rename_i n hn
    split at hc
    ·rename_i hag
     simp only [Option.map_eq_some_iff] at hc
     obtain ⟨qs,hqs,rfl⟩:=hc
     simp only [opS] at hs
     split at hs
     ·rename_i cs hcs
      exact qaS H hs (qq7 ht hz hag hu hn hqs hcs)
     ·cases hs
    ·cases hc
   ·cases hc
  ·cases hc
 case buildSlice t n ps=>
  split at hc
  ·rename_i et het
   split at hc
   ·rename_i sz z qs h1 h2 h3
    split at hc
    ·rename_i hcond
     obtain ⟨c1,c2,c3,c4⟩:=hcond
     simp at hc; subst hc
     simp only [opS] at hs
     split at hs
     ·rename_i hz
      obtain ⟨rfl,hz2⟩:=hz
      have hqs:=(qke ht h3).1
      have hps:(ps.map fun x=>(x.1,a.eval x.2)).toList = []:=by
       have:=qaV hqs
       simp only [List.length_map] at this
       have h0:ps.toList.length = 0:=by first | omega | (rw [hz2] at this; simpa using this)
       rw [Array.toList_map,List.length_eq_zero_iff.1 h0]; rfl
      have hm:(ps.map fun (i,x)=>(i,a.eval x)) = ps.map fun x=>(x.1,a.eval x.2):=rfl
      rw [hm]
      exact qcn hs (qDJ H hnx (qcB het) h1 hps)
     split at hs
     ·rename_i vs h1' hst
      split at hs
      ·rename_i es hf
       obtain ⟨g1,g2⟩:=qke ht h3
       have hm:(ps.map fun (i,x)=>(i,a.eval x)) = ps.map fun x=>(x.1,a.eval x.2):=rfl
       have hd:=qKg H hnx (qcB het) h1 h2 c2 c3 c4 c1 (ps:=ps.map fun x=>(x.1,a.eval x.2)) (by simpa using g1) hst (es:=es) (by
        have:=g2
        rw [this] at hf
        simpa using hf)
       rw [hm]
       exact qcn hs hd
      ·cases hs
     ·cases hs
    ·cases hc
   ·cases hc
  ·cases hc
 case load t x=>
  split at hc
  ·rename_i n ag y h1 h2 h3
   split at hc
   ·rename_i hcond
    simp at hc; subst hc
    simp only [opS] at hs
    split at hs
    ·rename_i cs hcs
     obtain ⟨bb,oo,hv,hcells⟩:=qiS H (qay ht h3) hcs
     refine qeW H hs fun z hz=>?_
     obtain ⟨u,hu,hr⟩:=qi8 (P:=P) h1 h2 hcond hcells hz
     exact qaz (u:=u) (by simp [Instr.loadAt,hv,Instr.sureAddr,hu]) hr
    ·cases hs
   ·cases hc
  ·cases hc
 case store t x v=>
  split at hc
  ·rename_i n x' v' h1 h2 h3
   simp at hc; subst hc
   have hx:=qay ht h2
   have hv:=qay ht h3
   simp only [opS] at hs
   split at hs
   ·rename_i hh hst
    generalize hz:qaN e x' = z at *
    cases z <;> simp only [qIS,reduceCtorEq] at hst
    rename_i id idx off
    split at hst
    ·rename_i cs hl
     split at hst
     ·rename_i hcond
      obtain ⟨rfl,c2,c3,c4⟩:=hcond
      simp at hst; subst hst
      exact qcn hs (qwd H h1 hl hx hv c2 c3 c4)
     ·cases hst
    ·rename_i sz es hl
     split at hst
     ·rename_i y h1' hy
      split at hst
      ·rename_i sz1 es1 e0 hl1 he
       split at hst
       ·rename_i hcond
        obtain ⟨c1,c2,c3⟩:=hcond
        simp at hst; subst hst
        exact qcn hs (qwc H h1 hl hx hv hy hl1 he c1 c2 c3)
       ·cases hst
      ·cases hst
     ·cases hst
    ·cases hst
   ·cases hs
  ·cases hc
 case nilCheck x=>
  have plain:∀ y,qdb x = some y -> io = .nilck y -> qcj P w I m h nx (execOp a.eval ⟨dst,.nilCheck x,type,pos,after,guard⟩) r h':=by
   intro y hy he
   subst he
   have hr:=qay ht hy
   simp only [opS] at hs
   split at hs
   ·rename_i hn
    generalize hz:qaN e y = z at *
    refine qaS H hs ⟨a.eval x,?_,hr⟩
    simp only [execOp]
    cases z <;> simp only [isNil,reduceCtorEq] at hn <;> simp only [Rel] at hr
    ·obtain ⟨_,_,hv,_⟩:=hr; rw [hv]; rfl
    ·obtain ⟨_,_,hv⟩:=hr; rw [hv]; rfl
    ·obtain ⟨_,hv,_⟩:=hr
     rename_i f cap vs hrel
     cases f with
     | func n=>rw [hv]; rfl
     | meth s=>cases hn
    ·obtain ⟨_,hv,_⟩:=hr; rw [hv]; rfl
   ·cases hs
  cases x with
  | tmp t=>
   simp only [qTz] at hc
   split at hc
   ·rename_i s hmn
    cases hc
    simp only [opS] at hs
    split at hs
    ·rename_i s' t' v hv
     split at hs
     ·rename_i hcond
      obtain ⟨rfl,htb⟩:=hcond
      obtain ⟨f,hf⟩:=Option.isSome_iff_exists.1 htb
      have hr:Rel w I (qaN e (.t t)) m (a.eval (.tmp t)):=qay ht rfl
      rw [hv] at hr
      refine qaS H hs ⟨a.eval (.tmp t),?_,hr⟩
      simp only [Rel,qaM] at hr
      obtain ⟨vs,he,_,_,rfl,⟨y,rfl,_⟩,rfl⟩:=hr
      rw [he]
      simp only [fnV,List.getElem?_toArray,List.getElem?_cons_zero]
      have:=quq (P:=P) (w:=w) (y:=y) (qro P hf) (P.types.size + Made.depth - 1)
      rw [show P.types.size + Made.depth - 1 + 1 = P.types.size + Made.depth by simp only [Made.depth]; omega] at this
      simp [this]
     ·cases hs
    ·cases hs
   ·cases hc
    exact plain _ rfl rfl
  | const v=>
   simp only [qTz,Option.map_eq_some_iff] at hc
   obtain ⟨y,hy,rfl⟩:=hc
   exact plain y hy rfl
  | func f=>
   simp only [qTz,Option.map_eq_some_iff] at hc
   obtain ⟨y,hy,rfl⟩:=hc
   exact plain y hy rfl
  | global g=>
   simp only [qTz,Option.map_eq_some_iff] at hc
   obtain ⟨y,hy,rfl⟩:=hc
   exact plain y hy rfl
 case binOp op t x y yt=>
  simp only [qXK] at hc
  split at hc
  ·rename_i x' y' h1 h2
   have hx:=qay ht h1
   have hy:=qay ht h2
   have plain:io = .bin op x' y' -> qcj P w I m h nx (do let __do_lift <- (do eqGuard op t x y (a.eval x) (a.eval y); Go.binOp op t (a.eval x) (a.eval y)); pure (Next.value __do_lift)) r h':=by
    intro he; subst he
    simp only [opS] at hs
    refine qeW H hs fun z hz=>?_
    obtain ⟨u,hu,hr⟩:=qDx (P:=P) (t:=t) hx hy hz x y
    exact qaz hu hr
   have eqv:∀ (neg:Bool),op = (if neg then .neq else .eql) -> cEq P neg op t x y x' y' = some io -> qcj P w I m h nx (do let __do_lift <- (do eqGuard op t x y (a.eval x) (a.eval y); Go.binOp op t (a.eval x) (a.eval y)); pure (Next.value __do_lift)) r h':=by
    intro neg hop hc'
    simp only [cEq] at hc'
    split at hc'
    ·cases hc'
    ·rename_i d hu
     split at hc'
     ·simp at hc'; exact plain hc'.symm
     ·simp at hc'; exact plain hc'.symm
     ·simp at hc'; subst hc'
      simp only [opS] at hs
      split at hs
      ·rename_i bb hk
       generalize qaN e x' = p at *
       generalize qaN e y' = q at *
       have hk':eqK .b p q = some bb:=by cases p <;> cases q <;> exact hk
       cases p <;> cases q <;> simp only [eqK,reduceCtorEq,Option.some.injEq] at hk'
       simp only [Rel] at hx hy
       refine qaS H hs (qaz (u:=.bool (if neg then !bb else bb)) ?_ (by simp [Rel]))
       rw [hx,hy,eqGuard_at_bool]
       subst hop; subst hk'
       cases neg <;> simp [Go.binOp,Op.equal,Op.maxDepth,run_equalIn_bool' w 9999 t _ _ hu]
      ·cases hs
     ·split at hc'
      ·rename_i ks hks
       split at hc'
       ·cases hc'
       ·rename_i hg
        simp at hc'; subst hc'
        simp only [opS] at hs
        split at hs
        ·rename_i bb hk
         have hE:=qnc (P:=P) hks hx hy hk 10000 (by omega)
         obtain ⟨d,hd,hcc⟩:=qpN hks
         rw [hu] at hd; cases hd
         have hks1:ks.1 = true:=by
          rcases hcc with ⟨h,_⟩ | ⟨h,hh⟩
          ·exact h
          ·rcases hh with ⟨_,h⟩ | ⟨_,_,h⟩ | ⟨_,h⟩ <;> cases h
         obtain ⟨xs,ys,g1,g2,_⟩:=qer hk
         have hxa:∃ us,a.eval x = .agg us:=by
          rcases g1 with ⟨_,g⟩ | ⟨g,_⟩
          ·rw [g] at hx; simp only [Rel] at hx; obtain ⟨us,hu,_⟩:=hx; exact ⟨_,hu⟩
          ·rw [hks1] at g; cases g
         have hya:∃ us,a.eval y = .agg us:=by
          rcases g2 with ⟨_,g⟩ | ⟨g,_⟩
          ·rw [g] at hy; simp only [Rel] at hy; obtain ⟨us,hu,_⟩:=hy; exact ⟨_,hu⟩
          ·rw [hks1] at g; cases g
         obtain ⟨us,hus⟩:=hxa
         obtain ⟨vs,hvs⟩:=hya
         rw [hus,hvs] at hE ⊢
         refine qaS H hs (qaz (u:=.bool (if neg then !bb else bb)) ?_ (by simp [Rel]))
         rw [Sem.run_bind,run_eqGuard_agg w op t x y us vs (by simpa using hg),Result.andThen_ok]
         subst hop
         cases neg
         ·simp only [Bool.false_eq_true,if_false]; rw [run_eql_struct,hE]; rfl
         ·simp only [if_true]; rw [run_neq_struct,hE]; rfl
        ·cases hs
      ·cases hc'
     ·split at hc'
      ·rename_i hcn
       simp only [Option.map_eq_some_iff] at hc'
       obtain ⟨k,hk,rfl⟩:=hc'
       simp only [opS] at hs
       split at hs
       ·rename_i p q hp hq
        split at hs
        ·rename_i hpq
         obtain ⟨hrun,hna⟩:=qGw (P:=P) (neg:=neg) hu hk hx hy hp hq hpq
         refine qaS H hs (qaz (u:=.bool (if neg then !(p && q) else p && q)) ?_ (by simp [Rel]))
         rw [Sem.run_bind,qE2 hna hcn,Result.andThen_ok,hop]
         exact hrun
        ·cases hs
       ·cases hs
      ·cases hc'
   split at hc
   ·rename_i hop
    exact eqv false (by simp [hop]) hc
   ·split at hc
    ·rename_i hop
     exact eqv true (by simp [hop]) hc
    ·simp at hc; exact plain hc.symm
  ·cases hc
 case unOp op t x=>
  simp only [Option.map_eq_some_iff] at hc
  obtain ⟨y,hy,rfl⟩:=hc
  simp only [opS] at hs
  refine qeW H hs fun z hz=>?_
  obtain ⟨u,hu,hr⟩:=qLo (P:=P) (qay ht hy) hz
  exact qaz hu hr
 case convert s d x=>
  split at hc
  ·rename_i k1 k y hs1 hd1 hy
   simp at hc; subst hc
   have hr:=qay ht hy
   simp only [opS] at hs
   generalize hz:qaN e y = z at *
   cases z <;> simp only [reduceCtorEq] at hs
   simp only [Rel] at hr
   refine qaS H hs (qaz (u:=.int k (k.wrap _)) ?_ (by simp only [Rel]; rfl))
   rw [hr]
   simp [convert,run_underlying hs1,run_underlying hd1,Conv.intToInt]
  ·rename_i y hs1 hd1 hy
   simp at hc; subst hc
   have hr:=qay ht hy
   simp only [opS] at hs
   generalize hz:qaN e y = z at *
   cases z <;> simp only [reduceCtorEq] at hs
   refine qaS H hs (qaz (u:=a.eval x) ?_ hr)
   simp only [Rel] at hr
   rw [hr]
   simp [convert,run_underlying hs1,run_underlying hd1]
  ·cases hc
 case makeInterface t x=>
  split at hc
  ·cases hc
  ·rename_i d y hni hd hy
   simp at hc; subst hc
   refine qaS H hs (qaz (u:=.iface t (a.eval x)) ?_ (by simp only [Rel]; exact ⟨_,rfl,qay ht hy⟩))
   cases d <;> simp_all [Instr.makeInterface,run_underlying hd]
  ·cases hc
 case makeFunc fn first cap=>
  simp only [qXL] at hc
  split at hc
  ·rename_i s
   split at hc
   ·rename_i x hfi hca
    simp only [Option.map_eq_some_iff] at hc
    obtain ⟨y,hy,rfl⟩:=hc
    have h1:first = #[x]:=Array.ext' hfi
    have h2:cap = #[]:=Array.ext' hca
    subst h1; subst h2
    refine qaS H hs (qaz (u:=.func (.method s) #[a.eval x] #[]) (by simp [Instr.makeFunc]) ?_)
    simp only [Rel,qaM]
    exact ⟨[a.eval x],rfl,_,_,rfl,qay ht hy,rfl⟩
   ·cases hc
  ·rename_i f
   split at hc
   ·rename_i h0
    simp only [Option.map_eq_some_iff] at hc
    obtain ⟨ys,hys,rfl⟩:=hc
    have hf0:first = #[]:=by
     apply Array.ext'
     exact List.eq_nil_of_length_eq_zero h0
    subst hf0
    refine qaS H hs (qaz (u:=.func (.func f) #[] (cap.map a.eval)) (by simp [Instr.makeFunc]) ?_)
    simp only [Rel]
    exact ⟨cap.toList.map a.eval,by congr 1; apply Array.ext'; simp,qez ht hys⟩
   ·cases hc
  ·cases hc
 case makeMap t r0=>
  have fin:io = .mkm -> (Instr.makeMap t (r0.map a.eval)).run P w = .ok (.map (some w.heap.size)) (w.alloc (.map #[] 0)) -> qcj P w I m h nx (do let __do_lift <- Instr.makeMap t (r0.map a.eval); pure (Next.value __do_lift)) r h':=by
   intro he hrun
   subst he
   simp only [opS] at hs
   obtain ⟨w',I',m',rfl,ha,hr⟩:=qY4 H hnx
   exact qcn hs ⟨_,_,I',m',by rw [Sem.run_bind,hrun]; rfl,ha,.inl ⟨_,rfl,hr⟩⟩
  cases r0 with
  | none=>
   simp [qUt] at hc
   exact fin hc.symm (by simp [Instr.makeMap])
  | some o=>
   cases o <;> simp only [qUt,reduceCtorEq] at hc
   rename_i v
   cases v <;> simp only [reduceCtorEq] at hc
   split at hc
   ·rename_i kt et hu
    simp at hc
    exact fin hc.symm (by simp [Instr.makeMap,run_underlying hu,Act.eval,asInt,asIntOf])
   ·cases hc
 case makeSlice t l c=>
  split at hc
  ·rename_i et p q h1 h2 h3
   split at hc
   ·rename_i sz by_ z g1 g2 g3
    split at hc
    ·rename_i hcond
     obtain ⟨c1,c2,c3⟩:=hcond
     simp at hc; subst hc
     have hl:=qay ht h2
     have hcc:=qay ht h3
     simp only [opS] at hs
     split at hs
     ·rename_i hx hy
      rw [hx] at hl; rw [hy] at hcc
      simp only [Rel] at hl hcc
      split at hs
      ·rename_i hcd
       obtain ⟨d1,d2,d3,d4⟩:=hcd
       rw [hl,hcc]
       refine qcn hs (qY5 H hnx (qcB h1) g1 g2 g3 c1 c2 c3 d1 d2 d3 d4 ?_)
       split
       ·rename_i hso
        refine .inr ⟨rfl,?_⟩
        have:=qBF hso (e:=e)
        rw [hx,hy] at this
        cases this; rfl
       ·exact .inl rfl
      ·cases hs
     ·cases hs
    ·cases hc
   ·cases hc
  ·cases hc
 case slice t x lo hi mx=>
  simp only [qXN] at hc
  split at hc
  ·simp only [qQX] at hc
   split at hc
   ·rename_i et y l u q hu hy hl hh hq
    simp only [Option.map_eq_some_iff] at hc
    obtain ⟨n,hn,rfl⟩:=hc
    have hr:=qay ht hy
    have hlo:=qhK ht hl
    have hhi:=qhK ht hh
    have hmx:=qay ht hq
    simp only [opS] at hs
    split at hs
    ·rename_i kl lv ku uv km mv h1 h2 h3
     simp only [qbE,h1] at hlo
     simp only [qbE,h2] at hhi
     rw [h3] at hmx
     cases lo with
     | none=>simp [qqK] at hlo
     | some lo=>
      cases hi with
      | none=>simp [qqK] at hhi
      | some hi=>
       simp only [Option.map_some,qqK,Rel] at hlo hhi hmx
       split at hs
       ·rename_i hc3
        obtain ⟨c1,c2,c3⟩:=hc3
        have G:=fun hz=>qVD (P:=P) H hu hn hr (kl:=kl) (ku:=ku) (km:=km) c1 c2 c3 hz
        simp only [Option.map_some,hlo,hhi,hmx]
        generalize qaN e y = q at *
        cases q <;> simp only [reduceCtorEq] at hs
        ·split at hs
         ·rename_i hle
          exact qaS H hs (G (.inl ⟨_,_,rfl,hle⟩))
         ·cases hs
        ·split at hs
         ·rename_i hlk
          split at hs
          ·rename_i hle
           exact qaS H hs (G (.inr ⟨_,_,_,_,_,_,rfl,hlk,hle⟩))
          ·cases hs
         ·cases hs
       ·cases hs
    ·cases hs
   ·cases hc
  ·split at hc
   ·rename_i et y l u hu hy hl hh
    simp only [Option.map_eq_some_iff] at hc
    obtain ⟨n,hn,rfl⟩:=hc
    have hr:=qay ht hy
    have hlo:=qhK ht hl
    have hhi:=qhK ht hh
    simp only [opS] at hs
    have G:=fun z hz=>qZf (P:=P) H hu hn hr hlo hhi (z:=z) hz
    generalize qaN e y = q at *
    cases q <;> simp only [reduceCtorEq] at hs
    ·split at hs
     ·rename_i pp hb
      exact qaS H hs (G _ (.inl ⟨_,rfl,rfl,pp,hb⟩))
     ·cases hs
    ·split at hs
     ·rename_i l' u' hb
      split at hs
      ·rename_i hsz; subst hsz
       exact qaS H hs (G _ (.inr (.inl ⟨_,_,_,rfl,hb,rfl⟩)))
      ·cases hs
     ·cases hs
    ·split at hs
     ·rename_i sz' es fz hlk
      split at hs
      ·rename_i l' u' hb
       split at hs
       ·rename_i hcd
        obtain ⟨rfl,hle⟩:=hcd
        refine qaS H hs (G _ (.inr (.inr ⟨_,_,_,_,_,_,_,_,rfl,hlk,hb,hle,?_,rfl⟩)))
        exact qRW hb
       ·cases hs
      ·cases hs
     ·cases hs
   ·rename_i y l u hu hy hl hh
    simp at hc; subst hc
    have hr:=qay ht hy
    have hlo:=qhK ht hl
    have hhi:=qhK ht hh
    simp only [opS] at hs
    generalize qaN e y = q at *
    cases q <;> simp only [reduceCtorEq] at hs
    split at hs
    ·rename_i l' u' hb
     exact qaS H hs (qVE hu hr hlo hhi hb)
    ·cases hs
   ·cases hc
 case fieldAddr s x f=>
  split at hc
  ·rename_i fs y hu hy
   split at hc
   ·rename_i fd hf
    split at hc
    ·rename_i n hn
     split at hc
     ·cases hc
     ·rename_i hn0
      simp at hc; subst hc
      have hr:=qay ht hy
      simp only [opS] at hs
      have G:=fun z hz=>qR6 (P:=P) H hu hf hn hn0 hr (z:=z) hz
      generalize qaN e y = q at *
      cases q <;> simp only [reduceCtorEq] at hs
      ·split at hs
       ·rename_i hle
        exact qaS H hs (G _ (.inl ⟨_,rfl,hle,rfl⟩))
       ·cases hs
      ·exact qaS H hs (G _ (.inr ⟨_,_,_,rfl,rfl⟩))
    ·cases hc
   ·cases hc
  ·cases hc
 case field s x f=>
  split at hc
  ·rename_i fs y hu hy
   split at hc
   ·rename_i fd hf
    split at hc
    ·rename_i n ag hn ha
     split at hc
     ·rename_i h1
      simp at hc; subst hc
      have hr:=qay ht hy
      simp only [opS] at hs
      generalize qaN e y = q at *
      cases q <;> simp only [reduceCtorEq] at hs
      split at hs
      ·exact qeW H hs fun z hz=>qZb hu hf hn ha h1 hr hz
      ·cases hs
     ·cases hc
    ·cases hc
   ·cases hc
  ·cases hc
 case indexAddr t x i=>
  split at hc
  ·rename_i et y j hu hy hj
   simp only [Option.map_eq_some_iff] at hc
   obtain ⟨n,hn,rfl⟩:=hc
   have hr:=qay ht hy
   have hi:=qay ht hj
   simp only [opS] at hs
   split at hs
   ·rename_i h1 h2
    rw [h1] at hr; rw [h2] at hi
    simp only [Rel] at hi
    rw [hi]
    split at hs
    ·rename_i e0 he
     split at hs
     ·rename_i hsz; subst hsz
      exact qaS H hs (qE0 H hu hn hr (.inl ⟨_,_,rfl,he,rfl⟩))
     ·cases hs
    ·cases hs
   ·rename_i h1 h2
    rw [h1] at hr; rw [h2] at hi
    simp only [Rel] at hi
    rw [hi]
    split at hs
    ·rename_i sz' es fz hl
     split at hs
     ·rename_i hcd
      obtain ⟨rfl,d1,d2,d3⟩:=hcd
      exact qaS H hs (qE0 H hu hn hr (.inr ⟨_,_,_,_,_,rfl,hl,d1,d2,d3,by rw [qSc]⟩))
     ·cases hs
    ·cases hs
   ·cases hs
  ·rename_i k et y j hu hy hj
   simp only [Option.map_eq_some_iff] at hc
   obtain ⟨n,hn,rfl⟩:=hc
   have hr:=qay ht hy
   have hi:=qay ht hj
   simp only [opS] at hs
   split at hs
   ·rename_i h2
    rw [h2] at hi
    simp only [Rel] at hi
    rw [hi]
    split at hs
    ·rename_i hcd
     obtain ⟨d1,d2⟩:=hcd
     split at hs
     ·rename_i h1
      rw [h1] at hr
      split at hs
      ·rename_i hle
       exact qaS H hs (qEY hu hn hr d1 d2 (.inl ⟨_,rfl,hle,rfl⟩))
      ·cases hs
     ·rename_i h1
      rw [h1] at hr
      exact qaS H hs (qEY hu hn hr d1 d2 (.inr ⟨_,_,_,rfl,rfl⟩))
     ·cases hs
    ·cases hs
   ·cases hs
  ·cases hc
 case index t x i=>
  split at hc
  ·rename_i y j hu hy hj
   simp at hc; subst hc
   have hr:=qay ht hy
   have hi:=qay ht hj
   simp only [opS] at hs
   split at hs
   ·rename_i h1 h2
    rw [h1] at hr; rw [h2] at hi
    simp only [Rel] at hi
    rw [hi]
    split at hs
    ·rename_i b0 hb
     exact qaS H hs (qVC hu hr hb)
    ·cases hs
   ·cases hs
  ·rename_i k et y j hu hy hj
   split at hc
   ·rename_i n ag hn ha
    split at hc
    ·rename_i h1
     simp at hc; subst hc
     have hr:=qay ht hy
     have hi:=qay ht hj
     simp only [opS] at hs
     split at hs
     ·rename_i g1 g2
      rw [g1] at hr; rw [g2] at hi
      simp only [Rel] at hi
      rw [hi]
      split at hs
      ·rename_i hcd
       exact qeW H hs fun z hz=>qVB hu hn ha h1 hr hcd.1 hcd.2.1 hz
      ·cases hs
     ·cases hs
    ·cases hc
   ·cases hc
  ·cases hc
 case lookup t mp k ok=>
  split at hc
  ·rename_i kt et p q hu hp hq
   split at hc
   ·rename_i z hz
    simp only [Option.map_eq_some_iff] at hc
    obtain ⟨ks,hks,rfl⟩:=hc
    have hr:=qay ht hp
    have hk:=qay ht hq
    simp only [opS] at hs
    generalize qaN e p = x at *
    cases x <;> simp only [reduceCtorEq] at hs
    split at hs
    ·rename_i kvs hl
     split at hs
     ·rename_i v hv
      split at hv
      ·rename_i hkey
       exact qaS H hs (qOG H hu hks hz hl hr hk hkey hv (by simp))
      ·cases hv
     ·rename_i hv
      split at hv
      ·rename_i hkey
       exact qaS H hs (qOG H hu hks hz hl hr hk hkey hv (by simp))
      ·cases hv
     ·cases hs
    ·cases hs
   ·cases hc
  ·cases hc
 case mapUpdate t mp k v=>
  split at hc
  ·rename_i kt et p q s hu hp hq hsv
   simp only [Option.map_eq_some_iff] at hc
   obtain ⟨ks,hks,rfl⟩:=hc
   have hr:=qay ht hp
   have hk:=qay ht hq
   have hv:=qay ht hsv
   simp only [opS] at hs
   generalize qaN e p = x at *
   cases x <;> simp only [reduceCtorEq] at hs
   split at hs
   ·rename_i kvs i1 i2 hl
    split at hs
    ·rename_i kvs' qch
     split at qch
     ·rename_i hkey
      exact qcn hs (qOo H hu hks hl hr hk (qji _ hv) (by rw [quv]; exact i2) hkey qch)
     ·cases qch
    ·cases hs
   ·cases hs
  ·cases hc
 case insert t mp k v=>
  split at hc
  ·rename_i kt et p q s hu hp hq hsv
   simp only [Option.map_eq_some_iff] at hc
   obtain ⟨ks,hks,rfl⟩:=hc
   have hr:=qay ht hp
   have hk:=qay ht hq
   have hv:=qay ht hsv
   simp only [opS] at hs
   generalize qaN e p = x at *
   cases x <;> simp only [reduceCtorEq] at hs
   split at hs
   ·rename_i kvs i1 i2 hl
    split at hs
    ·rename_i kvs' qch
     split at qch
     ·rename_i hkey
      exact qcn hs (qOo H hu hks hl hr hk (qji _ hv) (by rw [quv]; exact i2) hkey qch)
     ·cases qch
    ·cases hs
   ·cases hs
  ·cases hc
 case typeAssert x xt t ok=>
  split at hc
  ·cases hc
  ·rename_i d z y hni hd hz hy
   simp at hc; subst hc
   have hr:=qay ht hy
   simp only [opS] at hs
   have G:=fun q hq=>qVF (P:=P) hd (fun ms he=>by subst he; exact hni _ rfl) hz (xt:=xt) (ok:=ok) hr (z:=q) hq
   generalize qaN e y = q at *
   cases q <;> simp only [reduceCtorEq] at hs
   ·split at hs
    ·rename_i hok
     exact qaS H hs (G _ (.inr ⟨rfl,hok,rfl⟩))
    ·cases hs
   ·split at hs
    ·rename_i hut
     exact qaS H hs (G _ (.inl ⟨_,_,rfl,.inl ⟨hut,rfl⟩⟩))
    ·rename_i hut
     split at hs
     ·rename_i hok
      exact qaS H hs (G _ (.inl ⟨_,_,rfl,.inr ⟨hut,hok,rfl⟩⟩))
     ·cases hs
  ·cases hc
 case extract x i=>
  simp only [Option.map_eq_some_iff] at hc
  obtain ⟨y,hy,rfl⟩:=hc
  have hr:=qay ht hy
  simp only [opS] at hs
  generalize qaN e y = q at *
  cases q <;> simp only [reduceCtorEq] at hs
  exact qeW H hs fun z hz=>qZa hr hz
 case call c=>
  obtain ⟨callee,args,argTypes⟩:=c
  cases callee with
  | value f=>
   simp only [qv4,qv5] at hc
   cases f <;> simp only [reduceCtorEq,Option.map_eq_some_iff] at hc <;> obtain ⟨_,_,rfl⟩:=hc <;> simp [qdD] at hnc
  | invoke r mth=>
   simp only [qv4,qYO] at hc
   split at hc
   ·cases hc; simp [qdD] at hnc
   ·cases hc
  | builtin bi=>
   have hexec:(do let d <- resolve a.eval ⟨.builtin bi,args,argTypes⟩ type; invoke d.target d.args:Sem Next) = builtin bi argTypes type (args.map fun | .const _=>true | _=>false) (args.map a.eval):=by
    simp only [resolve,invoke,pure_bind]; rfl
   have hmap:args.map a.eval = (args.toList.map a.eval).toArray:=by apply Array.ext'; simp
   rw [hexec,hmap]
   have h1:=qxb (ty:=type) (consts:=args.map fun | .const _=>true | _=>false) ht H hnx (by simpa [qv4] using hc) hs
   simpa only [Array.toArray_toList] using h1
end
end Go.Eng
namespace Go.Eng
set_option linter.unusedSectionVars false
variable [Globs]
section
variable {P:Program} {w:World} {I:Imm} {m:Names} {h:Heap} {nx:Nat}
mutual
theorem qeC {m':Names} {r:Nat -> Option Nat} (hr:∀ i j L,r i = some j -> m i = some L -> m' j = some L):∀ (x:AV) {v:Value},Rel w I x m v -> Rel w I (ren r x) m' v
 | .int ..,_,h=>by simpa [ren,Rel] using h
 | .bool ..,_,h=>by simpa [ren,Rel] using h
 | .str ..,_,h=>by simpa [ren,Rel] using h
 | .nilp,_,h=>by simpa [ren,Rel] using h
 | .nils _,_,h=>by simpa [ren,Rel] using h
 | .nilm,_,h=>by simpa [ren,Rel] using h
 | .nilf,_,h=>by simpa [ren,Rel] using h
 | .nili,_,h=>by simpa [ren,Rel] using h
 | .agg cs,_,h=>by
  simp only [ren,Rel] at h ⊢
  obtain ⟨vs,hv,h⟩:=h
  exact ⟨vs,hv,qfC hr cs h⟩
 | .tup cs,_,h=>by
  simp only [ren,Rel] at h ⊢
  obtain ⟨vs,hv,h⟩:=h
  exact ⟨vs,hv,qfC hr cs h⟩
 | .view ..,_,h=>by simpa only [ren,Rel] using h
 | .ptr ..,_,h=>by simpa only [ren,Rel] using h
 | .own id off len,_,h=>by
  simp only [ren]
  split
  ·rename_i j hj
   simp only [Rel] at h ⊢
   obtain ⟨L,hL,h⟩:=h
   exact ⟨L,hr _ _ _ hj hL,h⟩
  ·simp [Rel]
 | .ref id idx off,_,h=>by
  simp only [ren]
  split
  ·rename_i j hj
   simp only [Rel] at h ⊢
   obtain ⟨L,hL,h⟩:=h
   exact ⟨L,hr _ _ _ hj hL,h⟩
  ·simp [Rel]
 | .mref id,_,h=>by
  simp only [ren]
  split
  ·rename_i j hj
   simp only [Rel] at h ⊢
   obtain ⟨L,hL,h⟩:=h
   exact ⟨L,hr _ _ _ hj hL,h⟩
  ·simp [Rel]
 | .fn f cs,_,h=>by
  simp only [ren,Rel] at h ⊢
  obtain ⟨vs,hv,h⟩:=h
  exact ⟨vs,hv,qfC hr cs h⟩
 | .iface t x,_,h=>by
  simp only [ren,Rel] at h ⊢
  obtain ⟨y,hv,h⟩:=h
  exact ⟨y,hv,qeC hr x h⟩
 | .junk,_,_=>by simp [ren,Rel]
theorem qfC {m':Names} {r:Nat -> Option Nat} (hr:∀ i j L,r i = some j -> m i = some L -> m' j = some L):∀ (xs:List AV) {vs:List Value},qaM w I xs m vs -> qaM w I (ren.renL r xs) m' vs
 | [],_,h=>by simpa [ren.renL,qaM] using h
 | x :: xs,_,h=>by
  simp only [ren.renL,qaM] at h ⊢
  obtain ⟨v,vs',hv,h1,h2⟩:=h
  exact ⟨v,vs',hv,qeC hr x h1,qfC hr xs h2⟩
end
theorem qlf (r:Nat -> Option Nat):∀ xs:List AV,(ren.renL r xs).length = xs.length
 | []=>rfl
 | x :: xs=>by simp [ren.renL,qlf r xs]
theorem qzu (r:Nat -> Option Nat):∀ (xs:List AV) (i:Nat) (c:AV),(ren.renL r xs)[i]? = some c -> ∃ d,xs[i]? = some d /\ c = ren r d
 | [],i,c,h=>by simp [ren.renL] at h
 | x :: xs,0,c,h=>by simp [ren.renL] at h; exact ⟨x,rfl,h.symm⟩
 | x :: xs,i + 1,c,h=>by simp [ren.renL] at h; simpa using qzu r xs i c h
theorem BlkAt.ren {m':Names} {r:Nat -> Option Nat} (hr:∀ i j L,r i = some j -> m i = some L -> m' j = some L) {L:Loc} {b:Blk} (h:BlkAt w I m L b):BlkAt w I m' L (qX4 r b):=by
 cases b with
 | box cs fz=>
  obtain ⟨h1,h2,C,e,hC,hsz,hcell,hfz⟩:=h
  refine ⟨h1,by simp [qlf,h2],C,e,hC,by simpa [qlf] using hsz,fun i c hc=>?_,by simpa [qlf] using hfz⟩
  obtain ⟨d,hd,rfl⟩:=qzu r cs i c hc
  obtain ⟨v,hv,hrel⟩:=hcell i d hd
  exact ⟨v,hv,qeC hr d hrel⟩
 | arr sz es fz=>exact h
 | mp kvs=>exact h
theorem qex:∀ (n:Nat) (h:Heap) (todo seen r:List Nat),qbL n h todo seen = some r -> seen.Nodup -> r.Nodup
 | n,h,[],seen,r,hr,hs=>by
  have:seen = r:=by cases n <;> simpa [qbL] using hr
  subst this; exact hs
 | 0,h,_ :: _,seen,r,hr,_=>by simp [qbL] at hr
 | n + 1,h,i :: todo,seen,r,hr,hs=>by
  simp only [qbL] at hr
  by_cases hc:seen.contains i = true
  ·rw [if_pos hc] at hr; exact qex n h todo seen r hr hs
  ·rw [if_neg hc] at hr
   cases hl:qad h i with
   | none=>simp only [hl] at hr; exact qex n h todo seen r hr hs
   | some b=>
    simp only [hl] at hr
    refine qex n h _ _ r hr ?_
    rw [List.nodup_append]
    refine ⟨hs,by simp,fun a ha b hb=>?_⟩
    simp at hb; subst hb
    intro e; subst e
    exact hc (by simpa using ha)
theorem qcN:∀ {l:List Nat} {i j:Nat},place l i = some j -> l[j]? = some i
 | [],i,j,h=>by simp [place] at h
 | k :: l,i,j,h=>by
  simp only [place] at h
  split at h
  ·rename_i e; subst e; simp at h; subst h; rfl
  ·simp only [Option.map_eq_some_iff] at h
   obtain ⟨j',h,rfl⟩:=h
   simpa using qcN h
theorem qnT:∀ {l:List Nat} {i j:Nat},l.Nodup -> l[j]? = some i -> place l i = some j
 | [],i,j,_,h=>by simp at h
 | k :: l,i,0,_,h=>by simp at h; subst h; simp [place]
 | k :: l,i,j + 1,hn,h=>by
  simp at h
  rw [List.nodup_cons] at hn
  have:i ≠ k:=fun e=>hn.1 (e ▸ List.mem_of_getElem? h)
  simp [place,this,qnT hn.2 h]
theorem qHC {l:List Nat} {i:Nat} (h:i ∈ l):∃ j,place l i = some j:=by
 induction l with
 | nil=>simp at h
 | cons k l ih=>
  simp only [place]
  by_cases e:i = k
  ·exact ⟨0,by simp [e]⟩
  ·obtain ⟨j,hj⟩:=ih (by simpa [e] using h)
   exact ⟨j + 1,by simp [e,hj]⟩
theorem qj3 {r:Nat -> Option Nat}:∀ {h:Heap} {j:Nat} {b:Blk},qad (qhc r h) j = some b -> ∃ i a,qad h i = some a /\ r i = some j /\ b = qX4 r a \/ False
 | [],j,b,h=>by simp [qhc,qad] at h
 | (i,a) :: h,j,b,hj=>by
  simp only [qhc] at hj
  split at hj
  ·rename_i k hk
   simp only [qad] at hj
   split at hj
   ·rename_i e; subst e
    simp at hj
    exact ⟨i,a,.inl ⟨by simp [qad],hk,hj.symm⟩⟩
   ·rename_i hne
    obtain ⟨i',a',h'⟩:=qj3 hj
    rcases h' with ⟨h1,h2,h3⟩ | h'
    ·refine ⟨i',a',.inl ⟨?_,h2,h3⟩⟩
     simp only [qad]
     by_cases e:i' = i
     ·subst e; rw [hk] at h2; cases h2; exact absurd rfl hne
     ·simp [e,h1]
    ·exact h'.elim
  ·rename_i hk
   obtain ⟨i',a',h'⟩:=qj3 hj
   rcases h' with ⟨h1,h2,h3⟩ | h'
   ·refine ⟨i',a',.inl ⟨?_,h2,h3⟩⟩
    simp only [qad]
    by_cases e:i' = i
    ·subst e; rw [hk] at h2; cases h2
    ·simp [e,h1]
   ·exact h'.elim
theorem qdG {r:Nat -> Option Nat} {h:Heap} {j:Nat} {b:Blk} (hj:qad (qhc r h) j = some b):∃ i a,qad h i = some a /\ r i = some j /\ b = qX4 r a:=by
 obtain ⟨i,a,h' | h'⟩:=qj3 hj
 ·exact ⟨i,a,h'⟩
 ·exact h'.elim
theorem HeapAt.ren {m':Names} {r:Nat -> Option Nat} (H:HeapAt w I m h) (hr:∀ i j L,r i = some j -> m i = some L -> m' j = some L) (hinj:∀ i i' j,r i = some j -> r i' = some j -> i = i'):HeapAt w I m' (qhc r h):=by
 constructor
 ·intro j b hj
  obtain ⟨i,a,hi,hij,rfl⟩:=qdG hj
  obtain ⟨L,hL,hat⟩:=H.at_ i a hi
  exact ⟨L,hr _ _ _ hij hL,hat.ren hr⟩
 ·intro j j' b b' L L' hj hj' hL hL' he
  obtain ⟨i,a,hi,hij,rfl⟩:=qdG hj
  obtain ⟨i',a',hi',hij',rfl⟩:=qdG hj'
  obtain ⟨L1,hL1,_⟩:=H.at_ i a hi
  obtain ⟨L2,hL2,_⟩:=H.at_ i' a' hi'
  rw [hr _ _ _ hij hL1] at hL; cases hL
  rw [hr _ _ _ hij' hL2] at hL'; cases hL'
  have:=H.apart i i' a a' _ _ hi hi' hL1 hL2 he
  subst this
  rw [hij] at hij'; cases hij'; rfl
 ·exact H.old
 ·exact H.glob
structure Aft (w w':World) (I I':Imm) (m m':Names) (h h':Heap):Prop where
 stays:Stays w w' I
 imm:∀ b o,I b o -> I' b o
 names:∀ i L,m i = some L -> m' i = some L
 heap:HeapAt w' I' m' h'
 frame:∀ b,b < w.heap.size -> ¬ Owns m h b -> w'.heap[b]? = w.heap[b]?
 newI:∀ b o,I' b o -> I b o \/ Owns m h b \/ w.heap.size <= b
 owns:∀ b,Owns m' h' b -> Owns m h b \/ w.heap.size <= b
def qJL (w:World) (I:Imm) (m:Names) (h:Heap) (r:Res) (h':Heap) (e:Ending) (w':World):Prop:=
 ∃ I' m',Aft w w' I I' m m' h h' /\ match r with
  | .ret v=>∃ u,e = .returned u /\ Rel w' I' v m' u
  | .pan v=>∃ u,e = .panicked [{ v:=u,recovered:=false }] /\ Rel w' I' v m' u
def qbR (P:Program) (f:Nat):Prop:=∃ fn,P.funcs[f]? = some fn /\ (fn.name == "runtime.NumGoroutine") = false /\ fn.body.isNone = false
def Runs (P:Program) (f:Nat) (vs:Array Value) (w:World) (Q:Ending -> World -> Prop):Prop:=
 (qbR P f /\ Calls P f vs w Q) \/ ∃ v,(callFunc f vs).run P w = .ok (.value v) w /\ Q (.returned v) w
theorem Runs.mono {P:Program} {f:Nat} {vs:Array Value} {w:World} {Q Q':Ending -> World -> Prop} (h:Runs P f vs w Q) (hq:∀ e w',Q e w' -> Q' e w'):Runs P f vs w Q':=by
 rcases h with ⟨h1,h2⟩ | ⟨v,h1,h2⟩
 ·exact .inl ⟨h1,h2.mono hq⟩
 ·exact .inr ⟨v,h1,hq _ _ h2⟩
def qef (P:Program) (call:qa7):Prop:=∀ f args h r h',call f args h = some (r,h') ->
 ∀ (w:World) (I:Imm) (m:Names) (vs:List Value),HeapAt w I m h -> (∀ i,h.length <= i -> m i = none) -> qaM w I args m vs -> Runs P f vs.toArray w (qJL w I m h r h')
mutual
theorem qkf {I':Imm}:∀ (x:AV) {m:Names} {v:Value},shows x = false -> Rel w I x m v -> Rel w I' x m v
 | .int ..,_,_,_,h=>h
 | .bool ..,_,_,_,h=>h
 | .str ..,_,_,_,h=>h
 | .nilp,_,_,_,h=>h
 | .nils _,_,_,_,h=>h
 | .nilm,_,_,_,h=>h
 | .nilf,_,_,_,h=>h
 | .nili,_,_,_,h=>h
 | .agg cs,_,_,hs,h=>by
  simp only [Rel] at h ⊢
  obtain ⟨vs,hv,h⟩:=h
  exact ⟨vs,hv,qgq cs (by simpa [shows] using hs) h⟩
 | .tup cs,_,_,hs,h=>by
  simp only [Rel] at h ⊢
  obtain ⟨vs,hv,h⟩:=h
  exact ⟨vs,hv,qgq cs (by simpa [shows] using hs) h⟩
 | .view ..,_,_,hs,_=>by simp [shows] at hs
 | .ptr ..,_,_,hs,_=>by simp [shows] at hs
 | .own ..,_,_,_,h=>by simpa only [Rel] using h
 | .ref ..,_,_,_,h=>by simpa only [Rel] using h
 | .mref ..,_,_,_,h=>by simpa only [Rel] using h
 | .fn f cs,_,_,hs,h=>by
  simp only [Rel] at h ⊢
  obtain ⟨vs,hv,h⟩:=h
  exact ⟨vs,hv,qgq cs (by simpa [shows] using hs) h⟩
 | .iface t x,_,_,hs,h=>by
  simp only [Rel] at h ⊢
  obtain ⟨y,hv,h⟩:=h
  exact ⟨y,hv,qkf x (by simpa [shows] using hs) h⟩
 | .junk,_,_,_,_=>by simp [Rel]
theorem qgq {I':Imm}:∀ (xs:List AV) {m:Names} {vs:List Value},shows.showsL xs = false -> qaM w I xs m vs -> qaM w I' xs m vs
 | [],_,_,_,h=>h
 | x :: xs,_,_,hs,h=>by
  simp only [shows.showsL,Bool.or_eq_false_iff] at hs
  simp only [qaM] at h ⊢
  obtain ⟨v,vs',hv,h1,h2⟩:=h
  exact ⟨v,vs',hv,qkf x hs.1 h1,qgq xs hs.2 h2⟩
end
theorem qBD (H:HeapAt w I m h) {all:Bool} {x:AV} {v:Value} (hr:Rel w I x m v) {y:AV} {ids:List Nat} (hp:qTJ h all x = some (y,ids)) {r:List Nat} (hsh:Shut h r) (hin:∀ i b,i ∈ ids -> qad h i = some b -> i ∈ r) :
  Rel w (shown I m h r) y m v:=by
 have same:∀ {z:AV},Rel w I z m v -> Rel w (shown I m h r) z m v:=fun hz=>qaP (Stays.refl w I) qbH _ (fun _ _ h=>h) hz
 simp only [qTJ] at hp
 split at hp
 ·simp at hp; obtain ⟨rfl,rfl⟩:=hp; exact same hr
 ·split at hp
  ·simp at hp; obtain ⟨rfl,rfl⟩:=hp; exact same (qji _ hr)
  ·split at hp
   ·rename_i q hq
    simp at hp; obtain ⟨rfl,rfl⟩:=hp
    exact qu3 (qhM H hsh _ _ hin hq hr)
   ·cases hp
theorem qnU (H:HeapAt w I m h) {all:Bool}:∀ {xs:List AV} {vs:List Value},qaM w I xs m vs -> ∀ {ys:List AV} {ids:List Nat},qry h all xs = some (ys,ids) -> ∀ {r:List Nat},Shut h r -> (∀ i b,i ∈ ids -> qad h i = some b -> i ∈ r) ->
  qaM w (shown I m h r) ys m vs
 | [],vs,hr,ys,ids,hp,r,_,_=>by
  simp [qry] at hp; obtain ⟨rfl,rfl⟩:=hp
  simpa [qaM] using hr
 | x :: xs,vs,hr,ys,ids,hp,r,hsh,hin=>by
  simp only [qry] at hp
  split at hp
  ·rename_i y a ys' b h1 h2
   simp at hp; obtain ⟨rfl,rfl⟩:=hp
   simp only [qaM] at hr ⊢
   obtain ⟨v,vs',rfl,hv,hr⟩:=hr
   exact ⟨v,vs',rfl,qBD H hv h1 hsh fun i b hi hb=>hin i b (by simp [hi]) hb,qnU H hr h2 hsh fun i b hi hb=>hin i b (by simp [hi]) hb⟩
  ·cases hp
theorem qIV {h:Heap}:∀ {l:List Nat},(∀ i,i ∈ l -> ∃ b,qad h i = some b) -> (sub h l).length = l.length
 | [],_=>rfl
 | i :: l,ha=>by
  obtain ⟨b,hb⟩:=ha i (by simp)
  simp [sub,hb,qIV (l:=l) fun j hj=>ha j (by simp [hj])]
theorem qzt {r:Nat -> Option Nat}:∀ {h:Heap},(∀ p ∈ h,(r p.1).isSome = true) -> (qhc r h).length = h.length
 | [],_=>rfl
 | (i,b) :: h,ha=>by
  have h1:=ha (i,b) (by simp)
  obtain ⟨j,hj⟩:=Option.isSome_iff_exists.1 h1
  simp only [qhc,hj,List.length_cons,qzt (h:=h) fun p hp=>ha p (by simp [hp])]
theorem qxx {h:Heap}:∀ {l:List Nat} {p:Nat × Blk},p ∈ sub h l -> p.1 ∈ l
 | [],p,hp=>by simp [sub] at hp
 | i :: l,p,hp=>by
  simp only [sub] at hp
  split at hp
  ·rcases List.mem_cons.1 hp with rfl | hp
   ·simp
   ·simp [qxx hp]
  ·simp [qxx hp]
end
end Go.Eng
namespace Go.Eng
set_option linter.unusedSectionVars false
variable [Globs]
section
variable {P:Program} {w:World} {I:Imm} {m:Names} {h:Heap} {nx:Nat}
def qYu (w:World) (I:Imm) (m:Names) (h:Heap) (nx:Nat) (r:Res) (h':Heap) (e:Ending) (w':World):Prop:=
 ∃ I' m',After w w' I I' m m' h h' nx /\ match r with
  | .ret v=>∃ u,e = .returned u /\ Rel w' I' v m' u
  | .pan v=>∃ u,e = .panicked [{ v:=u,recovered:=false }] /\ Rel w' I' v m' u
theorem qgN {moved:List Nat} {nx j i:Nat} (h:back moved nx j = some i):(moved[j]? = some i) \/ (moved.length <= j /\ j < moved.length + 16 /\ i = nx + (j - moved.length)):=by
 simp only [back] at h
 split at h
 ·rename_i k hk
  simp at h; subst h; exact .inl hk
 ·rename_i hk
  split at h
  ·simp at h
   exact .inr ⟨by simpa using hk,by assumption,h.symm⟩
  ·cases h
def qnp (m mc:Names) (k nx:Nat):Names:=fun i=>if nx <= i /\ i < nx + 16 then mc (k + (i - nx)) else m i
theorem qKk {a b:List Nat} (h:qJM a b = true) {i:Nat} (ha:i ∈ a):i ∉ b:=by
 simp only [qJM,List.all_eq_true] at h
 have:=h i ha
 simpa using this
set_option maxHeartbeats 1000000 in
theorem qv6 {IP:Prog} {call:qa7} (hcall:qef P call) (H:HeapAt w I m h) (hnx:∀ i,nx <= i -> i < nx + 16 -> m i = none) {args:List AV} {vs:List Value} (hr:qaM w I args m vs) {f:Nat} {r:Res} {h':Heap} {b:Bool}
  (hc:qgP IP call h nx f args = some (r,h',b)):Runs P f vs.toArray w (qYu w I m h nx r h'):=by
 simp only [qgP] at hc
 split at hc
 ·cases hc
 ·rename_i args' roots hprep
  split at hc
  ·rename_i moved shwn hmv hsh
   split at hc
   ·rename_i hdisj
    split at hc
    ·cases hc
    ·rename_i r0 h0 hcl
     split at hc
     ·rename_i hall
      simp only [Option.some.injEq,Prod.mk.injEq] at hc
      obtain ⟨rfl,rfl,_⟩:=hc
      obtain ⟨hms,hmt,hmk⟩:=qhH hmv
      obtain ⟨hss,hst,hsk⟩:=qhH hsh
      have hnd:moved.Nodup:=qex _ _ _ _ _ hmv (by simp)
      have hgo:=hcall _ _ _ _ _ hcl
      let mc:Names:=fun j=>(moved[j]?).bind m
      let Ic:Imm:=shown I m h shwn
      have hpl:∀ i j L,place moved i = some j -> m i = some L -> mc j = some L:=by
       intro i j L hp hL
       simp only [mc,qcN hp,Option.bind_some,hL]
      have hargs:qaM w Ic (ren.renL (place moved) args') mc vs:=
       qfC hpl args' (qnU H hr hprep hss hst)
      have hsub:HeapAt w I m (sub h moved):=H.sub' fun i b hi=>by
       rw [qbJ] at hi
       split at hi
       ·exact hi
       ·cases hi
      have hIc:∀ b o,I b o -> Ic b o:=qbH
      have hmvI:∀ i b L,i ∈ moved -> qad h i = some b -> m i = some L -> ∀ o,Ic L.blk o -> I L.blk o:=by
       intro i b L hi hb hL o ho
       rcases ho with ho | ⟨j,blk,L',hj,hlj,hLj,he,_⟩
       ·exact ho
       ·have:=H.apart i j b blk L L' hb hlj hL hLj he.symm
        subst this
        exact absurd hj (qKk hdisj hi)
      have hIold:∀ b o,Ic b o -> b < w.heap.size:=fun b o ho=>(After.showing (nx:=nx) H (r:=shwn)).heap.old b o ho
      have hsubI:HeapAt w Ic m (sub h moved):=by
       constructor
       ·intro i b hi
        have hi':=hi
        rw [qbJ] at hi'
        split at hi'
        ·rename_i hmem
         obtain ⟨L,hL,hat⟩:=H.at_ i b hi'
         exact ⟨L,hL,hat.keep (Stays.refl w I) hIc (fun _ _ h=>h) rfl (hmvI i b L hmem hi' hL)⟩
        ·cases hi'
       ·exact hsub.apart
       ·exact hIold
       ·exact H.glob.mono (Stays.refl w I) hIc
      have hinj:∀ i i' j,place moved i = some j -> place moved i' = some j -> i = i':=fun i i' j h1 h2=>by
       have:=qcN h1; rw [qcN h2] at this; cases this; rfl
      have hheap:HeapAt w Ic mc (qhc (place moved) (sub h moved)):=hsubI.ren hpl hinj
      have hlen:(qhc (place moved) (sub h moved)).length = moved.length:=by
       rw [qzt fun p hp=>by
        obtain ⟨j,hj⟩:=qHC (qxx hp); simp [hj],qIV hmk]
      have hdom:∀ i,(qhc (place moved) (sub h moved)).length <= i -> mc i = none:=fun i hi=>by
       rw [hlen] at hi
       simp only [mc]
       rw [List.getElem?_eq_none hi]; rfl
      have hcalls:=hgo w Ic mc vs hheap hdom hargs
      have hOwn:∀ bk,Owns mc (qhc (place moved) (sub h moved)) bk -> ∃ i a L,i ∈ moved /\ qad h i = some a /\ m i = some L /\ L.blk = bk:=by
       rintro bk ⟨j,a,L,hj,hL,rfl⟩
       obtain ⟨i,a',hi,hij,rfl⟩:=qdG hj
       rw [qbJ] at hi
       split at hi
       ·rename_i hmem
        obtain ⟨L',hL',_⟩:=H.at_ i a' hi
        have:=hpl i j L' hij hL'
        rw [this] at hL; cases hL
        exact ⟨i,a',_,hmem,hi,hL',rfl⟩
       ·cases hi
      have hOwn':∀ bk,Owns mc (qhc (place moved) (sub h moved)) bk -> Owns m h bk:=fun bk ho=>by
       obtain ⟨i,a,L,_,h1,h2,h3⟩:=hOwn bk ho; exact ⟨i,a,L,h1,h2,h3⟩
      refine hcalls.mono ?_
      rintro e w' ⟨I1,m1,aft,hres⟩
      let k:=moved.length
      let m':Names:=qnp m m1 k nx
      have hm'in:∀ i,¬ (nx <= i /\ i < nx + 16) -> m' i = m i:=fun i hi=>by simp only [m',qnp,if_neg hi]
      have hm'new:∀ d,d < 16 -> m' (nx + d) = m1 (k + d):=fun d hd=>by
       simp only [m',qnp]
       rw [if_pos ⟨by omega,by omega⟩,show nx + d - nx = d by omega]
      have hm'le:∀ i L,m i = some L -> m' i = some L:=fun i L hi=>by
       rw [hm'in i fun hn=>by rw [hnx i hn.1 hn.2] at hi; cases hi]; exact hi
      have hback:∀ j i L,back moved nx j = some i -> m1 j = some L -> m' i = some L:=by
       intro j i L hb hL
       rcases qgN hb with hj | ⟨h1,h2,rfl⟩
       ·obtain ⟨a,ha⟩:=hmk i (List.mem_of_getElem? hj)
        obtain ⟨L0,hL0,_⟩:=H.at_ i a ha
        have:mc j = some L0:=by simp only [mc,hj,Option.bind_some,hL0]
        have:=aft.names j L0 this
        rw [hL] at this; cases this
        exact hm'le i L hL0
       ·rw [hm'new _ (by omega),show k + (j - k) = j by omega]; exact hL
      have hbinj:∀ j j' i,back moved nx j = some i -> back moved nx j' = some i -> j = j':=by
       intro j j' i h1 h2
       have notnew:∀ q,moved[q]? = some i -> ¬ (nx <= i /\ i < nx + 16):=fun q hq hn=>by
        obtain ⟨a,ha⟩:=hmk i (List.mem_of_getElem? hq)
        obtain ⟨L0,hL0,_⟩:=H.at_ i a ha
        rw [hnx i hn.1 hn.2] at hL0; cases hL0
       rcases qgN h1 with g1 | ⟨g1,g2,g3⟩ <;> rcases qgN h2 with g4 | ⟨g4,g5,g6⟩
       ·have p1:=qnT hnd g1
        have p2:=qnT hnd g4
        rw [p1] at p2; cases p2; rfl
       ·exact absurd ⟨by omega,by omega⟩ (notnew j g1)
       ·exact absurd ⟨by omega,by omega⟩ (notnew j' g4)
       ·omega
      let touched:Bool:=!shwn.isEmpty && (shows (qK9 r0) || !h0.isEmpty)
      let I':Imm:=if touched = true \/ shwn = [] then I1 else I
      have hII':∀ b o,I b o -> I' b o:=fun b o hi=>by
       simp only [I']; split
       ·exact aft.imm b o (hIc b o hi)
       ·exact hi
      have hI'1:∀ b o,I' b o -> I1 b o:=fun b o hi=>by
       simp only [I'] at hi; split at hi
       ·exact hi
       ·exact aft.imm b o (hIc b o hi)
      have hstay:Stays w w' I:=aft.stays.sub hIc
      have hnewI:∀ b o,I' b o -> I b o \/ Owns m h b \/ w.heap.size <= b:=fun b o hi=>by
       rcases aft.newI b o (hI'1 b o hi) with h1 | h1 | h1
       ·rcases h1 with h1 | ⟨j,blk,L',hj,hlj,hLj,rfl,_⟩
        ·exact .inl h1
        ·exact .inr (.inl ⟨j,blk,L',hlj,hLj,rfl⟩)
       ·exact .inr (.inl (hOwn' b h1))
       ·exact .inr (.inr h1)
      have hresult:∀ u,Rel w' I1 (qK9 r0) m1 u -> Rel w' I' (ren (back moved nx) (qK9 r0)) m' u:=fun u hu=>by
       have h1:=qeC hback (qK9 r0) hu
       by_cases ht:touched = true \/ shwn = []
       ·simp only [I',if_pos ht]; exact h1
       ·have hns:shows (qK9 r0) = false:=by
         have h2:¬ touched = true:=fun h=>ht (.inl h)
         have h3:shwn.isEmpty = false:=by
          cases hq:shwn with
          | nil=>exact absurd (.inr hq) ht
          | cons _ _=>rfl
         simp only [touched,h3,Bool.not_false,Bool.true_and,Bool.or_eq_true,not_or] at h2
         simpa using h2.1
        have h4:=qeC hback (qK9 r0) (qkf (I':=I) (qK9 r0) hns hu)
        simp only [I',if_neg ht]; exact h4
      have hret:HeapAt w' I' m' (qhc (back moved nx) h0):=by
       by_cases ht:touched = true \/ shwn = []
       ·have:I' = I1:=by simp only [I',if_pos ht]
        rw [this]; exact aft.heap.ren hback hbinj
       ·have hh0:h0 = []:=by
         have h2:¬ touched = true:=fun h=>ht (.inl h)
         have h3:shwn.isEmpty = false:=by
          cases hq:shwn with
          | nil=>exact absurd (.inr hq) ht
          | cons _ _=>rfl
         simp only [touched,h3,Bool.not_false,Bool.true_and,Bool.or_eq_true,not_or] at h2
         have:=h2.2
         cases h0 with
         | nil=>rfl
         | cons _ _=>simp at this
        subst hh0
        exact ⟨fun i b hi=>by simp [qhc,qad] at hi,fun i j a b L L' hi=>by simp [qhc,qad] at hi,fun b o hi=>Nat.lt_of_lt_of_le (H.old b o (by simp only [I',if_neg ht] at hi; exact hi)) aft.stays.size,H.glob.mono hstay hII'⟩
      have hretOwn:∀ bk,Owns m' (qhc (back moved nx) h0) bk -> (∃ i a L,i ∈ moved /\ qad h i = some a /\ m i = some L /\ L.blk = bk) \/ w.heap.size <= bk:=by
       rintro bk ⟨i,a,L,hi,hL,rfl⟩
       obtain ⟨j,a',hj,hji,rfl⟩:=qdG hi
       obtain ⟨L',hL',_⟩:=aft.heap.at_ j a' hj
       have:=hback j i L' hji hL'
       rw [this] at hL; cases hL
       rcases aft.owns _ ⟨j,a',_,hj,hL',rfl⟩ with h1 | h1
       ·exact .inl (hOwn _ h1)
       ·exact .inr h1
      have hstayed:∀ i a,qad (qa0 h moved) i = some a -> i ∉ moved /\ qad h i = some a:=fun i a hi=>by
       rw [qbt] at hi
       split at hi
       ·cases hi
       ·rename_i hn; exact ⟨hn,hi⟩
      have hkeepH:∀ i a L,i ∉ moved -> qad h i = some a -> m i = some L -> w'.heap[L.blk]? = w.heap[L.blk]?:=fun i a L hn hi hL=>by
       obtain ⟨L0,hL0,hat⟩:=H.at_ i a hi
       rw [hL] at hL0; cases hL0
       refine aft.frame _ hat.lt fun ho=>?_
       obtain ⟨j,a',L',hj,hlj,hLj,he⟩:=hOwn _ ho
       exact hn (H.apart i j a a' L L' hi hlj hL hLj he.symm ▸ hj)
      have hnotI:∀ i a L,i ∉ moved -> i ∉ shwn -> qad h i = some a -> m i = some L -> ∀ o,I' L.blk o -> I L.blk o:=fun i a L hn hn2 hi hL o ho=>by
       obtain ⟨L0,hL0,hat⟩:=H.at_ i a hi
       rw [hL] at hL0; cases hL0
       rcases aft.newI _ _ (hI'1 _ _ ho) with h1 | h1 | h1
       ·rcases h1 with h1 | ⟨j,blk,L',hj,hlj,hLj,he,_⟩
        ·exact h1
        ·exact absurd (H.apart i j a blk L L' hi hlj hL hLj he.symm ▸ hj) hn2
       ·obtain ⟨j,a',L',hj,hlj,hLj,he⟩:=hOwn _ h1
        exact absurd (H.apart i j a a' L L' hi hlj hL hLj he.symm ▸ hj) hn
       ·have:=hat.lt; omega
      have hold:HeapAt w' I' m' (if touched = true then freeze (qa0 h moved) shwn else qa0 h moved):=by
       have hlk:∀ i b,qad (if touched = true then freeze (qa0 h moved) shwn else qa0 h moved) i = some b -> ∃ a,i ∉ moved /\ qad h i = some a /\ ((b = a /\ (touched = true -> i ∉ shwn)) \/ (b = qiq a /\ i ∈ shwn /\ touched = true)):=by
        intro i b hi
        split at hi
        ·rename_i ht
         rw [qcd] at hi
         split at hi
         ·rename_i hs
          simp only [Option.map_eq_some_iff] at hi
          obtain ⟨a,ha,rfl⟩:=hi
          obtain ⟨h1,h2⟩:=hstayed i a ha
          exact ⟨a,h1,h2,.inr ⟨rfl,hs,ht⟩⟩
         ·rename_i hs
          obtain ⟨h1,h2⟩:=hstayed i b hi
          exact ⟨b,h1,h2,.inl ⟨rfl,fun _=>hs⟩⟩
        ·rename_i ht
         obtain ⟨h1,h2⟩:=hstayed i b hi
         exact ⟨b,h1,h2,.inl ⟨rfl,fun h=>absurd h ht⟩⟩
       constructor
       ·intro i b hi
        obtain ⟨a,hn,ha,hb⟩:=hlk i b hi
        obtain ⟨L,hL,hat⟩:=H.at_ i a ha
        refine ⟨L,hm'le i L hL,?_⟩
        rcases hb with ⟨rfl,hs⟩ | ⟨rfl,hs,ht⟩
        ·refine hat.keep hstay hII' hm'le (hkeepH i b L hn ha hL) fun o ho=>?_
         by_cases hmem:i ∈ shwn
         ·have hnt:¬ touched = true:=fun h=>hs h hmem
          have hne:¬ (touched = true \/ shwn = []):=fun h=>by
           rcases h with h | h
           ·exact hnt h
           ·rw [h] at hmem; simp at hmem
          simp only [I',if_neg hne] at ho; exact ho
         ·exact hnotI i b L hn hmem ha hL o ho
        ·have hsh1:∀ q,q < known a -> I' L.blk (L.base + q):=fun q hq=>by
          simp only [I',if_pos (Or.inl ht)]
          exact aft.imm _ _ (.inr ⟨i,a,L,hs,ha,hL,rfl,by omega,by omega⟩)
         have hkh:=hkeepH i a L hn ha hL
         cases a with
         | box cs fz=>
          obtain ⟨h1,h2,C,e,hC,hsz,hcell,_⟩:=hat
          exact ⟨h1,h2,C,e,hkh.trans hC,hsz,fun i c hc=>by
           obtain ⟨v,hv,hrel⟩:=hcell i c hc
           exact ⟨v,hv,qaP hstay hII' c hm'le hrel⟩,by simp only [if_true]; exact fun i hi=>hsh1 i hi⟩
         | arr sz es fz=>
          obtain ⟨h1,h2,h3,C,e,hC,hsz,hcell,_⟩:=hat
          exact ⟨h1,h2,h3,C,e,hkh.trans hC,hsz,fun i c hc=>by
           obtain ⟨v,hv,hk,hrel⟩:=hcell i c hc
           exact ⟨v,hv,hk,qaP hstay hII' c (fun _ _ h=>h) hrel⟩,by simp only [if_true]; exact fun i hi=>hsh1 i hi⟩
         | mp kvs=>
          obtain ⟨es,clock,kvs0,hM,hC,hsz,hcell⟩:=hat
          exact ⟨es,clock,kvs0,hM,hkh.trans hC,hsz,fun i kv hkv=>by
           obtain ⟨x,hx,h1,h2⟩:=hcell i kv hkv
           exact ⟨x,hx,qaP hstay hII' _ (fun _ _ h=>h) h1,qaP hstay hII' _ (fun _ _ h=>h) h2⟩⟩
       ·intro i j b b' L L' hi hj hL hL' he
        obtain ⟨a,_,ha,_⟩:=hlk i b hi
        obtain ⟨a',_,ha',_⟩:=hlk j b' hj
        obtain ⟨L1,hL1,_⟩:=H.at_ i a ha
        obtain ⟨L2,hL2,_⟩:=H.at_ j a' ha'
        rw [hm'le i L1 hL1] at hL; cases hL
        rw [hm'le j L2 hL2] at hL'; cases hL'
        exact H.apart i j a a' _ _ ha ha' hL1 hL2 he
       ·exact hret.old
       ·exact hret.glob
      have hlkold:∀ i b,qad (if touched = true then freeze (qa0 h moved) shwn else qa0 h moved) i = some b -> ∃ a,i ∉ moved /\ qad h i = some a:=by
       intro i b hi
       split at hi
       ·rw [qcd] at hi
        split at hi
        ·simp only [Option.map_eq_some_iff] at hi
         obtain ⟨a,ha,_⟩:=hi
         exact ⟨a,hstayed i a ha⟩
        ·exact ⟨b,hstayed i b hi⟩
       ·exact ⟨b,hstayed i b hi⟩
      have holdOwn:∀ i b,qad (if touched = true then freeze (qa0 h moved) shwn else qa0 h moved) i = some b -> ∃ a L,i ∉ moved /\ qad h i = some a /\ m i = some L /\ m' i = some L /\ L.blk < w.heap.size:=fun i b hi=>by
       obtain ⟨a,hn,ha⟩:=hlkold i b hi
       obtain ⟨L,hL,hat⟩:=H.at_ i a ha
       exact ⟨a,L,hn,ha,hL,hm'le i L hL,hat.lt⟩
      have hfull:HeapAt w' I' m' (qhc (back moved nx) h0 ++ (if touched = true then freeze (qa0 h moved) shwn else qa0 h moved)):=by
       have hlk:∀ i b,qad (qhc (back moved nx) h0 ++ (if touched = true then freeze (qa0 h moved) shwn else qa0 h moved)) i = some b -> qad (qhc (back moved nx) h0) i = some b \/ qad (if touched = true then freeze (qa0 h moved) shwn else qa0 h moved) i = some b:=by
        intro i b hi
        rw [qa4] at hi
        split at hi
        ·rename_i q hq; simp at hi; subst hi; exact .inl hq
        ·exact .inr hi
       constructor
       ·intro i b hi
        rcases hlk i b hi with hi | hi
        ·exact hret.at_ i b hi
        ·exact hold.at_ i b hi
       ·intro i j a b L L' hi hj hL hL' he
        have cross:∀ i j a b L L',qad (qhc (back moved nx) h0) i = some a -> qad (if touched = true then freeze (qa0 h moved) shwn else qa0 h moved) j = some b -> m' i = some L -> m' j = some L' -> L.blk = L'.blk -> False:=by
         intro i j a b L L' hi hj hL hL' he
         obtain ⟨a',L2,hn,ha',hL2,hL2',hlt⟩:=holdOwn j b hj
         rw [hL2'] at hL'; cases hL'
         rcases hretOwn L.blk ⟨i,a,L,hi,hL,rfl⟩ with ⟨q,aq,Lq,hq,hlq,hLq,hbq⟩ | hge
         ·exact hn (H.apart q j aq a' Lq _ hlq ha' hLq hL2 (by rw [hbq,he]) ▸ hq)
         ·omega
        rcases hlk i a hi with hi | hi <;> rcases hlk j b hj with hj | hj
        ·exact hret.apart i j a b L L' hi hj hL hL' he
        ·exact (cross i j a b L L' hi hj hL hL' he).elim
        ·exact (cross j i b a L' L hj hi hL' hL he.symm).elim
        ·exact hold.apart i j a b L L' hi hj hL hL' he
       ·exact hret.old
       ·exact hret.glob
      have hafter:After w w' I I' m m' h (qhc (back moved nx) h0 ++ (if touched = true then freeze (qa0 h moved) shwn else qa0 h moved)) nx:=by
       refine ⟨hstay,hII',hm'le,fun i h1 h2=>?_,hfull,fun bk hbk hno=>aft.frame bk hbk fun ho=>hno (hOwn' bk ho),hnewI,fun bk ho=>?_,fun i b hi=>?_⟩
       ·by_cases hn:nx <= i /\ i < nx + 16
        ·exact hn
        ·rw [hm'in i hn] at h2; exact absurd h1 h2
       ·obtain ⟨i,a,L,hi,hL,rfl⟩:=ho
        rw [qa4] at hi
        split at hi
        ·rename_i q hq
         rcases hretOwn L.blk ⟨i,q,L,hq,hL,rfl⟩ with ⟨j,aj,Lj,_,hlj,hLj,hbj⟩ | hge
         ·exact .inl ⟨j,aj,Lj,hlj,hLj,hbj⟩
         ·exact .inr hge
        ·obtain ⟨a',L2,hn,ha',hL2,hL2',hlt⟩:=holdOwn i a hi
         rw [hL2'] at hL; cases hL
         exact .inl ⟨i,a',_,ha',hL2,rfl⟩
       ·rw [qa4] at hi
        split at hi
        ·rename_i q hq
         obtain ⟨j,a',hj,hji,rfl⟩:=qdG hq
         rcases qgN hji with hj' | ⟨h1,h2,rfl⟩
         ·exact .inl (hmk i (List.mem_of_getElem? hj'))
         ·exact .inr (hnx _ (by omega) (by omega))
        ·obtain ⟨a',_,ha'⟩:=hlkold i b hi
         exact .inl ⟨a',ha'⟩
      refine ⟨I',m',hafter,?_⟩
      cases r0 with
      | ret v=>
       obtain ⟨u,he,hu⟩:=hres
       exact ⟨u,he,hresult u hu⟩
      | pan v=>
       obtain ⟨u,he,hu⟩:=hres
       exact ⟨u,he,hresult u hu⟩
     ·cases hc
   ·cases hc
  ·cases hc
end
end Go.Eng
namespace Go.Eng
set_option linter.unusedSectionVars false
variable [Globs]
section
variable {P:Program} {w:World} {I:Imm} {m:Names} {h:Heap} {nx:Nat} {e:Env} {a:Act}
theorem qu9 {f:Nat} (hf:qbR P f) (args:Array Value):(callFunc f args).run P w = .ok (.enter f args) w:=by
 obtain ⟨fn,h1,h2,h3⟩:=hf
 simp only [callFunc,Sem.run_bind,run_program,Result.andThen_ok,h1,h2,h3,Bool.false_eq_true,if_false,Sem.run_pure]
theorem qcM {α:Type} {x:Option α} {g:α -> IOp} (hg:∀ y,qdD (g y) = false) {io:IOp} (h:x.map g = some io):qdD io = false:=by
 simp only [Option.map_eq_some_iff] at h
 obtain ⟨y,_,rfl⟩:=h
 exact hg y
theorem qV3 {x:Operand} {t:TypeId} {io:IOp} (h:qUs P x t = some io):qdD io = false:=by
 simp only [qUs] at h
 split at h
 ·exact qcM (fun _=>rfl) h
 ·cases h
theorem qVY {s x:Operand} {t u:TypeId} {io:IOp} (h:qUo P s x t u = some io):qdD io = false:=by
 simp only [qUo] at h
 split at h
 ·split at h
  ·split at h
   ·cases h; rfl
   ·cases h
  ·cases h
 ·cases h
theorem qV1 {x k:Operand} {t:TypeId} {io:IOp} (h:qUq P x k t = some io):qdD io = false:=by
 simp only [qUq] at h
 split at h
 ·exact qcM (fun _=>rfl) h
 ·cases h
theorem qV0 {x:Operand} {t:TypeId} {io:IOp} (h:qUp P x t = some io):qdD io = false:=by
 simp only [qUp] at h
 split at h
 ·split at h
  ·split at h
   ·cases h; rfl
   ·cases h
  ·cases h
 ·cases h
theorem qBu {bi:Builtin} {args:List Operand} {ts:List TypeId} {io:IOp} (h:qiR P bi args ts = some io):qdD io = false:=by
 simp only [qiR] at h
 split at h
 ·split at h
  ·exact qV3 h
  ·cases h
 ·split at h
  ·split at h
   ·exact qVY h
   ·cases h
  ·split at h
   ·split at h
    ·exact qV1 h
    ·cases h
   ·split at h
    ·split at h
     ·exact qV0 h
     ·cases h
    ·split at h
     ·exact qcM (fun _=>rfl) h
     ·split at h
      ·exact qcM (fun _=>rfl) h
      ·split at h
       ·split at h
        ·exact qcM (fun _=>rfl) h
        ·cases h
       ·cases h
theorem qV2 {neg:Bool} {op:BinOp} {t:TypeId} {x y:Operand} {a b:Opd} {io:IOp} (h:cEq P neg op t x y a b = some io):qdD io = false:=by
 simp only [cEq] at h
 split at h
 ·cases h
 ·split at h
  ·cases h; rfl
  ·cases h; rfl
  ·cases h; rfl
  ·split at h
   ·split at h
    ·cases h
    ·cases h; rfl
   ·cases h
  ·split at h
   ·exact qcM (fun _=>rfl) h
   ·cases h
theorem qVZ {op:BinOp} {t:TypeId} {x y:Operand} {io:IOp} (h:qXK P op t x y = some io):qdD io = false:=by
 simp only [qXK] at h
 split at h
 ·split at h
  ·exact qV2 h
  ·split at h
   ·exact qV2 h
   ·cases h; rfl
 ·cases h
theorem qV4 {fn:Fn} {a b:List Operand} {io:IOp} (h:qXL fn a b = some io):qdD io = false:=by
 simp only [qXL] at h
 split at h
 ·split at h
  ·exact qcM (fun _=>rfl) h
  ·cases h
 ·split at h
  ·exact qcM (fun _=>rfl) h
  ·cases h
 ·cases h
theorem qV5 {t:TypeId} {r:Option Operand} {io:IOp} (h:qUt P t r = some io):qdD io = false:=by
 cases r with
 | none=>cases h; rfl
 | some o=>
  cases o with
  | const v=>
   cases v with
   | int k n=>
    simp only [qUt] at h
    split at h
    ·cases h; rfl
    ·cases h
   | _=>cases h
  | _=>cases h
theorem qV6 {t:TypeId} {x:Operand} {lo hi mx:Option Operand} {io:IOp} (h:qXN P t x lo hi mx = some io):qdD io = false:=by
 simp only [qXN] at h
 split at h
 ·simp only [qQX] at h
  split at h
  ·exact qcM (fun _=>rfl) h
  ·cases h
 ·split at h
  ·exact qcM (fun _=>rfl) h
  ·cases h; rfl
  ·cases h
theorem qZv {mn:Nat -> Option String} {op:Op} (hop:∀ c,op ≠ .call c) {io:IOp} (h:cOp P mn op = some io):qdD io = false:=by
  cases op <;> simp only [cOp,reduceCtorEq] at h
  case call c=>exact absurd rfl (hop c)
  case binOp=>exact qVZ h
  case makeFunc=>exact qV4 h
  case makeMap=>exact qV5 h
  case slice=>exact qV6 h
  case move=>exact qcM (fun _=>rfl) h
  case assign=>exact qcM (fun _=>rfl) h
  case panic=>exact qcM (fun _=>rfl) h
  case nilCheck x=>
    cases x <;> simp only [qTz] at h
    · split at h <;> cases h <;> rfl
    all_goals exact qcM (fun _=>rfl) h
  case unOp=>exact qcM (fun _=>rfl) h
  case extract=>exact qcM (fun _=>rfl) h
  all_goals
    split at h
    all_goals
      first
        | (cases h; done)
        | (cases h; rfl)
        | exact qcM (fun _=>rfl) h
        | (split at h
           all_goals
             first
               | (cases h; done)
               | (cases h; rfl)
               | exact qcM (fun _=>rfl) h
               | (split at h
                  all_goals
                    first
                      | (cases h; done)
                      | (cases h; rfl)
                      | exact qcM (fun _=>rfl) h
                      | (split at h <;> first | (cases h; done) | (cases h; rfl) | exact qcM (fun _=>rfl) h)))
theorem qBo {t f:Nat} {y:Value} {name:String} (h:qTG P name t = some f) (n:Nat):(method (n + 1) t y name).run P w = .ok (f,y) w:=by
 unfold qTG at h
 split at h
 ·rename_i i hi
  split at h
  ·rename_i mt hm
   have hti:(typeInfo t).run P w = .ok i w:=by simp [typeInfo,hi]
   split at h
   ·rename_i g e hp hfn hu
    cases h
    simp only [method,Sem.run_bind,hti,Result.andThen_ok,hm,hp,follow,Sem.run_pure,hfn,receiverAt,run_underlying hu,Place.get]
   ·cases h
   ·rename_i g d hne hp hfn hu
    cases h
    simp only [method,Sem.run_bind,hti,Result.andThen_ok,hm,hp,follow,Sem.run_pure,hfn,receiverAt,run_underlying hu,Place.get]
   ·cases h
  ·cases h
 ·cases h
theorem qZ7 {IP:Prog} {call:qa7} (hcall:qef P call) (ht:qhV w I m e a) (H:HeapAt w I m h) (hnx:∀ i,nx <= i -> i < nx + 16 -> m i = none) {o:Oper} {io:IOp} {mn:Nat -> Option String} (hc:cOp P mn o.op = some io) {r:Res} {h':Heap} {b:Bool}
  (hs:opS IP call nx (qaN e) h io = some (r,h',b)) {next:Act -> World -> Prop} {Q:Exit -> Act -> World -> Prop}
  (hret:∀ v u w' I' m',r = .ret v -> After w w' I I' m m' h h' nx -> Rel w' I' v m' u -> next (a.put o.dst u) w')
  (hpan:∀ v u w' I' m',r = .pan v -> After w w' I I' m m' h h' nx -> Rel w' I' v m' u -> Q (.panic [{ v:=u,recovered:=false }]) a w'):o.wp P a w next Q:=by
 have hcalls:∀ (f:Nat) (args:List AV) (vs:List Value),qaM w I args m vs -> qgP IP call h nx f args = some (r,h',b) -> (execOp a.eval o).run P w = (callFunc f vs.toArray).run P w -> o.wp P a w next Q:=by
  intro f args vs hr hA hexec
  rcases qv6 hcall H hnx hr hA with ⟨hent,hcl⟩ | ⟨u,hrun,I',m',haft,hres⟩
  rotate_left
  ·simp only [Oper.wp,hexec,hrun,Oper.upon]
   cases r with
   | ret v=>
    obtain ⟨u',he,hu⟩:=hres
    cases he
    exact hret v u w I' m' rfl haft hu
   | pan v=>
    obtain ⟨u',he,_⟩:=hres
    cases he
  simp only [Oper.wp,hexec,qu9 hent,Oper.upon]
  refine hcl.mono ?_
  rintro e' w' ⟨I',m',haft,hres⟩
  cases r with
  | ret v=>
   obtain ⟨u,rfl,hu⟩:=hres
   exact hret v u w' I' m' rfl haft hu
  | pan v=>
   obtain ⟨u,rfl,hu⟩:=hres
   exact hpan v u w' I' m' rfl haft hu
 by_cases hnc:qdD io = true
 ·
  obtain ⟨dst,op,type,pos,after,guard⟩:=o
  cases op
  case call c=>
   obtain ⟨callee,args,ts⟩:=c
   cases callee
   case invoke rv name=>
    simp only [cOp,qv4,qYO] at hc
    have hmap:args.map a.eval = (args.toList.map a.eval).toArray:=by apply Array.ext'; simp
    split at hc
    ·rename_i x ys hx hys
     cases hc
     simp only [opS] at hs
     split at hs
     ·rename_i t v hv
      split at hs
      ·rename_i f hf
       have hrr:=qay ht hx
       rw [hv] at hrr
       simp only [Rel] at hrr
       obtain ⟨y,hy,hrv⟩:=hrr
       refine hcalls f _ (y :: args.toList.map a.eval) (by simp only [qaM]; exact ⟨_,_,rfl,hrv,qez ht hys⟩) hs ?_
       have hm:=qBo (P:=P) (w:=w) (y:=y) (qro P hf) (P.types.size + Made.depth - 1)
       simp only [execOp,resolve,Sem.run_bind,Sem.run_pure,Result.andThen_ok,invoke]
       rw [hmap,hy]
       simp only [List.append_toArray,List.cons_append,List.nil_append,List.getElem?_toArray,List.getElem?_cons_zero,callMethod,Sem.run_bind,run_program,Result.andThen_ok]
       rw [show P.types.size + Made.depth = P.types.size + Made.depth - 1 + 1 by simp only [Made.depth]; omega,hm]
       simp
       rw [List.take_of_length_le (by simp)]
      ·cases hs
     ·cases hs
    ·cases hc
   case builtin bi=>
    have:=qBu (by simpa [cOp,qv4] using hc)
    rw [this] at hnc; cases hnc
   case value f=>
    simp only [cOp,qv4,qv5] at hc
    have hmap:args.map a.eval = (args.toList.map a.eval).toArray:=by apply Array.ext'; simp
    cases f <;> simp only [reduceCtorEq,Option.map_eq_some_iff] at hc
    case tmp t=>
     obtain ⟨ys,hys,rfl⟩:=hc
     simp only [opS] at hs
     split at hs
     ·rename_i f cap hf
      have hfr:=ht t
      simp only [qaN] at hf
      rw [hf] at hfr
      simp only [Rel] at hfr
      obtain ⟨cs,hcs,hrc⟩:=hfr
      refine hcalls f _ (args.toList.map a.eval ++ cs) (qdw (qez ht hys) hrc) hs ?_
      have hev:a.eval (.tmp t) = .func (.func f) #[] cs.toArray:=hcs
      simp only [execOp,resolve,Deferred.ofValue,hev,Sem.run_bind,Sem.run_pure,Result.andThen_ok,invoke]
      rw [hmap]
      simp
     ·cases hs
    case func f=>
     obtain ⟨ys,hys,rfl⟩:=hc
     simp only [opS] at hs
     refine hcalls f _ (args.toList.map a.eval) (qqe (qez ht hys)) hs ?_
     have hev:a.eval (.func f) = .func (.func f) #[] #[]:=rfl
     simp only [execOp,resolve,Deferred.ofValue,hev,Sem.run_bind,Sem.run_pure,Result.andThen_ok,invoke]
     rw [hmap]
     simp
  all_goals
   have:=qZv (fun c h=>by cases h) hc
   rw [this] at hnc; cases hnc
 ·have hout:=qKV (P:=P) ht H (hnx nx (Nat.le_refl _) (by omega)) hc (by simpa using hnc) hs
  cases r with
  | ret v=>
   obtain ⟨n,w',I',m',hrun,haft,hn⟩:=hout
   simp only [Oper.wp,hrun]
   rcases hn with ⟨u,rfl,hu⟩ | ⟨rfl,rfl⟩
   ·exact hret v u w' I' m' rfl haft hu
   ·exact hret unit undef w' I' m' rfl haft (by simp [unit,undef,Rel,qaM])
  | pan v=>
   obtain ⟨rfl,u,hrun,hu⟩:=hout
   simp only [Oper.wp,hrun]
   exact hpan v u w I m rfl (After.same H) hu
end
end Go.Eng
namespace Go.Eng
set_option linter.unusedSectionVars false
variable [Globs]
section
variable {P:Program} {w:World} {I:Imm} {m:Names} {h:Heap} {nx:Nat} {e:Env} {a:Act}
theorem HeapAt.congr {h':Heap} (H:HeapAt w I m h) (hs:∀ i,qad h' i = qad h i):HeapAt w I m h':=
 H.sub' fun i b hi=>by rw [<- hs i]; exact hi
theorem Owns.congr {h':Heap} {b:Nat} (hs:∀ i,qad h' i = qad h i):Owns m h' b ↔ Owns m h b:=by
 constructor
 ·rintro ⟨i,a,L,hi,hL,rfl⟩; exact ⟨i,a,L,by rw [<- hs i]; exact hi,hL,rfl⟩
 ·rintro ⟨i,a,L,hi,hL,rfl⟩; exact ⟨i,a,L,by rw [hs i]; exact hi,hL,rfl⟩
theorem Aft.refl (H:HeapAt w I m h):Aft w w I I m m h h:=
 ⟨Stays.refl w I,fun _ _ h=>h,fun _ _ h=>h,H,fun _ _ _=>rfl,fun _ _ h=>.inl h,fun _ h=>.inl h⟩
theorem Aft.trans {w1 w2:World} {I1 I2:Imm} {m1 m2:Names} {h1 h2:Heap} (a:Aft w w1 I I1 m m1 h h1) (b:Aft w1 w2 I1 I2 m1 m2 h1 h2):Aft w w2 I I2 m m2 h h2 where
 stays:=a.stays.trans b.stays a.imm
 imm:=fun _ _ h=>b.imm _ _ (a.imm _ _ h)
 names:=fun _ _ h=>b.names _ _ (a.names _ _ h)
 heap:=b.heap
 frame:=fun k hk hno=>by
  have h1':¬ Owns m1 h1 k:=fun ho=>by
   rcases a.owns k ho with ho | hge
   ·exact hno ho
   ·omega
  exact (b.frame k (Nat.lt_of_lt_of_le hk a.stays.size) h1').trans (a.frame k hk hno)
 newI:=fun k o hi=>by
  rcases b.newI k o hi with hi | ho | hge
  ·exact a.newI k o hi
  ·rcases a.owns k ho with ho | hge
   ·exact .inr (.inl ho)
   ·exact .inr (.inr hge)
  ·exact .inr (.inr (Nat.le_trans a.stays.size hge))
 owns:=fun k ho=>by
  rcases b.owns k ho with ho | hge
  ·exact a.owns k ho
  ·exact .inr (Nat.le_trans a.stays.size hge)
theorem Aft.congr {w':World} {I':Imm} {m':Names} {h1 h2:Heap} (a:Aft w w' I I' m m' h h1) (hs:∀ i,qad h2 i = qad h1 i):Aft w w' I I' m m' h h2:=
 ⟨a.stays,a.imm,a.names,a.heap.congr hs,a.frame,a.newI,fun b ho=>a.owns b ((Owns.congr hs).1 ho)⟩
theorem After.lift {w':World} {I':Imm} {m':Names} {r:List Nat} {h1:Heap} (H:HeapAt w I m h) (a:After w w' I I' m m' (sub h r) h1 nx):Aft w w' I I' m m' h (h1 ++ qa0 h r):=by
 have hown:∀ b,Owns m (sub h r) b -> ∃ i x L,i ∈ r /\ qad h i = some x /\ m i = some L /\ L.blk = b:=by
  rintro b ⟨i,x,L,hi,hL,rfl⟩
  rw [qbJ] at hi
  split at hi
  ·exact ⟨i,x,L,by assumption,hi,hL,rfl⟩
  ·cases hi
 have hown':∀ b,Owns m (sub h r) b -> Owns m h b:=fun b ho=>by
  obtain ⟨i,x,L,_,h1,h2,h3⟩:=hown b ho; exact ⟨i,x,L,h1,h2,h3⟩
 have hrest:∀ i x,qad (qa0 h r) i = some x -> i ∉ r /\ qad h i = some x:=fun i x hi=>by
  rw [qbt] at hi
  split at hi
  ·cases hi
  ·exact ⟨by assumption,hi⟩
 have hnot:∀ i x L,i ∉ r -> qad h i = some x -> m i = some L -> ¬ Owns m (sub h r) L.blk:=fun i x L hn hi hL ho=>by
  obtain ⟨j,y,L',hj,hlj,hLj,he⟩:=hown _ ho
  exact hn (H.apart i j x y L L' hi hlj hL hLj he.symm ▸ hj)
 have hlk:∀ i b,qad (h1 ++ qa0 h r) i = some b -> qad h1 i = some b \/ (qad h1 i = none /\ qad (qa0 h r) i = some b):=by
  intro i b hi
  rw [qa4] at hi
  split at hi
  ·rename_i q hq; simp at hi; subst hi; exact .inl hq
  ·rename_i hq; exact .inr ⟨hq,hi⟩
 refine ⟨a.stays,a.imm,a.names,⟨fun i b hi=>?_,fun i j x y L L' hi hj hL hL' he=>?_,a.heap.old,a.heap.glob⟩,fun b hb hno=>a.frame b hb fun ho=>hno (hown' b ho),fun b o hi=>?_,fun b ho=>?_⟩
 ·rcases hlk i b hi with hi | ⟨_,hi⟩
  ·exact a.heap.at_ i b hi
  ·obtain ⟨hn,hi⟩:=hrest i b hi
   obtain ⟨L,hL,hat⟩:=H.at_ i b hi
   refine ⟨L,a.names i L hL,hat.keep a.stays a.imm a.names (a.frame _ hat.lt (hnot i b L hn hi hL)) fun o ho=>?_⟩
   rcases a.newI _ _ ho with h1 | h1 | h1
   ·exact h1
   ·exact absurd h1 (hnot i b L hn hi hL)
   ·have:=hat.lt; omega
 ·have cross:∀ i j x y L L',qad h1 i = some x -> qad (qa0 h r) j = some y -> m' i = some L -> m' j = some L' -> L.blk = L'.blk -> False:=by
   intro i j x y L L' hi hj hL hL' he
   obtain ⟨hn,hj⟩:=hrest j y hj
   obtain ⟨L2,hL2,hat⟩:=H.at_ j y hj
   have:=a.names j L2 hL2
   rw [this] at hL'; cases hL'
   rcases a.owns L.blk ⟨i,x,L,hi,hL,rfl⟩ with ho | hge
   ·exact hnot j y _ hn hj hL2 (he ▸ ho)
   ·have:=hat.lt; omega
  rcases hlk i x hi with hi | ⟨_,hi⟩ <;> rcases hlk j y hj with hj | ⟨_,hj⟩
  ·exact a.heap.apart i j x y L L' hi hj hL hL' he
  ·exact (cross i j x y L L' hi hj hL hL' he).elim
  ·exact (cross j i y x L' L hj hi hL' hL he.symm).elim
  ·obtain ⟨_,hi⟩:=hrest i x hi
   obtain ⟨_,hj⟩:=hrest j y hj
   obtain ⟨L1,hL1,_⟩:=H.at_ i x hi
   obtain ⟨L2,hL2,_⟩:=H.at_ j y hj
   rw [a.names i L1 hL1] at hL; cases hL
   rw [a.names j L2 hL2] at hL'; cases hL'
   exact H.apart i j x y _ _ hi hj hL1 hL2 he
 ·rcases a.newI b o hi with h1 | h1 | h1
  ·exact .inl h1
  ·exact .inr (.inl (hown' b h1))
  ·exact .inr (.inr h1)
 ·obtain ⟨i,x,L,hi,hL,rfl⟩:=ho
  rcases hlk i x hi with hi | ⟨_,hi⟩
  ·rcases a.owns _ ⟨i,x,L,hi,hL,rfl⟩ with h1 | h1
   ·exact .inl (hown' _ h1)
   ·exact .inr h1
  ·obtain ⟨_,hi⟩:=hrest i x hi
   obtain ⟨L1,hL1,_⟩:=H.at_ i x hi
   rw [a.names i L1 hL1] at hL; cases hL
   exact .inl ⟨i,x,_,hi,hL1,rfl⟩
theorem qfu (r:List Nat):∀ (h:Heap) (j:Nat),qad (news r h) j = if j ∈ r then none else qad h j
 | [],j=>by simp [news,qad]
 | (i,b) :: h,j=>by
  simp only [news]
  by_cases hc:r.contains i = true
  ·rw [if_pos hc,qfu r h j]
   have:i ∈ r:=by simpa using hc
   by_cases hj:j ∈ r
   ·simp [hj]
   ·have:j ≠ i:=fun e=>hj (e ▸ this)
    simp [hj,qad,this]
  ·rw [if_neg hc]
   have hn:i ∉ r:=by simpa using hc
   simp only [qad,qfu r h j]
   by_cases e:j = i
   ·subst e; simp [hn]
   ·simp [e]
theorem quiet {IP:Prog} {call:qa7} {io:IOp} {r:Res} {h':Heap} (hfree:∀ i,nx <= i -> i < nx + 16 -> qad h i = none) (hs:opS IP call nx (qaN e) h io = some (r,h',false)):∀ i b,qad h i = some b -> qad h' i = some b:=by
  have put:∀ b',h' = qch h nx b' -> ∀ i b,qad h i = some b -> qad h' i = some b:=by
    intro b' he i b hi
    subst he
    rw [qa6]
    have:i ≠ nx:=fun e=>by rw [e,hfree nx (Nat.le_refl _) (by omega)] at hi; cases hi
    simp [this,hi]
  have same:h' = h -> ∀ i b,qad h i = some b -> qad h' i = some b:=fun he i b hi=>he ▸ hi
  have hval:∀ {v:AV} {b:Bool},val v h = some (r,h',b) -> h' = h:=fun hv=>by simp [val] at hv; exact hv.2.1.symm
  have hvalO:∀ {v:Option AV} {b:Bool},qvs v h = some (r,h',b) -> h' = h:=fun hv=>by
    rename_i v b; cases v <;> simp [qvs] at hv; exact hv.2.1.symm
  have hcall:∀ f args,qgP IP call h nx f args = some (r,h',false) -> ∀ i b,qad h i = some b -> qad h' i = some b:=by
    intro f args hc i b hi
    simp only [qgP] at hc
    split at hc
    · cases hc
    · split at hc
      · rename_i moved shwn hmv hsh
        split at hc
        · split at hc
          · cases hc
          · rename_i r0 h0 hcl
            split at hc
            · rename_i hall
              simp only [Option.some.injEq,Prod.mk.injEq,Bool.or_eq_false_iff] at hc
              obtain ⟨_,rfl,hm,ht⟩:=hc
              have hmn:moved = []:=by simpa using hm
              subst hmn
              rw [qa4]
              have hnone:qad (qhc (back [] nx) h0) i = none:=by
                cases hq:qad (qhc (back [] nx) h0) i with
                | none=>rfl
                | some q=>
                  obtain ⟨j,a',_,hji,_⟩:=qdG hq
                  rcases qgN hji with hj' | ⟨h1,h2,h3⟩
                  · simp at hj'
                  · simp at h2 h3
                    rw [hfree i (by omega) (by omega)] at hi; cases hi
              rw [hnone]
              simp only [ht,Bool.false_eq_true,if_false,qa0]
              exact hi
            · cases hc
        · cases hc
      · cases hc
  cases io <;> simp only [opS] at hs
  case call f args=>exact hcall _ _ hs
  case callv fv args=>
    split at hs
    · exact hcall _ _ hs
    · cases hs
  case invk tbl x args=>
    split at hs
    · split at hs
      · exact hcall _ _ hs
      · cases hs
    · cases hs
  case alloc=>simp at hs; exact put _ hs.2.symm
  case box=>
    split at hs
    · simp at hs; exact put _ hs.2.symm
    · cases hs
  case mkm=>simp at hs; exact put _ hs.2.symm
  case slc3=>
    repeat' (split at hs)
    all_goals first | (cases hs; done) | exact same (hval hs)
  case mks=>
    split at hs
    · split at hs
      · simp at hs; exact put _ hs.2.symm
      · cases hs
    · cases hs
  all_goals
    first
      | exact same (hval hs)
      | exact same (hvalO hs)
      | (split at hs
         all_goals
           first
             | (cases hs; done)
             | exact same (hval hs)
             | exact same (hvalO hs)
             | (simp at hs; done)
             | (split at hs
                all_goals
                  first
                    | (cases hs; done)
                    | exact same (hval hs)
                    | exact same (hvalO hs)
                    | (simp at hs; done)
                    | (split at hs
                       all_goals
                         first
                           | (cases hs; done)
                           | exact same (hval hs)
                           | exact same (hvalO hs)
                           | (simp at hs; done)
                           | (split at hs <;> first | (cases hs; done) | exact same (hval hs) | exact same (hvalO hs) | (simp at hs; done)))))
theorem qQy {w':World} {I':Imm} {m':Names} (ht:qhV w' I' m' e a) {v:AV} {u:Value} (hu:Rel w' I' v m' u) {dst:Option Nat} (hd:∀ d,dst = some d -> d < a.tmps.size):qhV w' I' m' (qxf e dst v) (a.put dst u):=by
 cases dst with
 | none=>exact ht
 | some d=>
  have hlt:=hd d rfl
  intro t
  simp only [qxf,qbO,Act.put]
  by_cases ht':t = d
  ·subst ht'
   simp [hlt,hu]
  ·rw [if_neg ht']
   have:=ht t
   simpa [Array.getElem?_setIfInBounds,Ne.symm ht'] using this
theorem qxC {w':World} {I':Imm} {m':Names} (ht:qhV w I m e a) (s:Stays w w' I) (hI:∀ b o,I b o -> I' b o) (hm:∀ i L,m i = some L -> m' i = some L):qhV w' I' m' e a:=
 fun t=>qaP s hI _ hm (ht t)
end
end Go.Eng
namespace Go.Eng
set_option linter.unusedSectionVars false
class Dfs where
 ds:List Deferred
variable [Globs] [Dfs]
section
variable {P:Program} {hint:Nat -> Nat} {w:World} {I:Imm} {m:Names} {h:Heap} {nx:Nat} {e:Env} {a:Act}
structure Fr (k:Nat) (w w':World) (I I':Imm) (m m':Names) (h h':Heap):Prop where
 stays:Stays w w' I
 imm:∀ b o,I b o -> I' b o
 names:∀ i L,i < k -> m i = some L -> m' i = some L
 frame:∀ b,b < w.heap.size -> ¬ Owns m h b -> w'.heap[b]? = w.heap[b]?
 newI:∀ b o,I' b o -> I b o \/ Owns m h b \/ w.heap.size <= b
 owns:∀ b,Owns m' h' b -> Owns m h b \/ w.heap.size <= b
theorem Fr.refl (k:Nat):Fr k w w I I m m h h:=
 ⟨Stays.refl w I,fun _ _ h=>h,fun _ _ _ h=>h,fun _ _ _=>rfl,fun _ _ h=>.inl h,fun _ h=>.inl h⟩
theorem Aft.fr {w':World} {I':Imm} {m':Names} {h':Heap} (a:Aft w w' I I' m m' h h') (k:Nat):Fr k w w' I I' m m' h h':=
 ⟨a.stays,a.imm,fun i L _ h=>a.names i L h,a.frame,a.newI,a.owns⟩
theorem Fr.trans {k:Nat} {w1 w2:World} {I1 I2:Imm} {m1 m2:Names} {h1 h2:Heap} (a:Fr k w w1 I I1 m m1 h h1) (b:Fr k w1 w2 I1 I2 m1 m2 h1 h2):Fr k w w2 I I2 m m2 h h2 where
 stays:=a.stays.trans b.stays a.imm
 imm:=fun _ _ h=>b.imm _ _ (a.imm _ _ h)
 names:=fun _ _ hk h=>b.names _ _ hk (a.names _ _ hk h)
 frame:=fun k hk hno=>by
  have h1':¬ Owns m1 h1 k:=fun ho=>by
   rcases a.owns k ho with ho | hge
   ·exact hno ho
   ·omega
  exact (b.frame k (Nat.lt_of_lt_of_le hk a.stays.size) h1').trans (a.frame k hk hno)
 newI:=fun k o hi=>by
  rcases b.newI k o hi with hi | ho | hge
  ·exact a.newI k o hi
  ·rcases a.owns k ho with ho | hge
   ·exact .inr (.inl ho)
   ·exact .inr (.inr hge)
  ·exact .inr (.inr (Nat.le_trans a.stays.size hge))
 owns:=fun k ho=>by
  rcases b.owns k ho with ho | hge
  ·exact a.owns k ho
  ·exact .inr (Nat.le_trans a.stays.size hge)
structure Fits (w:World) (I:Imm) (m:Names) (e:Env) (h:Heap) (nx n:Nat) (a:Act):Prop where
 tm:qhV w I m e a
 hp:HeapAt w I m h
 nx:∀ i,nx <= i -> m i = none
 sz:n <= a.tmps.size
 df:a.defers = Dfs.ds
def qtc (ops:Array Oper):Option (Nat × Bool) -> Option (Option (Nat × Bool))
 | none=>some none
 | some (j,want)=>match (ops[j]?).bind (·.dst) with
  | some d=>some (some (d,want))
  | none=>none
def q06 (n:Nat):Option Nat -> Bool
 | none=>true
 | some d=>decide (d < n)
def retag (hint:Nat -> Nat) (dst:Option Nat):IOp -> IOp
 | .mov (.c (.nils q))=>.mov (.c (.nils ⟨match dst with | some d=>hint d | none=>q.sz,q.kd⟩))
 | op=>op
theorem qIz {IP:Prog} {call:qa7} {dst:Option Nat} {ev:Opd -> AV} (hev:∀ v,ev (.c v) = v) {op:IOp} {nx:Nat} {h:Heap} {x:Res} {out:Heap} {b:Bool} (hx:opS IP call nx ev h (retag hint dst op) = some (x,out,b)) :
  ∃ x0,opS IP call nx ev h op = some (x0,out,b) /\ (x = x0 \/ ∃ j k,x = .ret (.nils j) /\ x0 = .ret (.nils k) /\ j.kd = k.kd):=by
 unfold retag at hx
 split at hx
 ·rename_i k
  simp only [opS,val,hev,Option.some.injEq,Prod.mk.injEq] at hx ⊢
  obtain ⟨rfl,rfl,rfl⟩:=hx
  exact ⟨_,⟨rfl,rfl,rfl⟩,.inr ⟨_,_,rfl,rfl,rfl⟩⟩
 ·exact ⟨x,hx,.inl rfl⟩
def qXW (ops:Array Oper) (t:Nat):Option String:=match ops.toList.find? (fun o=>o.dst == some t) with
 | some o=>match o.op with
  | .makeFunc (.method s) _ _=>some s
  | _=>none
 | none=>none
def qrU:IOp:=.pan (.c .junk)
def qzS (P:Program) (hint:Nat -> Nat) (n:Nat) (ops:Array Oper) (o:Oper):Option IOper:=
 if q06 n o.dst then match qtc ops o.guard with
  | some g=>some ⟨o.dst,retag hint o.dst ((cOp P (qXW ops) o.op).getD qrU),g⟩
  | none=>none
 else none
def qgO (P:Program) (hint:Nat -> Nat) (n:Nat) (ops:Array Oper):List Oper -> Option (List IOper)
 | []=>some []
 | o :: os=>match qzS P hint n ops o,qgO P hint n ops os with
  | some x,some xs=>some (x :: xs)
  | _,_=>none
theorem qzT {n:Nat} {ops:Array Oper} {o:Oper} {io:IOper} (h:qzS P hint n ops o = some io) :
  io.dst = o.dst /\ (∀ d,o.dst = some d -> d < n) /\ (∃ op,(cOp P (qXW ops) o.op = some op \/ op = qrU) /\ io.op = retag hint o.dst op) /\ qtc ops o.guard = some io.guard:=by
 simp only [qzS] at h
 split at h
 ·rename_i hd
  split at h
  ·rename_i g h2
   cases h
   refine ⟨rfl,fun d he=>?_,⟨_,?_,rfl⟩,h2⟩
   rotate_left
   ·cases cOp P (qXW ops) o.op with
    | none=>exact .inr rfl
    | some op=>exact .inl rfl
   rw [he] at hd
   simpa [q06] using hd
  ·cases h
 ·cases h
theorem qcl {n:Nat} {ops:Array Oper}:∀ {os:List Oper} {ios:List IOper},qgO P hint n ops os = some ios -> ios.length = os.length
 | [],ios,h=>by simp [qgO] at h; subst h; rfl
 | o :: os,ios,h=>by
  simp only [qgO] at h
  split at h
  ·rename_i x xs h1 h2
   cases h
   simp [qcl h2]
  ·cases h
theorem qfk {n:Nat} {ops:Array Oper}:∀ {os:List Oper} {ios:List IOper},qgO P hint n ops os = some ios -> ∀ (i:Nat) (o:Oper),os[i]? = some o -> ∃ io,ios[i]? = some io /\ qzS P hint n ops o = some io
 | [],ios,_,i,o,ho=>by simp at ho
 | o :: os,ios,h,i,o',ho=>by
  simp only [qgO] at h
  split at h
  ·rename_i x xs h1 h2
   cases h
   cases i with
   | zero=>simp at ho; subst ho; exact ⟨x,rfl,h1⟩
   | succ i=>simpa using qfk h2 i o' (by simpa using ho)
  ·cases h
theorem qoT (ht:qhV w I m e a) {ops:Array Oper} {o:Oper} {g:Option (Nat × Bool)} (hg:qtc ops o.guard = some g) {b:Bool} (hw:qht e g = some b):Region.wanted o (yielded ops a.tmps) = b:=by
 cases hog:o.guard with
 | none=>
  rw [hog] at hg
  simp [qtc] at hg; subst hg
  simp [qht] at hw; subst hw
  simp [Region.wanted,hog]
 | some jw=>
  obtain ⟨j,want⟩:=jw
  rw [hog] at hg
  simp only [qtc] at hg
  split at hg
  ·rename_i d hd
   cases hg
   have hr:=ht d
   simp only [qht] at hw
   split at hw
   ·rename_i t htt
    rw [htt] at hr
    simp only [Rel] at hr
    have hs:a.tmps[d]? = some (.bool t):=by
     cases hq:a.tmps[d]? with
     | none=>simp [hq,undef] at hr
     | some v=>simp [hq] at hr; rw [hr]
    simp at hw; subst hw
    simp [Region.wanted,hog,yielded,hd,hs]
   ·rename_i htt
    rw [htt] at hr
    simp only [Rel,qaM] at hr
    obtain ⟨vs,hv,hvs⟩:=hr
    subst hvs
    simp at hw; subst hw
    have hy:yielded ops a.tmps j = none:=by
     simp only [yielded,hd,Option.bind_some]
     cases hq:a.tmps[d]? with
     | none=>rfl
     | some v=>simp [hq] at hv; subst hv; rfl
    simp [Region.wanted,hog,hy]
   ·cases hw
  ·cases hg
end
end Go.Eng
namespace Go.Eng
set_option linter.unusedSectionVars false
variable [Globs] [Dfs]
section
variable {P:Program} {hint:Nat -> Nat} {w:World} {I:Imm} {m:Names} {h:Heap} {nx:Nat} {e:Env} {a:Act}
theorem Fits.hnone {n:Nat} (F:Fits w I m e h nx n a):∀ i,nx <= i -> qad h i = none:=by
 intro i hi
 cases hq:qad h i with
 | none=>rfl
 | some b=>
  obtain ⟨L,hL,_⟩:=F.hp.at_ i b hq
  rw [F.nx i hi] at hL; cases hL
theorem qzr (a:Act) (dst:Option Nat) (v:Value):(a.put dst v).tmps.size = a.tmps.size:=by
 cases dst <;> simp [Act.put]
theorem put_defers (a:Act) (dst:Option Nat) (v:Value):(a.put dst v).defers = a.defers:=by
 cases dst <;> simp [Act.put]
theorem qgw {IP:Prog} {call:qa7} (hcall:qef P call) {n:Nat} (ht:qhV w I m e a) (H:HeapAt w I m h) (hfree:∀ i,nx <= i -> i < nx + 16 -> m i = none) (hsz:n <= a.tmps.size) {ops:Array Oper} {o:Oper} {io:IOper} (hc:qzS P hint n ops o = some io) {s:Step} (hs:qb9 IP call nx io e h = some s)
  {next:Act -> World -> Prop} {Q:Exit -> Act -> World -> Prop}
  (hret:∀ a' w' I' m',(∀ r v out,s ≠ .pan r v out) -> Aft w w' I I' m m' h (qaR h s) -> qhV w' I' m' (qbq e io.dst s) a' -> (∀ i,m i = none -> m' i ≠ none -> nx <= i /\ i < nx + 16) -> a'.tmps.size = a.tmps.size -> a'.defers = a.defers -> next a' w')
  (hpan:∀ r v out u w' I' m',s = .pan r v out -> Aft w w' I I' m m' h (qaR h s) -> Rel w' I' v m' u -> Q (.panic [{ v:=u,recovered:=false }]) a w') :
  (Region.wanted o (yielded ops a.tmps) = true /\ o.wp P a w next Q) \/ (Region.wanted o (yielded ops a.tmps) = false /\ next (a.put o.dst undef) w):=by
 obtain ⟨hdst,hd,⟨op0,hop,hio⟩,hg⟩:=qzT hc
 have hnone:∀ i,nx <= i -> i < nx + 16 -> qad h i = none:=by
  intro i h1 h2
  cases hq:qad h i with
  | none=>rfl
  | some b=>
   obtain ⟨L,hL,_⟩:=H.at_ i b hq
   rw [hfree i h1 h2] at hL; cases hL
 simp only [qb9] at hs
 split at hs
 ·cases hs
 ·rename_i hw
  cases hs
  refine .inr ⟨qoT ht hg hw,hret _ _ I m (by simp) (Aft.refl H) ?_ (fun i h1 h2=>absurd h1 h2) (qzr _ _ _) (put_defers _ _ _)⟩
  simp only [qbq]
  rw [hdst]
  exact qQy ht (by simp [unit,undef,Rel,qaM]) fun d he=>Nat.lt_of_lt_of_le (hd d he) hsz
 ·rename_i hw
  refine .inl ⟨qoT ht hg hw,?_⟩
  split at hs
  ·cases hs
  ·rename_i r hr
   have H':HeapAt w I m (sub h r):=H.sub' fun i b hi=>by
    rw [qbJ] at hi
    split at hi
    ·exact hi
    ·cases hi
   have hres:∀ (x:Res) (out:Heap) (b:Bool) , opS IP call nx (qaN e) (sub h r) io.op = some (x,out,b) -> s = (match x with | .ret v=>.did r b v out | .pan v=>.pan r v out) -> o.wp P a w next Q:=by
    intro x out b hop' hsx
    have hop2:=hop'
    rw [hio] at hop2
    obtain ⟨x0,hop0,hxx⟩:=qIz (fun _=>rfl) hop2
    have hop:cOp P (qXW ops) o.op = some op0:=by
     rcases hop with hop | hst
     ·exact hop
     ·subst hst; simp [qrU,opS,qaN] at hop0
    refine qZ7 hcall ht H' hfree hop hop0 ?_ ?_
    ·rintro v0 u w' I' m' rfl ha hu0
     obtain ⟨v,hxv,hu⟩:∃ v,x = .ret v /\ Rel w' I' v m' u:=by
      rcases hxx with rfl | ⟨j,k,rfl,he,hkd⟩
      ·exact ⟨_,rfl,hu0⟩
      ·cases he
       exact ⟨_,rfl,by simp only [Rel] at hu0 ⊢; rw [hkd]; exact hu0⟩
     subst hxv
     have hA:=ha.lift H
     have heq:∀ i,qad (qaR h s) i = qad (out ++ qa0 h r) i:=by
      intro i
      rw [hsx]
      simp only [qaR]
      cases b with
      | true=>simp
      | false=>
       simp only [Bool.false_eq_true,if_false,qa4,qfu,qbt]
       by_cases hi:i ∈ r
       ·obtain ⟨_,_,hb⟩:=qhH hr
        obtain ⟨q,hq⟩:=hb i hi
        have hsub:qad (sub h r) i = some q:=by rw [qbJ,if_pos hi,hq]
        have:=quiet (fun j h1 h2=>by
         rw [qbJ]
         split
         ·exact hnone j h1 h2
         ·rfl) hop' i q hsub
        simp [hi,hq,this]
       ·simp [hi]
     refine hret _ _ I' m' (by rw [hsx]; simp) (hA.congr heq) ?_ ha.fresh (qzr _ _ _) (put_defers _ _ _)
     rw [hsx]
     simp only [qbq]
     rw [hdst]
     exact qQy (qxC ht ha.stays ha.imm ha.names) hu fun d he=>Nat.lt_of_lt_of_le (hd d he) hsz
    ·rintro v u w' I' m' rfl ha hu
     obtain rfl:x = .pan v:=by
      rcases hxx with rfl | ⟨j,k,rfl,he,_⟩
      ·rfl
      ·cases he
     refine hpan r v out u w' I' m' hsx ?_ hu
     rw [hsx]
     exact ha.lift H
   split at hs
   ·cases hs
   ·rename_i v out b hop'
    cases hs
    exact hres _ _ _ hop' rfl
   ·rename_i v out b hop'
    cases hs
    exact hres _ _ _ hop' rfl
theorem qBI {IP:Prog} {call:qa7} (hcall:qef P call) {n:Nat} (F:Fits w I m e h nx n a) {ops:Array Oper} {o:Oper} {io:IOper} (hc:qzS P hint n ops o = some io) {s:Step} (hs:qb9 IP call nx io e h = some s)
  {next:Act -> World -> Prop} {Q:Exit -> Act -> World -> Prop}
  (hret:∀ a' w' I' m',(∀ r v out,s ≠ .pan r v out) -> Aft w w' I I' m m' h (qaR h s) -> Fits w' I' m' (qbq e io.dst s) (qaR h s) (nx + 16) n a' -> next a' w')
  (hpan:∀ r v out u w' I' m',s = .pan r v out -> Aft w w' I I' m m' h (qaR h s) -> Rel w' I' v m' u -> Q (.panic [{ v:=u,recovered:=false }]) a w') :
  (Region.wanted o (yielded ops a.tmps) = true /\ o.wp P a w next Q) \/ (Region.wanted o (yielded ops a.tmps) = false /\ next (a.put o.dst undef) w):=by
 refine qgw hcall F.tm F.hp (fun i h1 _=>F.nx i h1) F.sz hc hs ?_ hpan
 intro a' w' I' m' hnp hA ht' hfr hsz hdf
 refine hret a' w' I' m' hnp hA ⟨ht',hA.heap,fun i hi=>?_,by rw [hsz]; exact F.sz,by rw [hdf]; exact F.df⟩
 cases hq:m' i with
 | none=>rfl
 | some L=>
  have:=hfr i (F.nx i (by omega)) (by rw [hq]; simp)
  omega
def Ends (w:World) (I:Imm) (m:Names) (h:Heap) (k n:Nat) (x:X) (s:St) (e:Exit) (a:Act) (w':World):Prop:=
 ∃ I' m',Fr k w w' I I' m m' h s.hp /\ match x with
  | .normal=>e = .normal /\ Fits w' I' m' s.tm s.hp s.nx n a
  | .exit id=>e = .exit id /\ Fits w' I' m' s.tm s.hp s.nx n a
  | .ret=>e = .ret /\ Fits w' I' m' s.tm s.hp s.nx n a
  | .pan v=>a.defers = Dfs.ds /\ HeapAt w' I' m' s.hp /\ qhV w' I' m' s.tm a /\ ∃ u,e = .panic [{ v:=u,recovered:=false }] /\ Rel w' I' v m' u
theorem Ends.after {k n:Nat} {w1:World} {I1:Imm} {m1:Names} {h1:Heap} {x:X} {s:St} {e:Exit} {a:Act} {w':World} (f:Fr k w w1 I I1 m m1 h h1) (E:Ends w1 I1 m1 h1 k n x s e a w'):Ends w I m h k n x s e a w':=by
 obtain ⟨I',m',f',hx⟩:=E
 exact ⟨I',m',f.trans f',hx⟩
theorem qoM (c d t:Nat):∀ e:Env,qbO (qdq c d e) t = qbO e t \/ qbO (qdq c d e) t = .junk
 | []=>.inl rfl
 | (j,v) :: e=>by
  simp only [qdq]
  split
  ·rename_i hb
   by_cases htj:t = j
   ·right
    subst htj
    have:∀ e:Env,qbO (qdq c d e) t = .junk:=by
     intro e
     induction e with
     | nil=>rfl
     | cons x e ih=>
      obtain ⟨j,v⟩:=x
      simp only [qdq]
      split
      ·exact ih
      ·rename_i hb'
       have hne:t ≠ j:=fun he=>by rw [he] at hb; rw [hb] at hb'; cases hb'
       simp only [qbO,if_neg hne,ih]
    exact this e
   ·have:=qoM c d t e
    simp only [qbO,if_neg htj]; exact this
  ·by_cases htj:t = j
   ·left; simp [qbO,htj]
   ·have:=qoM c d t e
    simp only [qbO,if_neg htj]; exact this
theorem qIX (o:IOper) (e:Env) (t:Nat):qbO (qhY o e) t = qbO e t \/ qbO (qhY o e) t = .junk:=by
 unfold qhY
 split
 ·exact qoM _ _ _ _
 ·exact .inl rfl
theorem Fits.trim {w:World} {I:Imm} {m:Names} {e:Env} {h:Heap} {nx n:Nat} {a:Act} (F:Fits w I m e h nx n a) (o:IOper):Fits w I m (qhY o e) h nx n a:=
 ⟨fun t=>by
  rcases qIX o e t with h | h
  ·rw [h]; exact F.tm t
  ·rw [h]; simp [Rel],F.hp,F.nx,F.sz,F.df⟩
theorem quy {IP:Prog} {call:qa7} (hcall:qef P call) {k n:Nat} {ops:Array Oper} {ios:List IOper} (hc:qgO P hint n ops ops.toList = some ios) {Q:Exit -> Act -> World -> Prop} :
  ∀ (suf:List IOper) (i:Nat) (e:Env) (h:Heap) (w:World) (I:Imm) (m:Names) (a:Act) (log log':List Step) (x:X) (e':Env) (h':Heap) (nx:Nat),ios.drop i = suf -> Fits w I m e h nx n a ->
   qc8 IP call suf e h nx log = some (x,e',h',log') -> (∀ e'' a' w',Ends w I m h k n x ⟨e',h',nx + 16 * suf.length,k⟩ e'' a' w' -> Q e'' a' w') ->
   wpOps P ops Q (List.range' i suf.length) a w
 | [],i,e,h,w,I,m,a,log,log',x,e',h',nx,hi,F,hr,hQ=>by
  simp [qc8] at hr
  obtain ⟨rfl,rfl,rfl,_⟩:=hr
  simp only [List.length_nil,List.range'_zero,wpOps]
  exact hQ _ _ _ ⟨I,m,Fr.refl k,rfl,by simpa using F⟩
 | io :: suf,i,e,h,w,I,m,a,log,log',x,e',h',nx,hi,F,hr,hQ=>by
  have hlen:=qcl hc
  have hios:ios[i]? = some io:=by
   have:=congrArg (·[0]?) hi
   simpa using this
  have hdrop:ios.drop (i + 1) = suf:=by
   have:=congrArg (List.drop 1) hi
   simpa using this
  have hlt:i < ops.size:=by
   have:=List.getElem?_eq_some_iff.1 hios
   obtain ⟨hl,_⟩:=this
   simpa [hlen] using hl
  have ho:ops[i]? = some ops[i]:=by simp [hlt]
  obtain ⟨io',hio',hco⟩:=qfk hc i ops[i] (by simp [hlt])
  rw [hios] at hio'; cases hio'
  simp only [List.length_cons,List.range'_succ,wpOps,ho]
  simp only [qc8] at hr
  cases hs:qb9 IP call nx io e h with
  | none=>simp [hs] at hr
  | some s=>
   have key:=qBI hcall F hco hs (next:=wpOps P ops Q (List.range' (i + 1) suf.length)) (Q:=Q)
   have done:(Region.wanted ops[i] (yielded ops a.tmps) = true /\ (ops[i]).wp P a w (wpOps P ops Q (List.range' (i + 1) suf.length)) Q) \/ (Region.wanted ops[i] (yielded ops a.tmps) = false /\ wpOps P ops Q (List.range' (i + 1) suf.length) (a.put (ops[i]).dst undef) w):=by
    refine key ?_ ?_
    ·intro a' w' I' m' hnp hA F'
     have hr':qc8 IP call suf (qhY io (qbq e io.dst s)) (qaR h s) (nx + 16) (log ++ [s]) = some (x,e',h',log'):=by
      rw [hs] at hr
      cases s with
      | pan r v out=>exact absurd rfl (hnp r v out)
      | skip=>exact hr
      | did=>exact hr
     refine quy (k:=k) hcall hc suf (i + 1) _ _ w' I' m' a' _ _ _ _ _ _ hdrop (F'.trim io) hr' fun e'' a'' w'' E=>hQ _ _ _ ?_
     have E':=E.after (hA.fr k)
     have he:nx + 16 + 16 * suf.length = nx + 16 * (io :: suf).length:=by simp; omega
     rw [he] at E'
     exact E'
    ·intro r v out u w' I' m' hsp hA hu
     subst hsp
     simp only [hs,Option.some.injEq,Prod.mk.injEq] at hr
     obtain ⟨rfl,rfl,rfl,_⟩:=hr
     exact hQ _ _ _ ⟨I',m',hA.fr k,F.df,hA.heap,qxC F.tm hA.stays hA.imm hA.names,u,rfl,hu⟩
   rcases done with ⟨h1,h2⟩ | ⟨h1,h2⟩
   ·rw [h1]; simp only [if_true]; exact .inl h2
   ·rw [h1]; simp only [Bool.false_eq_true,if_false]; exact h2
end
end Go.Eng
namespace Go.Eng
set_option linter.unusedSectionVars false
variable [Globs] [Dfs]
def qIZ:Opd -> List Nat
 | .t n=>[n]
 | _=>[]
def looks (o:IOper):List Nat:=(qkd o.op).flatMap qIZ ++ (match o.guard with | none=>[] | some g=>[g.1])
def qqV (x y:IOper):Bool:=match x.dst with
 | some d=>!(looks y).contains d && (match y.dst with | some d'=>decide (d ≠ d') | none=>true)
 | none=>true
def qxP (x y:IOper):Bool:=qqV x y && qqV y x
section
variable {IP:Prog} {call:qa7}
theorem qkF {e e':Env} {o:Opd} (h:∀ t,t ∈ qIZ o -> qbO e t = qbO e' t):qaN e o = qaN e' o:=by
 cases o with
 | t n=>exact h n (by simp [qIZ])
 | _=>rfl
theorem qKs {ev ev':Opd -> AV} {ps:List (Nat × Nat × Opd)} (h:∀ x ∈ ps.map (fun p=>p.2.2),ev x = ev' x):(ps.map fun p=>(p.1,p.2.1,ev p.2.2)) = ps.map fun p=>(p.1,p.2.1,ev' p.2.2):=
 List.map_congr_left fun p hp=>by rw [h p.2.2 (List.mem_map.2 ⟨p,hp,rfl⟩)]
theorem qux {nx:Nat} {ev ev':Opd -> AV} {h:Heap} {io:IOp} (hev:∀ x ∈ qkd io,ev x = ev' x):opS IP call nx ev h io = opS IP call nx ev' h io:=by
 cases io
 case build z ps=>
  have:=qKs (ps:=ps) (ev:=ev) (ev':=ev') (by simpa [qkd] using hev)
  simp only [opS,this]
 case bslice sz z n ps=>
  have:(ps.map fun p=>ev p.2) = ps.map fun p=>ev' p.2:=List.map_congr_left fun p hp=>hev p.2 (by simp only [qkd]; exact List.mem_map.2 ⟨p,hp,rfl⟩)
  simp only [opS,this]
 case mkf f cap=>
  have:cap.map ev = cap.map ev':=List.map_congr_left fun x hx=>hev x (by simpa [qkd] using hx)
  simp only [opS,this]
 case mx xs=>
  have:xs.map ev = xs.map ev':=List.map_congr_left fun x hx=>hev x (by simpa [qkd] using hx)
  simp only [opS,this]
 case mn xs=>
  have:xs.map ev = xs.map ev':=List.map_congr_left fun x hx=>hev x (by simpa [qkd] using hx)
  simp only [opS,this]
 case call f xs=>
  have:xs.map ev = xs.map ev':=List.map_congr_left fun x hx=>hev x (by simpa [qkd] using hx)
  simp only [opS,this]
 case callv f xs=>
  have:xs.map ev = xs.map ev':=List.map_congr_left fun x hx=>hev x (by simp [qkd,hx])
  have h2:=hev f (by simp [qkd])
  simp only [opS,this,h2]
 case invk tbl f xs=>
  have:xs.map ev = xs.map ev':=List.map_congr_left fun x hx=>hev x (by simp [qkd,hx])
  have h2:=hev f (by simp [qkd])
  simp only [opS,this,h2]
 case slc sz x lo hi=>
  have h1:=hev x (by simp [qkd])
  have h2:qbE ev lo = qbE ev' lo:=by cases lo with
   | none=>rfl
   | some y=>simp [qbE,hev y (by simp [qkd,qBw])]
  have h3:qbE ev hi = qbE ev' hi:=by cases hi with
   | none=>rfl
   | some y=>simp [qbE,hev y (by simp [qkd,qBw])]
  simp only [opS,h1,h2,h3]
 case slcs x lo hi=>
  have h1:=hev x (by simp [qkd])
  have h2:qbE ev lo = qbE ev' lo:=by cases lo with
   | none=>rfl
   | some y=>simp [qbE,hev y (by simp [qkd,qBw])]
  have h3:qbE ev hi = qbE ev' hi:=by cases hi with
   | none=>rfl
   | some y=>simp [qbE,hev y (by simp [qkd,qBw])]
  simp only [opS,h1,h2,h3]
 all_goals
  simp only [qkd,List.mem_cons,List.not_mem_nil,or_false,forall_eq_or_imp,forall_eq] at hev
  simp only [opS,hev]
theorem qoK {h h':Heap}:∀ {r:List Nat},(∀ q,q ∈ r -> qad h q = qad h' q) -> sub h r = sub h' r
 | [],_=>rfl
 | i :: r,hq=>by
  simp only [sub,hq i (by simp),qoK (r:=r) fun q hm=>hq q (by simp [hm])]
theorem qi9 {q:Nat} {b:Blk}:∀ {out:Heap},qad out q = some b -> ∃ p ∈ out,p.2 = b
 | [],hl=>by simp [qad] at hl
 | (j,c) :: out,hl=>by
  simp only [qad] at hl
  by_cases e:q = j
  ·rw [if_pos e] at hl
   exact ⟨(j,c),by simp,Option.some.inj hl⟩
  ·rw [if_neg e] at hl
   obtain ⟨p,hp,he⟩:=qi9 hl
   exact ⟨p,by simp [hp],he⟩
theorem qgo {h h':Heap}:∀ (n:Nat) (todo seen r:List Nat),qbL n h todo seen = some r -> (∀ q,q ∈ r -> qad h q = qad h' q) -> (∀ i b,i ∈ r -> qad h i = some b -> ∀ j,j ∈ qvv b -> j ∈ r \/ (qad h j = none /\ qad h' j = none)) ->
  (∀ i,i ∈ todo -> i ∈ r \/ (qad h i = none /\ qad h' i = none)) -> (∀ i,i ∈ r -> ∃ b,qad h i = some b) -> qbL n h' todo seen = some r
 | n,[],seen,r,hr,_,_,_,_=>by cases n <;> simpa [qbL] using hr
 | 0,_ :: _,seen,r,hr,_,_,_,_=>by simp [qbL] at hr
 | n + 1,i :: todo,seen,r,hr,hq,hcl,ht,hex=>by
  simp only [qbL] at hr ⊢
  by_cases hc:seen.contains i = true
  ·rw [if_pos hc] at hr ⊢
   exact qgo n _ _ _ hr hq hcl (fun j hj=>ht j (by simp [hj])) hex
  ·rw [if_neg hc] at hr ⊢
   rcases ht i (by simp) with hi | ⟨h1,h2⟩
   ·obtain ⟨b,hb⟩:=hex i hi
    rw [<- hq i hi,hb]
    rw [hb] at hr
    refine qgo n _ _ _ hr hq hcl (fun j hj=>?_) hex
    rcases List.mem_append.1 hj with hj | hj
    ·exact ht j (by simp [hj])
    ·exact hcl i b hi hb j hj
   ·rw [h1] at hr
    rw [h2]
    exact qgo n _ _ _ hr hq hcl (fun j hj=>ht j (by simp [hj])) hex
theorem qw8 {h:Heap} {p:Nat × Blk}:∀ {r:List Nat},p ∈ sub h r -> ∃ i,i ∈ r /\ qad h i = some p.2
 | [],hp=>by simp [sub] at hp
 | i :: r,hp=>by
  simp only [sub] at hp
  split at hp
  ·rename_i b hb
   rcases List.mem_cons.1 hp with rfl | hp
   ·exact ⟨i,by simp,hb⟩
   ·obtain ⟨j,hj,h1⟩:=qw8 hp; exact ⟨j,by simp [hj],h1⟩
  ·obtain ⟨j,hj,h1⟩:=qw8 hp; exact ⟨j,by simp [hj],h1⟩
theorem qKR {h:Heap} {ids r:List Nat} {w:Bool} {v:AV} {out:Heap} {q:Nat} (hn:qad h q = none) (hq:q ∈ ids \/ ∃ i b,i ∈ r /\ qad h i = some b /\ q ∈ qvv b):q ∈ lost h ids (.did r w v out):=by
 simp only [lost,List.mem_filter,List.mem_append,List.mem_flatMap,hn,Option.isNone_none,and_true]
 rcases hq with hq | ⟨i,b,hi,hb,hq⟩
 ·exact .inl hq
 ·obtain ⟨p,hp,he⟩:=qi9 (show qad (sub h r) i = some b by rw [qbJ,if_pos hi,hb])
  exact .inr ⟨p,hp,by rw [he]; exact hq⟩
theorem qkU (h:Heap) (ids:List Nat) (s:Step):reached (mark (lost h ids s) s) = reached s ++ lost h ids s:=by
 cases s with
 | did r w v out=>cases hl:lost h ids (.did r w v out) <;> simp [mark,reached]
 | skip=>simp [lost,mark,reached]
 | pan r v out=>simp [lost,mark,reached]
theorem qqt (g:List Nat) (s:Step):wrote (mark g s) = wrote s:=by
 cases g <;> cases s <;> rfl
theorem qjh {h h':Heap} (hq:∀ q,qad h q = qad h' q):∀ (n:Nat) (todo seen:List Nat),qbL n h todo seen = qbL n h' todo seen
 | n,[],seen=>by cases n <;> simp [qbL]
 | 0,_ :: _,seen=>by simp [qbL]
 | n + 1,i :: todo,seen=>by
  simp only [qbL,hq i]
  split
  ·exact qjh hq n _ _
  ·split
   ·exact qjh hq n _ _
   ·exact qjh hq n _ _
theorem qoS {e e':Env} {g:Option (Nat × Bool)} (h:∀ x,g = some x -> qbO e x.1 = qbO e' x.1):qht e g = qht e' g:=by
 cases g with
 | none=>rfl
 | some x=>simp only [qht,h x rfl]
theorem qg8 {o:IOper} {x:Opd} (hx:x ∈ qkd o.op) {t:Nat} (ht:t ∈ qIZ x):t ∈ looks o:=by
 simp only [looks,List.mem_append,List.mem_flatMap]
 exact .inl ⟨x,hx,ht⟩
theorem qg7 {o:IOper} {x:Nat × Bool} (hx:o.guard = some x):x.1 ∈ looks o:=by
 simp [looks,hx]
theorem qFx {e e':Env} {o:IOper} (he:∀ t,t ∈ looks o -> qbO e t = qbO e' t):(qkd o.op).map (qaN e) = (qkd o.op).map (qaN e'):=
 List.map_congr_left fun x hx=>qkF fun t ht=>he t (qg8 hx ht)
theorem qu6 {e e':Env} {o:IOper} (he:∀ t,t ∈ looks o -> qbO e t = qbO e' t):qBR e o.op = qBR e' o.op:=by
 have h:=qFx he
 unfold qBR
 split <;> first | rfl | rw [h]
theorem qiE {nx:Nat} {o:IOper} {e e':Env} {h h':Heap} {s:Step} (he:∀ t,t ∈ looks o -> qbO e t = qbO e' t) (hs:qb9 IP call nx o e h = some s) (ht:tidy nx (qce e o) h s = true) (hq:∀ q,q ∈ reached s ++ lost h (qce e o) s -> qad h q = qad h' q) :
  qb9 IP call nx o e' h' = some s /\ tidy nx (qce e' o) h' s = true /\ lost h' (qce e' o) s = lost h (qce e o) s:=by
 have hw:qht e o.guard = qht e' o.guard:=qoS fun x hx=>he x.1 (qg7 hx)
 have hids:=qu6 he
 have hids':qce e o = qce e' o:=hids
 rw [<- hids']
 simp only [qb9] at hs ⊢
 rw [<- hw,<- hids]
 split at hs
 ·cases hs
 ·cases hs; exact ⟨rfl,rfl,rfl⟩
 ·split at hs
  ·cases hs
  ·rename_i r hr
   have hshape:∃ w v out,s = .did r w v out:=by
    split at hs
    ·cases hs
    ·cases hs; exact ⟨_,_,_,rfl⟩
    ·cases hs; simp [tidy] at ht
   obtain ⟨w,v,out,rfl⟩:=hshape
   simp only [tidy,Bool.and_eq_true,whole,List.all_eq_true,qip,Bool.or_eq_true,List.contains_iff_mem,Option.isNone_iff_eq_none] at ht
   obtain ⟨⟨hin,hcl⟩,hins⟩:=ht
   simp only [reached] at hq
   have hq1:∀ q,q ∈ r -> qad h q = qad h' q:=fun q hm=>hq q (by simp [hm])
   have hq2:∀ q,qad h q = none -> (q ∈ qce e o \/ ∃ i b,i ∈ r /\ qad h i = some b /\ q ∈ qvv b) -> qad h' q = none:=fun q hn hm=>by
    rw [<- hq q (List.mem_append.2 (.inr (qKR hn hm)))]; exact hn
   have hex:∀ i,i ∈ r -> ∃ b,qad h i = some b:=fun i hi=>by
    have:=hcl i hi
    split at this
    ·rename_i b hb; exact ⟨b,hb⟩
    ·cases this
   have hcl':∀ i b,i ∈ r -> qad h i = some b -> ∀ j,j ∈ qvv b -> j ∈ r \/ (qad h j = none /\ qad h' j = none):=fun i b hi hb j hj=>by
    have:=hcl i hi
    rw [hb] at this
    simp only [List.all_eq_true,qip,Bool.or_eq_true,List.contains_iff_mem,Option.isNone_iff_eq_none] at this
    rcases this j hj with h1 | h1
    ·exact .inl h1
    ·exact .inr ⟨h1,hq2 j h1 (.inr ⟨i,b,hi,hb,hj⟩)⟩
   have hin':∀ i,i ∈ qce e o -> i ∈ r \/ (qad h i = none /\ qad h' i = none):=fun i hi=>by
    rcases hin i hi with h1 | h1
    ·exact .inl h1
    ·exact .inr ⟨h1,hq2 i h1 (.inl hi)⟩
   have hr':=qgo qdH _ [] r hr hq1 hcl' hin' hex
   have hsub:=qoK (r:=r) hq1
   have hsame:∀ j,(j ∈ r \/ (qad h j = none /\ qad h' j = none)) -> qad h j = qad h' j:=fun j hj=>by
    rcases hj with h1 | ⟨h1,h2⟩
    ·exact hq1 j h1
    ·rw [h1,h2]
   rw [hr']
   simp only []
   rw [<- hsub,qux (ev:=qaN e') (ev':=qaN e) fun x hx=>(qkF fun t ht=>he t (qg8 hx ht)).symm]
   refine ⟨hs,?_,?_⟩
   ·simp only [tidy,Bool.and_eq_true,whole,List.all_eq_true,qip,Bool.or_eq_true,List.contains_iff_mem,Option.isNone_iff_eq_none]
    refine ⟨⟨fun i hi=>(hin' i hi).imp id fun h1=>h1.2,fun i hi=>?_⟩,hins⟩
    obtain ⟨b,hb⟩:=hex i hi
    rw [<- hq1 i hi,hb]
    simp only [List.all_eq_true,qip,Bool.or_eq_true,List.contains_iff_mem,Option.isNone_iff_eq_none]
    exact fun j hj=>(hcl' i b hi hb j hj).imp id fun h1=>h1.2
   ·simp only [lost]
    rw [<- hsub]
    refine List.filter_congr fun j hj=>?_
    rw [hsame j]
    rcases List.mem_append.1 hj with hj | hj
    ·exact hin' j hj
    ·obtain ⟨p,hp,hj⟩:=List.mem_flatMap.1 hj
     obtain ⟨i,hi,hb⟩:=qw8 hp
     exact hcl' i p.2 hi hb j hj
def RunsTo (IP:Prog) (call:qa7) (ios:List IOper) (log:List Step) (base:Nat):List Nat -> Env -> Heap -> Env -> Heap -> Prop
 | [],e,h,e',h'=>(∀ t,qbO e t = qbO e' t) /\ ∀ q,qad h q = qad h' q
 | i :: rem,e,h,e',h'=>∃ io s,ios[i]? = some io /\ (∃ s0,log[i]? = some s0 /\ reached s ++ lost h (qce e io) s = reached s0 /\ wrote s = wrote s0) /\ qb9 IP call (base + 16 * i) io e h = some s /\ tidy (base + 16 * i) (qce e io) h s = true /\
   RunsTo IP call ios log base rem (qbq e io.dst s) (qaR h s) e' h'
theorem qs7 {e e':Env} (he:∀ t,qbO e t = qbO e' t) (d:Option Nat) (s:Step):∀ t,qbO (qbq e d s) t = qbO (qbq e' d s) t:=by
 intro t
 cases s <;> cases d <;> simp [qbq,qxf,qbO,he]
theorem qkJ {h h':Heap} (hh:∀ q,qad h q = qad h' q) (s:Step):∀ q,qad (qaR h s) q = qad (qaR h' s) q:=by
 intro q
 cases s with
 | skip=>exact hh q
 | did r w v out=>cases w <;> simp [qaR,qa4,qbt,hh q]
 | pan r v out=>simp [qaR,qa4,qbt,hh q]
theorem RunsTo.congr {ios:List IOper} {log:List Step} {base:Nat}:∀ {rem:List Nat} {e1 e2:Env} {h1 h2:Heap} {e':Env} {h':Heap},(∀ t,qbO e1 t = qbO e2 t) -> (∀ q,qad h1 q = qad h2 q) -> RunsTo IP call ios log base rem e1 h1 e' h' -> RunsTo IP call ios log base rem e2 h2 e' h'
 | [],e1,e2,h1,h2,e',h',he,hh,hr=>⟨fun t=>(he t).symm.trans (hr.1 t),fun q=>(hh q).symm.trans (hr.2 q)⟩
 | i :: rem,e1,e2,h1,h2,e',h',he,hh,hr=>by
  obtain ⟨io,s,h3,h4,hs,ht,hr⟩:=hr
  obtain ⟨hs',ht',hl'⟩:=qiE (fun t _=>he t) hs ht (fun q _=>hh q)
  rw [<- hl'] at h4
  exact ⟨io,s,h3,h4,hs',ht',hr.congr (qs7 he _ _) (qkJ hh _)⟩
theorem qkQ {q:Nat} {b:Blk}:∀ {out:Heap},qad out q = some b -> ∃ p ∈ out,p.1 = q
 | [],hl=>by simp [qad] at hl
 | (j,c) :: out,hl=>by
  simp only [qad] at hl
  by_cases e:q = j
  ·exact ⟨(j,c),by simp,e.symm⟩
  ·rw [if_neg e] at hl
   obtain ⟨p,hp,he⟩:=qkQ hl
   exact ⟨p,by simp [hp],he⟩
theorem qrW {nx:Nat} {ids:List Nat} {h:Heap} {s:Step} (ht:tidy nx ids h s = true) {q:Nat} (hq:q ∈ reached s):∃ b,qad h q = some b:=by
 cases s with
 | skip=>simp [reached] at hq
 | pan r v out=>simp [tidy] at ht
 | did r w v out=>
  simp only [tidy,Bool.and_eq_true,whole,List.all_eq_true] at ht
  have:=ht.1.2 q hq
  split at this
  ·rename_i b hb; exact ⟨b,hb⟩
  ·cases this
theorem qem {nx:Nat} {ids:List Nat} {h:Heap} {s:Step} (ht:tidy nx ids h s = true) {q:Nat} (hq:q ∉ reached s \/ wrote s = false /\ ∃ b,qad h q = some b) (hnew:¬ (nx <= q /\ q < nx + 16)):qad (qaR h s) q = qad h q:=by
 cases s with
 | skip=>rfl
 | pan r v out=>simp [tidy] at ht
 | did r w v out=>
  simp only [tidy,Bool.and_eq_true,inside,List.all_eq_true] at ht
  have hout:q ∉ r -> qad out q = none:=by
   intro hqr
   cases hl:qad out q with
   | none=>rfl
   | some b=>
    obtain ⟨p,hp,he⟩:=qkQ hl
    have:=ht.2 p hp
    rw [he] at this
    simp only [Bool.or_eq_true,List.contains_iff_mem,Bool.and_eq_true,decide_eq_true_eq] at this
    rcases this with h1 | h1
    ·exact absurd h1 hqr
    ·exact absurd h1 hnew
  simp only [reached,wrote] at hq
  cases w with
  | true=>
   have hqr:q ∉ r:=by simpa using hq
   simp [qaR,qa4,qbt,hqr,hout hqr]
  | false=>
   simp only [qaR,Bool.false_eq_true,if_false,qa4,qfu]
   by_cases hqr:q ∈ r
   ·simp [hqr]
   ·simp [hqr,hout hqr]
structure Good (ios:List IOper) (log:List Step) (eF:Env) (base p i:Nat):Prop where
 apart:∀ x y,ios[p]? = some x -> ios[i]? = some y -> qxP x y = true
 calm:∀ s s',log[p]? = some s -> log[i]? = some s' -> clash s s' = false \/ qrl ios eF p i = true
 newp:∀ s,log[i]? = some s -> ∀ q,q ∈ reached s -> ¬ (base + 16 * p <= q /\ q < base + 16 * p + 16)
 newi:∀ s,log[p]? = some s -> ∀ q,q ∈ reached s -> ¬ (base + 16 * i <= q /\ q < base + 16 * i + 16)
 ne:p ≠ i
theorem qib {x y:IOper} (h:qxP x y = true):(∀ d,x.dst = some d -> d ∉ looks y /\ y.dst ≠ some d) /\ (∀ d,y.dst = some d -> d ∉ looks x):=by
 simp only [qxP,Bool.and_eq_true,qqV] at h
 obtain ⟨h1,h2⟩:=h
 refine ⟨fun d hd=>?_,fun d hd=>?_⟩
 ·simp only [hd,Bool.and_eq_true] at h1
  refine ⟨by simpa using h1.1,fun he=>?_⟩
  simp [he] at h1
 ·simp only [hd,Bool.and_eq_true] at h2
  simpa using h2.1
theorem qcF {e:Env} {d:Option Nat} {s:Step} {t:Nat} (h:d ≠ some t):qbO (qbq e d s) t = qbO e t:=by
 cases s <;> cases d <;> simp_all [qbq,qxf,qbO]
 all_goals intro he; exact absurd he.symm h
theorem qRZ {a b:List Nat} (h:qJM a b = true) {q:Nat} (ha:q ∈ a) (hb:q ∈ b):False:=by
 simp only [qJM,List.all_eq_true] at h
 have:=h q ha
 simp [hb] at this
theorem qma {h h':Heap} {s:Step} {q:Nat} (hq:qad h q = qad h' q):qad (qaR h s) q = qad (qaR h' s) q:=by
 cases s with
 | skip=>exact hq
 | did r w v out=>cases w <;> simp [qaR,qa4,qbt,hq]
 | pan r v out=>simp [qaR,qa4,qbt,hq]
theorem qvX {e e':Env} {d:Option Nat} {s:Step} {t:Nat} (hq:qbO e t = qbO e' t):qbO (qbq e d s) t = qbO (qbq e' d s) t:=by
 cases s <;> cases d <;> simp [qbq,qxf,qbO,hq]
theorem RunsTo.keepE {ios:List IOper} {log:List Step} {base n:Nat}:∀ {L:List Nat} {e:Env} {h:Heap} {e':Env} {h':Heap},RunsTo IP call ios log base L e h e' h' -> (∀ j ∈ L,∀ o,ios[j]? = some o -> o.dst ≠ some n) -> qbO e n = qbO e' n
 | [],e,h,e',h',hr,_=>hr.1 n
 | i :: L,e,h,e',h',hr,hn=>by
  obtain ⟨x,s,hx,_,_,_,hr⟩:=hr
  have:=hr.keepE fun j hj=>hn j (by simp [hj])
  rw [<- this,qcF (hn i (by simp) x hx)]
theorem qum {nx:Nat} {ks:Key} {m k v:Opd} {e:Env} {h:Heap} {s:Step} (hs:qb9 IP call nx ⟨none,.mupd ks m k v,none⟩ e h = some s) :
  ∃ id kvs kvs1,qaN e m = .mref id /\ idsA (qaN e k) = [] /\ idsA (qaN e v) = [] /\ qad h id = some (.mp kvs) /\ isKey ks (qaN e k) = true /\ qBq ks kvs (qaN e k) (nz (qaN e v)) = some kvs1 /\ s = .did [id] true unit (qch (sub h [id]) id (.mp kvs1)):=by
 simp only [qb9,qht] at hs
 split at hs
 ·cases hs
 ·rename_i r hr
  split at hs
  ·cases hs
  ·rename_i v0 out b hop
   cases hs
   simp only [opS] at hop
   split at hop
   ·rename_i id hm
    split at hop
    ·rename_i kvs hk hv hl
     split at hop
     ·rename_i kvs1 hput'
      simp only [Option.some.injEq,Prod.mk.injEq,Res.ret.injEq] at hop
      obtain ⟨rfl,rfl,rfl⟩:=hop
      split at hput'
      ·rename_i hkey
       have hids:qBR e (IOp.mupd ks m k v) = [id]:=by
        simp [qBR,qkd,idsA.idsL,hm,hk,hv,idsA]
       rw [hids] at hr
       rw [qbJ] at hl
       split at hl
       ·have hr2:qbL qdH h [id] [] = some [id]:=by
         simp [qdH,qbL,hl,qvv]
        rw [hr2] at hr
        cases hr
        exact ⟨id,kvs,kvs1,hm,hk,hv,hl,hkey,hput',rfl⟩
       ·cases hl
      ·cases hput'
     ·cases hop
    ·cases hop
   ·cases hop
  ·rename_i v0 out b hop
   exfalso
   simp only [opS] at hop
   split at hop
   ·split at hop
    ·split at hop
     ·simp at hop
     ·cases hop
    ·cases hop
   ·cases hop
theorem qza {nx:Nat} {ks:Key} {m k v:Opd} {e:Env} {h:Heap} {id:Nat} {kvs kvs1:List (AV × AV)} (hm:qaN e m = .mref id) (hk:idsA (qaN e k) = []) (hv:idsA (qaN e v) = []) (hl:qad h id = some (.mp kvs)) (hkey:isKey ks (qaN e k) = true) (hp:qBq ks kvs (qaN e k) (nz (qaN e v)) = some kvs1) :
  qb9 IP call nx ⟨none,.mupd ks m k v,none⟩ e h = some (.did [id] true unit (qch (sub h [id]) id (.mp kvs1))) /\ tidy nx (qce e ⟨none,.mupd ks m k v,none⟩) h (.did [id] true unit (qch (sub h [id]) id (.mp kvs1))) = true:=by
 have hids:qBR e (IOp.mupd ks m k v) = [id]:=by
  simp [qBR,qkd,idsA.idsL,hm,hk,hv,idsA]
 have hr2:qbL qdH h [id] [] = some [id]:=by
  simp [qdH,qbL,hl,qvv]
 have hl2:qad (sub h [id]) id = some (.mp kvs):=by rw [qbJ]; simp [hl]
 constructor
 ·simp only [qb9,qht,hids,hr2,opS,hm,hk,hv,hl2,hkey,if_true,hp]
 ·simp only [tidy,qce,hids,Bool.and_eq_true,whole,inside,List.all_eq_true]
  refine ⟨⟨by simp [qip],by simp [hl,qvv]⟩,fun p hp=>?_⟩
  have:p.1 = id:=by
   simp only [qch,List.mem_cons] at hp
   rcases hp with rfl | hp
   ·rfl
   ·simp [sub,hl,qwV] at hp
  simp [this]
theorem qjb {ks:Key} {m k v:Opd} {e:Env} {h:Heap} {id:Nat} {kvs:List (AV × AV)} {w:Bool} {x:AV} {out:Heap} (hm:qaN e m = .mref id) (hk:idsA (qaN e k) = []) (hv:idsA (qaN e v) = []) (hl:qad h id = some (.mp kvs)) :
  lost h (qce e ⟨none,.mupd ks m k v,none⟩) (.did [id] w x out) = []:=by
 have hids:qBR e (IOp.mupd ks m k v) = [id]:=by
  simp [qBR,qkd,idsA.idsL,hm,hk,hv,idsA]
 simp [lost,qce,hids,sub,hl,qvv]
theorem qia (h:Heap) (id:Nat) (b:Blk) (q:Nat):qad (qaR h (.did [id] true unit (qch (sub h [id]) id b))) q = if q = id then some b else qad h q:=by
 simp only [qaR,if_true,qa4,qa6,qbJ,qbt]
 by_cases hq:q = id
 ·simp [hq]
 ·simp [hq]
theorem RunsTo.swapM {ios:List IOper} {log:List Step} {base p i:Nat} {rem:List Nat} {e:Env} {h:Heap} {e':Env} {h':Heap} {ks:Key} {m k v m' k' v':Opd} (hp:ios[p]? = some ⟨none,.mupd ks m k v,none⟩) (hi:ios[i]? = some ⟨none,.mupd ks m' k' v',none⟩)
  (hint:qm9 ks = true) (hne:qbK ks (qaN e k) (qaN e k') = some false) (hne':qbK ks (qaN e k') (qaN e k) = some false)
  (hcl:∀ s s',log[p]? = some s -> log[i]? = some s' -> clash s s' = true) (hr:RunsTo IP call ios log base (p :: i :: rem) e h e' h'):RunsTo IP call ios log base (i :: p :: rem) e h e' h':=by
 obtain ⟨x,s,hx,⟨t,hlt,hf1,hf2⟩,hs,hts,y,s',hy,⟨t',hlt',hf1',hf2'⟩,hs',hts',hr⟩:=hr
 rw [hp] at hx; cases hx
 rw [hi] at hy; cases hy
 obtain ⟨id,kvs,kvs1,a1,a2,a3,a4,a5,a6,rfl⟩:=qum hs
 have hE:qbq e none (Step.did [id] true unit (qch (sub h [id]) id (.mp kvs1))) = e:=rfl
 rw [hE] at hs' hts' hf1'
 obtain ⟨id',kvs',kvs2,b1,b2,b3,b4,b5,b6,rfl⟩:=qum hs'
 rw [qjb a1 a2 a3 a4,List.append_nil] at hf1
 rw [qjb b1 b2 b3 b4,List.append_nil] at hf1'
 have hid:id' = id:=by
  have:=hcl t t' hlt hlt'
  simp only [clash,Bool.and_eq_true,Bool.not_eq_true'] at this
  have h2:=this.2
  rw [<- hf1,<- hf1'] at h2
  have h3:qJM [id] [id'] = false:=h2
  simp only [qJM,List.all_eq_false] at h3
  obtain ⟨q,hq,h3⟩:=h3
  rw [List.mem_singleton] at hq
  subst hq
  simp at h3
  exact h3.symm
 subst hid
 rw [qia,if_pos rfl] at b4
 cases b4
 obtain ⟨kk,c1,c2⟩:=qgi hne hint
 simp only [qBq,hint,if_true] at a6 b6
 obtain ⟨kvs3,d1,d2⟩:=qBr c1 c2 hne hne' a6 b6
 have d1':qBq ks kvs (qaN e k') (nz (qaN e v')) = some kvs3:=by simp only [qBq,hint,if_true,d1]
 have d2':qBq ks kvs3 (qaN e k) (nz (qaN e v)) = some kvs2:=by simp only [qBq,hint,if_true,d2]
 obtain ⟨r1,r2⟩:=qza (IP:=IP) (call:=call) (nx:=base + 16 * i) b1 b2 b3 a4 b5 d1'
 have hl3:qad (qaR h (.did [id'] true unit (qch (sub h [id']) id' (.mp kvs3)))) id' = some (.mp kvs3):=by rw [qia,if_pos rfl]
 obtain ⟨r3,r4⟩:=qza (IP:=IP) (call:=call) (nx:=base + 16 * p) a1 a2 a3 hl3 a5 d2'
 have l1:[id'] ++ lost h (qce e ⟨none,.mupd ks m' k' v',none⟩) (.did [id'] true unit (qch (sub h [id']) id' (.mp kvs3))) = reached t':=by rw [qjb b1 b2 b3 a4,List.append_nil]; exact hf1'
 have l2:[id'] ++ lost (qaR h (.did [id'] true unit (qch (sub h [id']) id' (.mp kvs3)))) (qce e ⟨none,.mupd ks m k v,none⟩) (.did [id'] true unit (qch (sub (qaR h (.did [id'] true unit (qch (sub h [id']) id' (.mp kvs3)))) [id']) id' (.mp kvs2))) = reached t:=by rw [qjb a1 a2 a3 hl3,List.append_nil]; exact hf1
 refine ⟨⟨none,.mupd ks m' k' v',none⟩,.did [id'] true unit (qch (sub h [id']) id' (.mp kvs3)),hi,⟨t',hlt',l1,hf2'⟩,r1,r2,⟨none,.mupd ks m k v,none⟩,
  .did [id'] true unit (qch (sub (qaR h (.did [id'] true unit (qch (sub h [id']) id' (.mp kvs3)))) [id']) id' (.mp kvs2)),hp,⟨t,hlt,l2,hf2⟩,r3,r4,hr.congr (fun t=>rfl) fun q=>?_⟩
 simp only [qia]
 split <;> rfl
theorem RunsTo.swap {ios:List IOper} {log:List Step} {base p i:Nat} {rem:List Nat} {e:Env} {h:Heap} {e':Env} {h':Heap} (g:Good ios log e' base p i) (hkp:∀ ks m k v,ios[p]? = some ⟨none,.mupd ks m k v,none⟩ -> qBk ios p k = true -> qaN e k = qaN e' k)
  (hki:∀ ks m k v,ios[i]? = some ⟨none,.mupd ks m k v,none⟩ -> qBk ios i k = true -> qaN e k = qaN e' k) (hr:RunsTo IP call ios log base (p :: i :: rem) e h e' h') :
  RunsTo IP call ios log base (i :: p :: rem) e h e' h':=by
 have hr0:=hr
 obtain ⟨x,s,hx,⟨t,hls,hf1,hf2⟩,hs,hts,y,s',hy,⟨t',hls',hf1',hf2'⟩,hs',hts',hr⟩:=hr
 obtain ⟨ha1,ha2⟩:=qib (g.apart x y hx hy)
 have hcc:clash t t' = ((wrote s || wrote s') && !qJM (reached s ++ lost h (qce e x) s) (reached s' ++ lost (qaR h s) (qce (qbq e x.dst s) y) s')):=by simp only [clash,hf1,hf2,hf1',hf2']
 by_cases hclash:clash t t' = true
 ·
  have hmp:qrl ios e' p i = true:=by
   rcases g.calm t t' hls hls' with h | h
   ·rw [hclash] at h; cases h
   ·exact h
  unfold qrl at hmp
  split at hmp
  ·rename_i ks m k v ks' m' k' v' h1 h2
   simp only [Bool.and_eq_true,decide_eq_true_eq] at hmp
   obtain ⟨⟨⟨⟨⟨q1,rfl⟩,q2⟩,q3⟩,q4⟩,q5⟩:=hmp
   rw [<- hkp ks m k v h1 q2,<- hki ks m' k' v' h2 q3] at q4 q5
   refine RunsTo.swapM h1 h2 q1 ?_ ?_ (fun u u' hu hu'=>?_) hr0
   ·split at q4
    ·assumption
    ·cases q4
   ·split at q5
    ·assumption
    ·cases q5
   ·rw [hls] at hu; cases hu
    rw [hls'] at hu'; cases hu'
    exact hclash
  ·cases hmp
 have hcl:clash t t' = false:=by simpa using hclash
 rw [hcc] at hcl
 simp only [Bool.and_eq_false_iff,Bool.or_eq_false_iff] at hcl
 have hdj:∀ q,q ∈ reached s ++ lost h (qce e x) s -> q ∈ reached s' ++ lost (qaR h s) (qce (qbq e x.dst s) y) s' -> wrote s = false /\ wrote s' = false:=fun q h1 h2=>by
  rcases hcl with h3 | h3
  ·exact h3
  ·exact (qRZ (by simpa using h3) h1 h2).elim
 have hnp:∀ q,q ∈ reached s' ++ lost (qaR h s) (qce (qbq e x.dst s) y) s' -> ¬ (base + 16 * p <= q /\ q < base + 16 * p + 16):=fun q hq=>g.newp t' hls' q (hf1' ▸ hq)
 have hni:∀ q,q ∈ reached s ++ lost h (qce e x) s -> ¬ (base + 16 * i <= q /\ q < base + 16 * i + 16):=fun q hq=>g.newi t hls q (hf1 ▸ hq)
 have hne:=g.ne
 have inA:∀ {q:Nat},q ∈ reached s -> q ∈ reached s ++ lost h (qce e x) s:=fun hq=>List.mem_append.2 (.inl hq)
 have inB:∀ {q:Nat},q ∈ reached s' -> q ∈ reached s' ++ lost (qaR h s) (qce (qbq e x.dst s) y) s':=fun hq=>List.mem_append.2 (.inl hq)
 have hkeep:∀ q,q ∈ reached s' ++ lost (qaR h s) (qce (qbq e x.dst s) y) s' -> qad (qaR h s) q = qad h q:=by
  intro q hq
  refine qem hts ?_ (hnp q hq)
  by_cases hqs:q ∈ reached s
  ·exact .inr ⟨(hdj q (inA hqs) hq).1,qrW hts hqs⟩
  ·exact .inl hqs
 obtain ⟨hs1,ht1,hl1⟩:=qiE (e':=e) (h':=h) (fun t ht=>qcF fun hd=>(ha1 t hd).1 ht) hs' hts' hkeep
 have hkeep2:∀ q,q ∈ reached s ++ lost h (qce e x) s -> qad (qaR h s') q = qad h q:=by
  intro q hq
  refine qem ht1 ?_ (hni q hq)
  by_cases hqs:q ∈ reached s'
  ·exact .inr ⟨(hdj q hq (inB hqs)).2,qrW ht1 hqs⟩
  ·exact .inl hqs
 obtain ⟨hs2,ht2,hl2⟩:=qiE (e':=qbq e y.dst s') (h':=qaR h s') (fun t ht=>(qcF fun hd=>ha2 t hd ht).symm) hs hts fun q hq=>(hkeep2 q hq).symm
 refine ⟨y,s',hy,⟨t',hls',by rw [hl1]; exact hf1',hf2'⟩,hs1,ht1,x,s,hx,⟨t,hls,by rw [hl2]; exact hf1,hf2⟩,hs2,ht2,hr.congr (fun t=>?_) fun q=>?_⟩
 ·by_cases h1:x.dst = some t
  ·have h2:=(ha1 t h1).2
   rw [qcF h2]
   cases s <;> simp [qbq,h1,qxf,qbO]
   ·simp [tidy] at hts
  ·rw [qcF h1 (e:=qbq e y.dst s')]
   exact qvX (qcF h1)
 ·by_cases h1:q ∈ reached s /\ wrote s = true \/ (base + 16 * p <= q /\ q < base + 16 * p + 16)
  ·
   have h2:q ∉ reached s':=by
    rcases h1 with ⟨h1,hw⟩ | h1
    ·intro hq
     have:=(hdj q (inA h1) (inB hq)).1
     rw [hw] at this; cases this
    ·exact fun hq=>hnp q (inB hq) h1
   have h3:¬ (base + 16 * i <= q /\ q < base + 16 * i + 16):=by
    rcases h1 with ⟨h1,_⟩ | h1
    ·exact hni q (inA h1)
    ·omega
   rw [qem hts' (.inl h2) h3]
   exact qma (qem ht1 (.inl h2) h3).symm
  ·have h4:¬ (base + 16 * p <= q /\ q < base + 16 * p + 16):=fun h=>h1 (.inr h)
   have h5:q ∉ reached s \/ wrote s = false:=by
    by_cases hq:q ∈ reached s
    ·refine .inr ?_
     cases hw:wrote s with
     | false=>rfl
     | true=>exact absurd (.inl ⟨hq,hw⟩) h1
    ·exact .inl hq
   have hsame:∀ {g:Heap} {ids:List Nat} , tidy (base + 16 * p) ids g s = true -> qad (qaR g s) q = qad g q:=by
    intro g ids htg
    refine qem htg ?_ h4
    rcases h5 with h5 | h5
    ·exact .inl h5
    ·by_cases hq:q ∈ reached s
     ·exact .inr ⟨h5,qrW htg hq⟩
     ·exact .inl hq
   rw [hsame ht2]
   exact qma (hsame hts)
theorem quf {ios:List IOper} {i n:Nat} (h:qBk ios i (.t n) = true) {j:Nat} (hj:i <= j) {o:IOper} (ho:ios[j]? = some o):o.dst ≠ some n:=by
 simp only [qBk,List.all_eq_true,Bool.not_eq_true',decide_eq_false_iff_not] at h
 refine h o (List.mem_of_getElem? (i:=j - i) ?_)
 rw [List.getElem?_drop,show i + (j - i) = j by omega]; exact ho
theorem RunsTo.front {ios:List IOper} {log:List Step} {base i:Nat} {post:List Nat} {e':Env} {h':Heap}:∀ {pre:List Nat} {e:Env} {h:Heap},(∀ p,p ∈ pre -> Good ios log e' base p i) -> (pre ++ i :: post).Pairwise (· < ·) -> RunsTo IP call ios log base (pre ++ i :: post) e h e' h' ->
  RunsTo IP call ios log base (i :: (pre ++ post)) e h e' h'
 | [],e,h,_,_,hr=>hr
 | p :: pre,e,h,hg,hw,hr=>by
  have hw0:=hw
  rw [List.cons_append,List.pairwise_cons] at hw
  obtain ⟨x,s,hx,hls,hs,hts,hr⟩:=hr
  have hfr:=hr.front (pre:=pre) (fun q hq=>hg q (by simp [hq])) hw.2
  have hfull:RunsTo IP call ios log base (p :: i :: (pre ++ post)) e h e' h':=⟨x,s,hx,hls,hs,hts,hfr⟩
  have hpi:p < i:=hw.1 i (by simp)
  refine RunsTo.swap (hg p (by simp)) (fun ks m k v h1 h2=>?_) (fun ks m k v h1 h2=>?_) hfull
  ·cases k with
   | t n=>
    simp only [qaN]
    refine hfull.keepE fun j hj o ho=>quf h2 ?_ ho
    rcases List.mem_cons.1 hj with rfl | hj
    ·exact Nat.le_refl _
    ·exact Nat.le_of_lt (hw.1 j (by
      rcases List.mem_cons.1 hj with rfl | hj
      ·simp
      ·rcases List.mem_append.1 hj with hj | hj <;> simp [hj]))
   | _=>rfl
  ·cases k with
   | t n=>
    simp only [qaN]
    have hpre:∀ j ∈ p :: pre,∀ o,ios[j]? = some o -> o.dst ≠ some n:=fun j hj o ho hd=>by
     have:=(qib ((hg j hj).apart o _ ho h1)).1 n hd
     exact this.1 (by simp [looks,qkd,qIZ])
    refine hfull.keepE fun j hj o ho=>?_
    rcases List.mem_cons.1 hj with rfl | hj
    ·exact hpre j (by simp) o ho
    ·rcases List.mem_cons.1 hj with rfl | hj
     ·rw [h1] at ho; cases ho; simp
     ·rcases List.mem_append.1 hj with hj | hj
      ·exact hpre j (by simp [hj]) o ho
      ·refine quf h2 (Nat.le_of_lt ?_) ho
       have:=(List.pairwise_append.1 hw0).2.1
       rw [List.pairwise_cons] at this
       exact this.1 j hj
   | _=>rfl
end
end Go.Eng
namespace Go.Eng
set_option linter.unusedSectionVars false
variable [Globs] [Dfs]
def nub:List Nat -> List Nat
 | []=>[]
 | x :: xs=>if (nub xs).contains x then nub xs else x :: nub xs
def qxR:List Oper -> List (List Nat) -> List (List Nat)
 | [],acc=>acc
 | o :: os,acc=>qxR os (acc ++ [nub ((o.after.toList.filter fun e=>Region.binds .any e).flatMap fun e=>e.on :: acc.getD e.on [])])
def qta (ops:List Oper) (befs:List (List Nat)):Bool:=
 (List.range ops.length).all fun j=>match ops[j]? with
  | none=>true
  | some o=>
   ((befs.getD j []).all fun x=>o.after.toList.any fun e=>Region.binds .any e && (decide (x = e.on) || (befs.getD e.on []).contains x)) &&
   o.after.toList.all fun e=>!Region.binds .any e || decide (e.on < j)
def qeQ (ios:List IOper) (befs:List (List Nat)):Bool:=
 (List.range ios.length).all fun j=>(List.range j).all fun i=>(befs.getD j []).contains i || match ios[i]?,ios[j]? with
  | some x,some y=>qxP x y
  | _,_=>true
section
variable {P:Program} {hint:Nat -> Nat} {w:World} {I:Imm} {m:Names} {h:Heap} {nx:Nat} {e:Env} {a:Act} {IP:Prog} {call:qa7}
theorem qcb {ops:List Oper} {befs:List (List Nat)} (hb:qta ops befs = true) {j:Nat} {o:Oper} (hj:ops[j]? = some o) :
  (∀ x,x ∈ befs.getD j [] -> ∃ e,e ∈ o.after.toList /\ Region.binds .any e = true /\ (x = e.on \/ x ∈ befs.getD e.on [])) /\ (∀ e,e ∈ o.after.toList -> Region.binds .any e = true -> e.on < j):=by
 simp only [qta,List.all_eq_true,List.mem_range] at hb
 have hlt:j < ops.length:=(List.getElem?_eq_some_iff.1 hj).1
 have:=hb j hlt
 rw [hj] at this
 simp only [Bool.and_eq_true,List.all_eq_true,List.any_eq_true,Bool.or_eq_true,decide_eq_true_eq,List.contains_iff_mem,Bool.not_eq_true'] at this
 refine ⟨fun x hx=>?_,fun e he hbi=>?_⟩
 ·obtain ⟨e,he,h1,h2⟩:=this.1 x hx
  exact ⟨e,he,h1,h2⟩
 ·rcases this.2 e he with h1 | h1
  ·rw [hbi] at h1; cases h1
  ·exact h1
theorem qR9 {ios:List IOper} {log:List Step} {befs:List (List Nat)} {base p i:Nat} (hap:qeQ ios befs = true) {eF:Env} (hcalm:calm base befs ios eF log = true) (hlen:log.length = ios.length) (hpi:p < i) (hi:i < ios.length) (h1:p ∉ befs.getD i []) (h2:i ∉ befs.getD p []) :
  Good ios log eF base p i:=by
 simp only [qeQ,List.all_eq_true,List.mem_range,Bool.or_eq_true,List.contains_iff_mem] at hap
 simp only [Eng.calm,List.all_eq_true,List.mem_range,Bool.or_eq_true,List.contains_iff_mem,Bool.and_eq_true,Bool.not_eq_true',decide_eq_true_eq] at hcalm
 have hnew:∀ (j k:Nat) s,log[j]? = some s -> k ∉ befs.getD j [] -> ∀ q,q ∈ reached s -> ¬ (base + 16 * k <= q /\ q < base + 16 * k + 16):=by
  intro j k s hj hk q hq hr
  have hlt:j < log.length:=(List.getElem?_eq_some_iff.1 hj).1
  have hd:log.getD j .skip = s:=by simp [List.getD_eq_getElem?_getD,hj]
  have:=(hcalm j hlt).2 q (by rw [hd]; exact hq)
  rcases this with h3 | h3
  ·omega
  ·have:(q - base) / 16 = k:=by omega
   rw [this] at h3
   exact hk h3
 refine ⟨fun x y hx hy=>?_,fun s s' hs hs'=>?_,fun s hs=>hnew i p s hs h1,fun s hs=>hnew p i s hs h2,by omega⟩
 ·rcases hap i hi p hpi with h3 | h3
  ·exact absurd h3 h1
  ·rw [hx,hy] at h3; exact h3
 ·rcases (hcalm i (by omega)).1 p hpi with (h3 | h3) | h3
  ·exact absurd h3 h1
  ·exact .inl (by simpa [List.getD_eq_getElem?_getD,hs,hs'] using h3)
  ·exact .inr h3
theorem qKy {ios:List IOper} {log:List Step} {befs:List (List Nat)} {base p i:Nat} (hap:qeQ ios befs = true) {eF:Env} (hcalm:calm base befs ios eF log = true) (hpi:p < i) (hi:i < ios.length) (hil:i < log.length) (h1:p ∉ befs.getD i []) (h2:i ∉ befs.getD p []) :
  Good ios log eF base p i:=by
 simp only [qeQ,List.all_eq_true,List.mem_range,Bool.or_eq_true,List.contains_iff_mem] at hap
 simp only [Eng.calm,List.all_eq_true,List.mem_range,Bool.or_eq_true,List.contains_iff_mem,Bool.and_eq_true,Bool.not_eq_true',decide_eq_true_eq] at hcalm
 have hnew:∀ (j k:Nat) s,log[j]? = some s -> k ∉ befs.getD j [] -> ∀ q,q ∈ reached s -> ¬ (base + 16 * k <= q /\ q < base + 16 * k + 16):=by
  intro j k s hj hk q hq hr
  have hlt:j < log.length:=(List.getElem?_eq_some_iff.1 hj).1
  have hd:log.getD j .skip = s:=by simp [List.getD_eq_getElem?_getD,hj]
  have:=(hcalm j hlt).2 q (by rw [hd]; exact hq)
  rcases this with h3 | h3
  ·omega
  ·have:(q - base) / 16 = k:=by omega
   rw [this] at h3
   exact hk h3
 refine ⟨fun x y hx hy=>?_,fun s s' hs hs'=>?_,fun s hs=>hnew i p s hs h1,fun s hs=>hnew p i s hs h2,by omega⟩
 ·rcases hap i hi p hpi with h3 | h3
  ·exact absurd h3 h1
  ·rw [hx,hy] at h3; exact h3
 ·rcases (hcalm i hil).1 p hpi with (h3 | h3) | h3
  ·exact absurd h3 h1
  ·exact .inl (by simpa [List.getD_eq_getElem?_getD,hs,hs'] using h3)
  ·exact .inr h3
theorem qjj {ios:List IOper} {base:Nat}:∀ (suf:List IOper) (i:Nat) (e:Env) (h:Heap) (log:List Step) (e':Env) (h':Heap) (log':List Step),ios.drop i = suf -> log.length = i -> qdg IP call base i suf e h log = some (none,e',h',log') ->
  (∃ more,log' = log ++ more) /\ log'.length = i + suf.length /\ RunsTo IP call ios log' base (List.range' i suf.length) e h e' h'
 | [],i,e,h,log,e',h',log',_,hl,hr=>by
  simp [qdg] at hr
  obtain ⟨rfl,rfl,rfl⟩:=hr
  exact ⟨⟨[],by simp⟩,by simpa using hl,fun _=>rfl,fun _=>rfl⟩
 | io :: suf,i,e,h,log,e',h',log',hd,hl,hr=>by
  have hios:ios[i]? = some io:=by
   have h0:=congrArg (·[0]?) hd
   simpa using h0
  have hdrop:ios.drop (i + 1) = suf:=by
   have h0:=congrArg (List.drop 1) hd
   simpa using h0
  simp only [qdg] at hr
  split at hr
  ·cases hr
  ·rename_i s hs
   split at hr
   ·cases hr
   split at hr
   ·rename_i ht
    obtain ⟨⟨more,hm⟩,hlen,hrun⟩:=qjj suf (i + 1) _ _ _ _ _ _ hdrop (by simp [hl]) hr
    refine ⟨⟨mark (lost h (qce e io) s) s :: more,by rw [hm]; simp⟩,by rw [hlen]; simp; omega,?_⟩
    simp only [List.length_cons,List.range'_succ]
    refine ⟨io,s,hios,⟨mark (lost h (qce e io) s) s,?_,(qkU _ _ _).symm,(qqt _ _).symm⟩,hs,ht,hrun⟩
    rw [hm,List.append_assoc,List.getElem?_append_right (by omega)]
    simp [hl]
   ·cases hr
theorem qBx {s:Step} {v:AV} (h:qSu s = some v):∃ r out,s = .pan r v out:=by
 cases s with
 | pan r v' out=>cases h; exact ⟨_,_,rfl⟩
 | _=>cases h
theorem qqf {ios:List IOper} {base:Nat}:∀ (suf:List IOper) (i:Nat) (e:Env) (h:Heap) (log:List Step) (v:AV) (e':Env) (h':Heap) (log':List Step),ios.drop i = suf -> log.length = i -> qdg IP call base i suf e h log = some (some v,e',h',log') ->
  ∃ io r out hj,log'.length < i + suf.length /\ ios[log'.length]? = some io /\ qb9 IP call (base + 16 * log'.length) io e' hj = some (.pan r v out) /\ h' = qaR hj (.pan r v out) /\ (i <= log'.length /\ ∃ more,log' = log ++ more) /\ RunsTo IP call ios log' base (List.range' i (log'.length - i)) e h e' hj
 | [],i,e,h,log,v,e',h',log',_,hl,hr=>by simp [qdg] at hr
 | io :: suf,i,e,h,log,v,e',h',log',hd,hl,hr=>by
  have hios:ios[i]? = some io:=by
   have h0:=congrArg (·[0]?) hd
   simpa using h0
  have hdrop:ios.drop (i + 1) = suf:=by
   have h0:=congrArg (List.drop 1) hd
   simpa using h0
  simp only [qdg] at hr
  split at hr
  ·cases hr
  ·rename_i s hs
   split at hr
   ·rename_i v' hp
    cases hr
    obtain ⟨r,out,rfl⟩:=qBx hp
    refine ⟨io,r,out,h,by rw [hl]; simp,by rw [hl]; exact hios,by rw [hl]; exact hs,rfl,⟨by omega,[],by simp⟩,?_⟩
    rw [hl,Nat.sub_self]
    exact ⟨fun _=>rfl,fun _=>rfl⟩
   split at hr
   ·rename_i ht
    obtain ⟨io2,r,out,hj,h1,h2,h3,h4,⟨h5,more,hm⟩,hrun⟩:=qqf suf (i + 1) _ _ _ _ _ _ _ hdrop (by simp [hl]) hr
    refine ⟨io2,r,out,hj,by simp only [List.length_cons]; omega,h2,h3,h4,⟨by omega,mark (lost h (qce e io) s) s :: more,by rw [hm]; simp⟩,?_⟩
    have hx:log'.length - i = (log'.length - (i + 1)) + 1:=by omega
    rw [hx,List.range'_succ]
    refine ⟨io,s,hios,⟨mark (lost h (qce e io) s) s,?_,(qkU _ _ _).symm,(qqt _ _).symm⟩,hs,ht,hrun⟩
    rw [hm,List.append_assoc,List.getElem?_append_right (by omega)]
    simp [hl]
   ·cases hr
theorem qvi {nx:Nat} {ev:Opd -> AV} {h:Heap} {op:IOp} (hst:qqm op = true) {r:Res} {out:Heap} {b:Bool} (hs:opS IP call nx ev h op = some (r,out,b)):(∃ v,r = .ret v) /\ out = h /\ b = false:=by
 cases op <;> simp only [qqm,Bool.false_eq_true] at hst
 all_goals
  simp only [opS,val,qvs] at hs
  repeat' split at hs
  all_goals first
   | (cases hs; done)
   | (cases hs; exact ⟨⟨_,rfl⟩,rfl,rfl⟩)
theorem qBJ {nx:Nat} {o:IOper} {e:Env} {h:Heap} (hst:qqm o.op = true) {s:Step} (hs:qb9 IP call nx o e h = some s):∀ q,qad (qaR h s) q = qad h q:=by
 intro q
 simp only [qb9] at hs
 split at hs
 ·cases hs
 ·cases hs; rfl
 ·split at hs
  ·cases hs
  ·rename_i r hr
   split at hs
   ·cases hs
   ·rename_i v out b hop
    cases hs
    obtain ⟨_,rfl,rfl⟩:=qvi hst hop
    simp only [qaR,Bool.false_eq_true,if_false,qa4,qfu,qbJ]
    by_cases hq:q ∈ r <;> simp [hq]
   ·rename_i v out b hop
    obtain ⟨⟨v',hv⟩,_⟩:=qvi hst hop
    cases hv
theorem qvj {ios:List IOper} {log:List Step} {base:Nat} {io:IOper}:∀ {rem:List Nat} {e:Env} {h:Heap} {e':Env} {h':Heap},(∀ j,j ∈ rem -> ∀ x,ios[j]? = some x -> qqm x.op = true /\ ∀ d,x.dst = some d -> d ∉ looks io) -> RunsTo IP call ios log base rem e h e' h' ->
  (∀ t,t ∈ looks io -> qbO e' t = qbO e t) /\ ∀ q,qad h' q = qad h q
 | [],e,h,e',h',_,hr=>⟨fun t _=>(hr.1 t).symm,fun q=>(hr.2 q).symm⟩
 | j :: rem,e,h,e',h',hst,hr=>by
  obtain ⟨x,s,hx,_,hs,_,hr⟩:=hr
  obtain ⟨h1,h2⟩:=qvj (rem:=rem) (fun j hj=>hst j (by simp [hj])) hr
  obtain ⟨h3,h4⟩:=hst j (by simp) x hx
  refine ⟨fun t ht=>(h1 t ht).trans ?_,fun q=>(h2 q).trans (qBJ h3 hs q)⟩
  exact qcF fun hd=>h4 t hd ht
theorem qIQ {nx:Nat} {o:IOper} {e e':Env} {h h':Heap} (he:∀ t,t ∈ looks o -> qbO e t = qbO e' t) (hh:∀ q,qad h q = qad h' q):qb9 IP call nx o e h = qb9 IP call nx o e' h':=by
 have hw:qht e o.guard = qht e' o.guard:=qoS fun x hx=>he x.1 (qg7 hx)
 have hids:=qu6 he
 simp only [qb9]
 rw [hw,hids,qjh hh]
 split
 ·rfl
 ·rfl
 ·split
  ·rfl
  ·rename_i r hr
   rw [qoK (fun q _=>hh q),qux (ev:=qaN e) (ev':=qaN e') fun x hx=>qkF fun t ht=>he t (qg8 hx ht)]
theorem mem_ready {md:Region.Mode} {ops:Array Oper} {listed:Array Bool} {i:Nat}:i ∈ Region.ready md ops listed ↔ i < ops.size /\ listed.getD i true = false /\ ∃ o,ops[i]? = some o /\ ∀ e,e ∈ o.after.toList -> Region.binds md e = true -> listed.getD e.on false = true:=by
 simp only [Region.ready,List.mem_filter,List.mem_range,Bool.and_eq_true,Bool.not_eq_true']
 constructor
 ·rintro ⟨h1,h2,h3⟩
  refine ⟨h1,h2,ops[i],by simp [h1],fun e he hb=>?_⟩
  simp only [h1,getElem?_pos,Option.map_some,Option.getD_some,Array.all_eq_true',Bool.or_eq_true,Bool.not_eq_true'] at h3
  rcases h3 e (by simpa using he) with h4 | h4
  ·rw [hb] at h4; cases h4
  ·exact h4
 ·rintro ⟨h1,h2,o,ho,h3⟩
  refine ⟨h1,h2,?_⟩
  rw [ho]
  simp only [Option.map_some,Option.getD_some,Array.all_eq_true',Bool.or_eq_true,Bool.not_eq_true']
  intro e he
  cases hb:Region.binds md e with
  | false=>exact .inl rfl
  | true=>exact .inr (h3 e (by simpa using he) hb)
theorem qhg:∀ {l:List Nat} {i:Nat},l.Pairwise (· < ·) -> i ∈ l -> ∃ pre post,l = pre ++ i :: post /\ (∀ p,p ∈ pre -> p < i) /\ (pre ++ post).Pairwise (· < ·) /\ ∀ j,j ∈ pre ++ post ↔ (j ∈ l /\ j ≠ i)
 | [],i,_,h=>by simp at h
 | x :: l,i,hs,h=>by
  rw [List.pairwise_cons] at hs
  by_cases e:i = x
  ·subst e
   refine ⟨[],l,rfl,by simp,by simpa using hs.2,fun j=>?_⟩
   simp only [List.nil_append,List.mem_cons]
   constructor
   ·exact fun hj=>⟨.inr hj,fun he=>by subst he; exact Nat.lt_irrefl _ (hs.1 _ hj)⟩
   ·rintro ⟨h1 | h1,h2⟩
    ·exact absurd h1 h2
    ·exact h1
  ·have hi:i ∈ l:=by simpa [e] using h
   obtain ⟨pre,post,rfl,hp,hs',hm⟩:=qhg hs.2 hi
   refine ⟨x :: pre,post,rfl,fun p hp'=>?_,?_,fun j=>?_⟩
   ·rcases List.mem_cons.1 hp' with rfl | hp'
    ·exact hs.1 i hi
    ·exact hp p hp'
   ·rw [List.cons_append,List.pairwise_cons]
    exact ⟨fun j hj=>hs.1 j ((hm j).1 hj).1,hs'⟩
   ·simp only [List.cons_append,List.mem_cons,hm j]
    constructor
    ·rintro (rfl | ⟨h1,h2⟩)
     ·exact ⟨.inl rfl,fun he=>e he.symm⟩
     ·exact ⟨.inr h1,h2⟩
    ·rintro ⟨h1 | h1,h2⟩
     ·exact .inl h1
     ·exact .inr ⟨h1,h2⟩
theorem qDr (hcall:qef P call) {n:Nat} {ops:Array Oper} {ios:List IOper} (hc:qgO P hint n ops ops.toList = some ios) {befs:List (List Nat)} (hb:qta ops.toList befs = true) (hap:qeQ ios befs = true)
  {log:List Step} {base:Nat} {e':Env} {h':Heap} (hcalm:calm base befs ios e' log = true) (hlen:log.length = ios.length) {Q:Exit -> Act -> World -> Prop} :
  ∀ (k:Nat) (rem:List Nat) (listed:Array Bool) (e:Env) (h:Heap) (w:World) (I:Imm) (m:Names) (a:Act),rem.length = k -> rem.Pairwise (· < ·) -> (∀ i,i ∈ rem -> i < ops.size) -> listed.size = ops.size -> (∀ i,i < ops.size -> (listed.getD i true = false ↔ i ∈ rem)) ->
   (∀ j,j < ops.size -> j ∉ rem -> ∀ x,x ∈ befs.getD j [] -> x ∉ rem) ->
   RunsTo IP call ios log base rem e h e' h' -> qhV w I m e a -> HeapAt w I m h -> n <= a.tmps.size -> a.defers = Dfs.ds ->
   (∀ i,i ∈ rem -> ∀ q,base + 16 * i <= q -> q < base + 16 * i + 16 -> m q = none) -> (∀ q,base + 16 * ops.size <= q -> m q = none) ->
   (∀ a' w' I' m',Aft w w' I I' m m' h h' -> Fits w' I' m' e' h' (base + 16 * ops.size) n a' -> Q .normal a' w') -> wpAny P .any ops Q k listed a w:=by
 intro k
 induction k with
 | zero=>
  intro rem listed e h w I m a hk hs hr hls hl hcl hrun ht H hsz hdf hfree hfree' hQ
  have:rem = []:=List.length_eq_zero_iff.1 hk
  subst this
  refine ⟨?_,?_⟩
  ·rw [List.eq_nil_iff_forall_not_mem]
   intro i hi
   obtain ⟨h1,h2,_⟩:=mem_ready.1 hi
   simpa using (hl i h1).1 h2
  ·obtain ⟨he,hh⟩:=hrun
   have H':HeapAt w I m h':=H.congr fun q=>(hh q).symm
   exact hQ a w I m ((Aft.refl H).congr fun q=>(hh q).symm) ⟨fun t=>by rw [<- he t]; exact ht t,H',hfree',hsz,hdf⟩
 | succ k ih=>
  intro rem listed e h w I m a hk hs hr hls hl hcl hrun ht H hsz hdf hfree hfree' hQ
  have hget:∀ {j o},ops[j]? = some o -> ops.toList[j]? = some o:=fun h=>by rw [Array.getElem?_toList]; exact h
  refine ⟨fun hnil=>?_,fun i hi=>?_⟩
  ·
   cases rem with
   | nil=>simp at hk
   | cons i rem=>
    have hlt:=hr i (by simp)
    have hin:i ∈ Region.ready .any ops listed:=by
     refine mem_ready.2 ⟨hlt,(hl i hlt).2 (by simp),ops[i],by simp [hlt],fun ed hed hbi=>?_⟩
     have hon:=(qcb hb (hget (j:=i) (o:=ops[i]) (by simp [hlt]))).2 ed hed hbi
     have hnot:ed.on ∉ i :: rem:=by
      rw [List.pairwise_cons] at hs
      intro hm
      rcases List.mem_cons.1 hm with h1 | h1
      ·omega
      ·have:=hs.1 _ h1; omega
     have hlt2:ed.on < listed.size:=by omega
     have h3:listed.getD ed.on true ≠ false:=fun h=>hnot ((hl ed.on (by omega)).1 h)
     simp only [Array.getD_eq_getD_getElem?,hlt2,getElem?_pos,Option.getD_some] at h3 ⊢
     simpa using h3
    rw [hnil] at hin; cases hin
  ·obtain ⟨hlt,hli,o,ho,hready⟩:=mem_ready.1 hi
   have hmem:i ∈ rem:=(hl i hlt).1 hli
   obtain ⟨pre,post,rfl,hpre,hs',hm⟩:=qhg hs hmem
   have hspec:=qcb hb (hget ho)
   have hdone:∀ x,x ∈ befs.getD i [] -> x ∉ pre ++ i :: post:=by
    intro x hx
    obtain ⟨ed,hed,hbi,h1⟩:=hspec.1 x hx
    have hon:=hspec.2 ed hed hbi
    have hlo:=hready ed hed hbi
    have hnot:ed.on ∉ pre ++ i :: post:=fun hmm=>by
     have h2:=(hl ed.on (by omega)).2 hmm
     have hlt2:ed.on < listed.size:=by omega
     simp only [Array.getD_eq_getD_getElem?,hlt2,getElem?_pos,Option.getD_some] at h2 hlo
     rw [h2] at hlo; cases hlo
    rcases h1 with rfl | h1
    ·exact hnot
    ·exact hcl ed.on (by omega) hnot x h1
   have hsmall:∀ (j:Nat),j < ops.size -> ∀ x,x ∈ befs.getD j [] -> x < j:=by
    intro j
    induction j using Nat.strongRecOn with
    | _ j ihj=>
     intro hj x hx
     obtain ⟨ed,hed,hbi,h1⟩:=(qcb hb (hget (j:=j) (o:=ops[j]) (by simp [hj]))).1 x hx
     have hon:=(qcb hb (hget (j:=j) (o:=ops[j]) (by simp [hj]))).2 ed hed hbi
     rcases h1 with rfl | h1
     ·exact hon
     ·have:=ihj ed.on hon (by omega) x h1; omega
   have hil:i < ios.length:=by rw [qcl hc]; simpa using hlt
   have hgood:∀ p,p ∈ pre -> Good ios log e' base p i:=fun p hp=>
    qR9 hap hcalm hlen (hpre p hp) hil (fun hx=>hdone p hx (by simp [hp])) fun hx=>by
     have:=hsmall p (by have:=hpre p hp; omega) i hx
     have:=hpre p hp
     omega
   obtain ⟨io,s,hio,hlog,hstep,htidy,hrun'⟩:=hrun.front hgood hs
   obtain ⟨io',hio',hco⟩:=qfk hc i o (hget ho)
   rw [hio] at hio'; cases hio'
   have hnp:∀ r v out,s ≠ .pan r v out:=fun r v out he=>by subst he; simp [tidy] at htidy
   have key:=qgw hcall ht H (fun q h1 h2=>hfree i hmem q h1 h2) hsz hco hstep (next:=wpAny P .any ops Q k (listed.setIfInBounds i true)) (Q:=Q) ?_ fun r v out u w' I' m' he=>absurd he (hnp r v out)
   ·simp only [wpOp,ho]
    rcases key with ⟨h1,h2⟩ | ⟨h1,h2⟩
    ·rw [h1]; simp only [if_true]; exact .inl h2
    ·rw [h1]; simp only [Bool.false_eq_true,if_false]; exact h2
   ·intro a' w' I' m' _ hA ht' hnew hsz' hdf'
    have hil2:i < listed.size:=by omega
    refine ih (pre ++ post) _ _ _ w' I' m' a' ?_ hs' (fun j hj=>hr j ((hm j).1 hj).1) (by simpa using hls) ?_ ?_ hrun' ht' hA.heap (by rw [hsz']; exact hsz) (by rw [hdf']; exact hdf) ?_ ?_ ?_
    ·simp at hk ⊢; omega
    ·intro j hj
     have hj2:j < listed.size:=by omega
     rw [hm j,<- hl j hj]
     simp only [Array.getD_eq_getD_getElem?,Array.getElem?_setIfInBounds]
     by_cases e1:i = j
     ·subst e1; simp [hil2]
     ·simp [e1,Ne.symm e1]
    ·intro j hj hnj x hx hxm
     rw [hm] at hnj hxm
     by_cases e1:j = i
     ·subst e1; exact hdone x hx hxm.1
     ·exact hcl j hj (fun hjm=>hnj ⟨hjm,e1⟩) x hx hxm.1
    ·intro j hj q h1 h2
     obtain ⟨hjm,hne⟩:=(hm j).1 hj
     cases hq:m' q with
     | none=>rfl
     | some L=>
      have:=hnew q (hfree j hjm q h1 h2) (by rw [hq]; simp)
      omega
    ·intro q h1
     cases hq:m' q with
     | none=>rfl
     | some L=>
      have:=hnew q (hfree' q h1) (by rw [hq]; simp)
      omega
    ·intro a'' w'' I'' m'' hA' F'
     exact hQ a'' w'' I'' m'' (hA.trans hA') F'
theorem qQR (hcall:qef P call) {n:Nat} {ops:Array Oper} {ios:List IOper} (hc:qgO P hint n ops ops.toList = some ios) {befs:List (List Nat)} (hb:qta ops.toList befs = true) (hap:qeQ ios befs = true)
  {log:List Step} {base:Nat} {e':Env} {hj:Heap} {io0:IOper} {r0:List Nat} {v0:AV} {out0:Heap} (hio:ios[log.length]? = some io0) (hcalm:calm base befs ios e' log = true) (hpb:qX1 befs ios log.length = true)
  (hst0:qb9 IP call (base + 16 * log.length) io0 e' hj = some (.pan r0 v0 out0)) {Q:Exit -> Act -> World -> Prop} {y:Nat} :
  ∀ (k:Nat) (rem:List Nat) (listed:Array Bool) (e:Env) (h:Heap) (w:World) (I:Imm) (m:Names) (a:Act),rem.length = k -> rem.Pairwise (· < ·) -> (∀ i,i ∈ rem -> i < log.length) -> listed.size = ops.size -> (∀ i,i < ops.size -> (listed.getD i true = false ↔ (i ∈ rem \/ log.length <= i))) ->
   (∀ j,j < log.length -> j ∉ rem -> ∀ x,x ∈ befs.getD j [] -> x ∉ rem) ->
   RunsTo IP call ios log base rem e h e' hj -> qhV w I m e a -> HeapAt w I m h -> n <= a.tmps.size -> a.defers = Dfs.ds ->
   (∀ i,(i ∈ rem \/ log.length <= i) -> ∀ q,base + 16 * i <= q -> q < base + 16 * i + 16 -> m q = none) ->
   (∀ a' w' I' m' u,Aft w w' I I' m m' h (qaR hj (.pan r0 v0 out0)) -> Rel w' I' v0 m' u -> a'.defers = Dfs.ds -> Q (.panic [{ v:=u,recovered:=false }]) a' w') -> wpAny P .any ops Q (k + 1 + y) listed a w:=by
 have hget:∀ {j o},ops[j]? = some o -> ops.toList[j]? = some o:=fun h=>by rw [Array.getElem?_toList]; exact h
 have hjp:log.length < ops.size:=by
  have:=(List.getElem?_eq_some_iff.1 hio).1
  have hl:=qcl hc
  rw [hl] at this
  simpa using this
 have hsmall:∀ (j:Nat),j < ops.size -> ∀ x,x ∈ befs.getD j [] -> x < j:=by
  intro j
  induction j using Nat.strongRecOn with
  | _ j ihj=>
   intro hj x hx
   obtain ⟨ed,hed,hbi,h1⟩:=(qcb hb (hget (j:=j) (o:=ops[j]) (by simp [hj]))).1 x hx
   have hon:=(qcb hb (hget (j:=j) (o:=ops[j]) (by simp [hj]))).2 ed hed hbi
   rcases h1 with rfl | h1
   ·exact hon
   ·have:=ihj ed.on hon (by omega) x h1; omega
 simp only [qX1,Bool.and_eq_true,List.all_eq_true,List.mem_range,Bool.or_eq_true,List.contains_iff_mem] at hpb
 obtain ⟨hpb1,hpb2⟩:=hpb
 have step:∀ (k:Nat),(∀ (rem:List Nat) (listed:Array Bool) (e:Env) (h:Heap) (w:World) (I:Imm) (m:Names) (a:Act),rem.length + 1 = k -> rem.Pairwise (· < ·) -> (∀ i,i ∈ rem -> i < log.length) -> listed.size = ops.size -> (∀ i,i < ops.size -> (listed.getD i true = false ↔ (i ∈ rem \/ log.length <= i))) ->
   (∀ j,j < log.length -> j ∉ rem -> ∀ x,x ∈ befs.getD j [] -> x ∉ rem) ->
   RunsTo IP call ios log base rem e h e' hj -> qhV w I m e a -> HeapAt w I m h -> n <= a.tmps.size -> a.defers = Dfs.ds ->
   (∀ i,(i ∈ rem \/ log.length <= i) -> ∀ q,base + 16 * i <= q -> q < base + 16 * i + 16 -> m q = none) ->
   (∀ a' w' I' m' u,Aft w w' I I' m m' h (qaR hj (.pan r0 v0 out0)) -> Rel w' I' v0 m' u -> a'.defers = Dfs.ds -> Q (.panic [{ v:=u,recovered:=false }]) a' w') -> wpAny P .any ops Q (k + y) listed a w) ->
  ∀ (rem:List Nat) (listed:Array Bool) (e:Env) (h:Heap) (w:World) (I:Imm) (m:Names) (a:Act),rem.length = k -> rem.Pairwise (· < ·) -> (∀ i,i ∈ rem -> i < log.length) -> listed.size = ops.size -> (∀ i,i < ops.size -> (listed.getD i true = false ↔ (i ∈ rem \/ log.length <= i))) ->
   (∀ j,j < log.length -> j ∉ rem -> ∀ x,x ∈ befs.getD j [] -> x ∉ rem) ->
   RunsTo IP call ios log base rem e h e' hj -> qhV w I m e a -> HeapAt w I m h -> n <= a.tmps.size -> a.defers = Dfs.ds ->
   (∀ i,(i ∈ rem \/ log.length <= i) -> ∀ q,base + 16 * i <= q -> q < base + 16 * i + 16 -> m q = none) ->
   (∀ a' w' I' m' u,Aft w w' I I' m m' h (qaR hj (.pan r0 v0 out0)) -> Rel w' I' v0 m' u -> a'.defers = Dfs.ds -> Q (.panic [{ v:=u,recovered:=false }]) a' w') -> wpAny P .any ops Q (k + 1 + y) listed a w:=by
  intro k ih rem listed e h w I m a hk hs hr hls hl hcl hrun ht H hsz hdf hfree hQ
  rw [show k + 1 + y = (k + y) + 1 by omega]
  have hmono:∀ {j},listed.getD j false = true -> j < ops.size -> ¬ (j ∈ rem \/ log.length <= j):=by
   intro j h1 hj hm
   have h2:=(hl j hj).2 hm
   have hlt2:j < listed.size:=by omega
   simp only [Array.getD_eq_getD_getElem?,hlt2,getElem?_pos,Option.getD_some] at h1 h2
   rw [h2] at h1; cases h1
  refine ⟨fun hnil=>?_,fun i hi=>?_⟩
  ·
   have key:∀ i,i < ops.size -> (i ∈ rem \/ log.length <= i) -> (∀ j,j < i -> ¬ (j ∈ rem \/ log.length <= j)) -> False:=by
    intro i hlt hin hleast
    have hin':i ∈ Region.ready .any ops listed:=by
     refine mem_ready.2 ⟨hlt,(hl i hlt).2 hin,ops[i],by simp [hlt],fun ed hed hbi=>?_⟩
     have hon:=(qcb hb (hget (j:=i) (o:=ops[i]) (by simp [hlt]))).2 ed hed hbi
     have h3:listed.getD ed.on true ≠ false:=fun h=>hleast ed.on hon ((hl ed.on (by omega)).1 h)
     have hlt2:ed.on < listed.size:=by omega
     simp only [Array.getD_eq_getD_getElem?,hlt2,getElem?_pos,Option.getD_some] at h3 ⊢
     simpa using h3
    rw [hnil] at hin'; cases hin'
   exfalso
   cases rem with
   | nil=>
    refine key log.length hjp (.inr (Nat.le_refl _)) fun j hj hm=>?_
    rcases hm with hm | hm
    ·cases hm
    ·omega
   | cons i rem=>
    refine key i (by have:=hr i (by simp); omega) (.inl (by simp)) fun j hj hm=>?_
    rw [List.pairwise_cons] at hs
    rcases hm with hm | hm
    ·rcases List.mem_cons.1 hm with rfl | hm
     ·omega
     ·have:=hs.1 j hm; omega
    ·have:=hr i (by simp); omega
  ·obtain ⟨hlt,hli,o,ho,hready⟩:=mem_ready.1 hi
   have hspec:=qcb hb (hget ho)
   have hdone:i <= log.length -> ∀ x,x ∈ befs.getD i [] -> x ∉ rem:=by
    intro hile x hx
    obtain ⟨ed,hed,hbi,h1⟩:=hspec.1 x hx
    have hon:=hspec.2 ed hed hbi
    have hnot:=hmono (hready ed hed hbi) (by omega)
    rcases h1 with rfl | h1
    ·exact fun h=>hnot (.inl h)
    ·exact hcl ed.on (by omega) (fun h=>hnot (.inl h)) x h1
   rcases (hl i hlt).1 hli with hmem | hge
   ·
    obtain ⟨pre,post,rfl,hpre,hs',hm⟩:=qhg hs hmem
    have hil:=hr i hmem
    have hion:i < ios.length:=by rw [qcl hc]; simpa using hlt
    have hgood:∀ p,p ∈ pre -> Good ios log e' base p i:=fun p hp=>
     qKy hap hcalm (hpre p hp) hion hil (fun hx=>hdone (Nat.le_of_lt hil) p hx (by simp [hp])) fun hx=>by
      have:=hsmall p (by have:=hpre p hp; omega) i hx
      have:=hpre p hp
      omega
    obtain ⟨io,s,hio',hlog',hstep,htidy,hrun'⟩:=hrun.front hgood hs
    obtain ⟨io2,hio2,hco⟩:=qfk hc i o (hget ho)
    rw [hio'] at hio2; cases hio2
    have hnp:∀ r v out,s ≠ .pan r v out:=fun r v out he=>by subst he; simp [tidy] at htidy
    have key:=qgw hcall ht H (fun q h1 h2=>hfree i (.inl hmem) q h1 h2) hsz hco hstep (next:=wpAny P .any ops Q (k + y) (listed.setIfInBounds i true)) (Q:=Q) ?_ fun r v out u w' I' m' he=>absurd he (hnp r v out)
    ·simp only [wpOp,ho]
     rcases key with ⟨h1,h2⟩ | ⟨h1,h2⟩
     ·rw [h1]; simp only [if_true]; exact .inl h2
     ·rw [h1]; simp only [Bool.false_eq_true,if_false]; exact h2
    ·intro a' w' I' m' _ hA ht' hnew hsz' hdf'
     have hil2:i < listed.size:=by omega
     refine ih (pre ++ post) _ _ _ w' I' m' a' ?_ hs' (fun j hj=>hr j ((hm j).1 hj).1) (by simpa using hls) ?_ ?_ hrun' ht' hA.heap (by rw [hsz']; exact hsz) (by rw [hdf']; exact hdf) ?_ ?_
     ·simp at hk ⊢; omega
     ·intro j hj
      have hj2:j < listed.size:=by omega
      by_cases e1:i = j
      ·subst e1
       have hnm:¬ (i ∈ pre ++ post \/ log.length <= i):=by
        rintro (h | h)
        ·exact ((hm i).1 h).2 rfl
        ·omega
       simp only [Array.getD_eq_getD_getElem?,Array.getElem?_setIfInBounds,if_true,hil2,hnm,iff_false]
       simp
      ·have hx:=hl j hj
       rw [hm j]
       simp only [Array.getD_eq_getD_getElem?,Array.getElem?_setIfInBounds,if_neg e1] at hx ⊢
       rw [hx]
       constructor
       ·exact fun h=>h.imp (fun h=>⟨h,Ne.symm e1⟩) id
       ·exact fun h=>h.imp (fun h=>h.1) id
     ·intro j hj hnj x hx hxm
      rw [hm] at hnj hxm
      by_cases e1:j = i
      ·subst e1; exact hdone (Nat.le_of_lt hil) x hx hxm.1
      ·exact hcl j hj (fun hjm=>hnj ⟨hjm,e1⟩) x hx hxm.1
     ·intro j hj q h1 h2
      have hjm:j ∈ pre ++ i :: post \/ log.length <= j:=hj.imp (fun h=>((hm j).1 h).1) id
      have hne:j ≠ i:=by
       rcases hj with h | h
       ·exact ((hm j).1 h).2
       ·omega
      cases hq:m' q with
      | none=>rfl
      | some L=>
       have:=hnew q (hfree j hjm q h1 h2) (by rw [hq]; simp)
       omega
     ·intro a'' w'' I'' m'' u hA' hu hd
      exact hQ a'' w'' I'' m'' u (hA.trans hA') hu hd
   ·by_cases hij:i = log.length
    ·
     subst hij
     have hstill:∀ j,j ∈ rem -> ∀ x,ios[j]? = some x -> qqm x.op = true /\ ∀ d,x.dst = some d -> d ∉ looks io0:=by
      intro j hj x hx
      have hjl:=hr j hj
      have hnb:j ∉ befs.getD log.length []:=fun h=>hdone (Nat.le_refl _) j h hj
      refine ⟨?_,fun d hd=>?_⟩
      ·rcases hpb2 j hjl with h | h
       ·exact absurd h hnb
       ·rw [hx] at h; exact h
      ·simp only [qeQ,List.all_eq_true,List.mem_range,Bool.or_eq_true,List.contains_iff_mem] at hap
       have hion:log.length < ios.length:=(List.getElem?_eq_some_iff.1 hio).1
       rcases hap log.length hion j hjl with h | h
       ·exact absurd h hnb
       ·rw [hx,hio] at h
        exact ((qib h).1 d hd).1
     obtain ⟨he,hh⟩:=qvj hstill hrun
     have hst:qb9 IP call (base + 16 * log.length) io0 e h = some (.pan r0 v0 out0):=by
      rw [<- hst0]
      exact qIQ (fun t ht=>(he t ht).symm) fun q=>(hh q).symm
     obtain ⟨io2,hio2,hco⟩:=qfk hc log.length o (hget ho)
     rw [hio] at hio2; cases hio2
     have key:=qgw hcall ht H (fun q h1 h2=>hfree log.length (.inr (Nat.le_refl _)) q h1 h2) hsz hco hst (next:=wpAny P .any ops Q (k + y) (listed.setIfInBounds log.length true)) (Q:=Q) ?_ ?_
     ·simp only [wpOp,ho]
      rcases key with ⟨h1,h2⟩ | ⟨h1,h2⟩
      ·rw [h1]; simp only [if_true]; exact .inl h2
      ·rw [h1]; simp only [Bool.false_eq_true,if_false]; exact h2
     ·intro a' w' I' m' hn
      exact absurd rfl (hn r0 v0 out0)
     ·intro r v out u w' I' m' heq hA hu
      cases heq
      exact hQ a w' I' m' u (hA.congr (qkJ hh _)) hu hdf
    ·
     exfalso
     rcases hpb1 i (by rw [qcl hc]; simpa using hlt) with h | h
     ·have:=Nat.le_of_ble_eq_true h; omega
     ·obtain ⟨ed,hed,hbi,h1⟩:=hspec.1 _ h
      have hon:=hspec.2 ed hed hbi
      have hnot:=hmono (hready ed hed hbi) (by omega)
      have hlo:ed.on < log.length:=by
       apply Classical.byContradiction
       intro hc'
       exact hnot (.inr (by omega))
      rcases h1 with h1 | h1
      ·omega
      ·have:=hsmall ed.on (by omega) _ h1; omega
 intro k
 induction k with
 | zero=>exact step 0 fun rem _ _ _ _ _ _ _ hk=>absurd hk (by omega)
 | succ k ih=>
  refine step (k + 1) fun rem listed e h w I m a hk=>?_
  exact ih rem listed e h w I m a (by omega)
end
end Go.Eng
namespace Go.Eng
set_option linter.unusedSectionVars false
variable [Globs] [Dfs]
section
variable {P:Program} {hint:Nat -> Nat} {w:World} {I:Imm} {m:Names} {h:Heap} {nx:Nat} {e:Env} {a:Act}
def qOd (P:Program) (hint:Nat -> Nat) (n:Nat) (ops:Array Oper):Bool -> Option ICode
 | false=>(qgO P hint n ops ops.toList).map fun xs=>.region xs none
 | true=>match qgO P hint n ops ops.toList with
  | some xs=>if P.follows .mixedOrders && qta ops.toList (qxR ops.toList []) && qeQ xs (qxR ops.toList []) then some (.region xs (some (qxR ops.toList []))) else none
  | none=>none
def qIU:ICode:=.region [⟨none,qrU,none⟩] none
theorem qkE {IP:Prog} {call:qa7} {loop:qgM} (s:St):qdc IP call loop qIU s = none:=rfl
def qjG (P:Program) (hint:Nat -> Nat) (n:Nat):Code -> List (List Nat) -> Option (ICode × List (List Nat))
 | .skip,ks=>some (.skip,ks)
 | .label _,ks=>some (.skip,ks)
 | .region _ ops d,ks=>some ((qOd P hint n ops d).getD qIU,ks)
 | .seq a b,ks=>match qjG P hint n a ks with
  | some (x,ks)=>match qjG P hint n b ks with
   | some (y,ks)=>some (.seq x y,ks)
   | none=>none
  | none=>none
 | .cond c a b,ks=>match qdb c with
  | some c=>match qjG P hint n a ks with
   | some (x,ks)=>match qjG P hint n b ks with
    | some (y,ks)=>some (.cond c x y,ks)
    | none=>none
   | none=>none
  | none=>none
 | .block id c,ks=>match qjG P hint n c ks with
  | some (x,ks)=>some (.block id x,ks)
  | none=>none
 | .loop c,k :: ks=>match qjG P hint n c ks with
  | some (x,ks)=>some (.loop k x,ks)
  | none=>none
 | .exit id,ks=>some (.exit id,ks)
 | .ret,ks=>some (.ret,ks)
 | _,ks=>some (qIU,ks)
def qJ6 (P:Program) (c:Code) (Q:Exit -> Act -> World -> Prop) (a:Act) (w:World):Prop:=
 ∀ (b:Frame) (k:List Item) (cs:List Frame),∃ e a' w',Q e a' w' /\ Arrives P (lone (b.at a (.code c :: .inLoop c :: k)) cs w) b k cs e a' w'
theorem qLq {c:Code} {Q:Exit -> Act -> World -> Prop} (h:qJ6 P c Q a w):(Code.loop c).wp P Q a w:=by
 intro b k cs
 obtain ⟨e,a',w',hq,harr⟩:=h b k cs
 exact ⟨e,a',w',hq,.of_steps (.one step_loop) harr⟩
theorem qzE {c:Code} {Q Q':Exit -> Act -> World -> Prop} (h:c.wp P Q' a w) (hn:∀ a w,Q' .normal a w -> qJ6 P c Q a w) (hq:∀ e a w,e ≠ .normal -> Q' e a w -> Q e a w):qJ6 P c Q a w:=by
 intro b k cs
 obtain ⟨e,a₁,w₁,hq',harr⟩:=h b (.inLoop c :: k) cs
 cases e with
 | normal=>
  obtain ⟨e₂,a₂,w₂,hq₂,harr₂⟩:=hn _ _ hq' b k cs
  exact ⟨e₂,a₂,w₂,hq₂,.of_steps (Steps.trans harr (.one step_inLoop)) harr₂⟩
 | exit id=>exact ⟨_,a₁,w₁,hq _ _ _ (by simp) hq',.pass (x:=.inLoop c) rfl (fun _ _=>.inl (by simp)) harr⟩
 | goto l=>exact ⟨_,a₁,w₁,hq _ _ _ (by simp) hq',.pass (x:=.inLoop c) rfl (fun _ _=>.inl (by simp)) harr⟩
 | ret=>exact ⟨_,a₁,w₁,hq _ _ _ (by simp) hq',.pass (x:=.inLoop c) rfl (fun _ _=>.inl (by simp)) harr⟩
 | panic ch=>exact ⟨_,a₁,w₁,hq _ _ _ (by simp) hq',.pass (x:=.inLoop c) rfl (fun _ _=>.inl (by simp)) harr⟩
 | outgrown=>exact ⟨_,a₁,w₁,hq _ _ _ (by simp) hq',.pass (x:=.inLoop c) rfl (fun _ _=>.inl (by simp)) harr⟩
def qo7 (P:Program) (loop:qgM):Prop:=∀ keep ic s x s',loop keep ic s = some (x,s') -> s'.k = s.k /\ ∀ hint n c keeps keeps',qjG P hint n c keeps = some (ic,keeps') ->
 ∀ (w:World) (I:Imm) (m:Names) (a:Act) (Q:Exit -> Act -> World -> Prop),Fits w I m s.tm s.hp s.nx n a -> (∀ e a' w',Ends w I m s.hp s.k n x s' e a' w' -> Q e a' w') -> qJ6 P c Q a w
theorem qvl (r:Nat -> Option Nat) (e:Env):∀ (keep:List Nat) (t:Nat),qbO (qWm r (keepE e keep)) t = ren r (qbO e t) \/ qbO (qWm r (keepE e keep)) t = .junk
 | [],t=>.inr rfl
 | k :: ks,t=>by
  simp only [keepE,qWm,qbO]
  by_cases h:t = k
  ·subst h; simp
  ·simp only [if_neg h]; exact qvl r e ks t
theorem qBE {n:Nat} {h:Heap} {todo seen r:List Nat} (hr:qbL n h todo seen = some r):∃ q,r = seen ++ q:=by
 induction n generalizing todo seen with
 | zero=>
  cases todo with
  | nil=>simp [qbL] at hr; exact ⟨[],by simp [hr]⟩
  | cons=>simp [qbL] at hr
 | succ n ih=>
  cases todo with
  | nil=>simp [qbL] at hr; exact ⟨[],by simp [hr]⟩
  | cons i todo=>
   simp only [qbL] at hr
   split at hr
   ·exact ih hr
   ·split at hr
    ·obtain ⟨q,hq⟩:=ih hr
     exact ⟨i :: q,by rw [hq]; simp⟩
    ·exact ih hr
theorem qk2 {k i:Nat} {q:List Nat} (h:i < k):(List.range k ++ q)[i]? = some i:=by
 rw [List.getElem?_append_left (by simpa using h)]
 simp [h]
theorem qu5 (H:HeapAt w I m h) {k n:Nat} {todo r:List Nat} (hr:qbL n h todo (List.range k) = some r) :
  HeapAt w I (fun j=>(r[j]?).bind m) (qhc (place r) (sub h r)) /\ Fr k w w I I m (fun j=>(r[j]?).bind m) h (qhc (place r) (sub h r)) /\ (∀ i j L,place r i = some j -> m i = some L -> (r[j]?).bind m = some L):=by
 have hnd:r.Nodup:=qex _ _ _ _ _ hr List.nodup_range
 have hpl:∀ i j L,place r i = some j -> m i = some L -> (r[j]?).bind m = some L:=by
  intro i j L hp hL
  rw [qcN hp]; exact hL
 have hsub:HeapAt w I m (sub h r):=H.sub' fun i b hi=>by
  rw [qbJ] at hi
  split at hi
  ·exact hi
  ·cases hi
 have hren:HeapAt w I (fun j=>(r[j]?).bind m) (qhc (place r) (sub h r)):=hsub.ren hpl fun i i' j h1 h2=>by
  have e1:=qcN h1
  have e2:=qcN h2
  rw [e1] at e2; cases e2; rfl
 refine ⟨hren,⟨Stays.refl w I,fun _ _ h=>h,fun i L hi hL=>?_,fun _ _ _=>rfl,fun _ _ h=>.inl h,fun b ho=>.inl ?_⟩,hpl⟩
 ·obtain ⟨q,rfl⟩:=qBE hr
  rw [qk2 hi]; exact hL
 ·obtain ⟨j,x,L,hj,hL,rfl⟩:=ho
  obtain ⟨i,x',hi,hij,_⟩:=qdG hj
  have hL':(r[j]?).bind m = some L:=hL
  rw [qcN hij] at hL'
  rw [qbJ] at hi
  split at hi
  ·exact ⟨i,x',L,hi,hL',rfl⟩
  ·cases hi
theorem qkb {s s1:St} {n:Nat} {keep:List Nat} (F:Fits w I m s.tm s.hp s.nx n a) (hn:norm keep s = some s1):s1.k = s.k /\ ∃ m1,Fits w I m1 s1.tm s1.hp s1.nx n a /\ Fr s.k w w I I m m1 s.hp s1.hp:=by
 simp only [norm] at hn
 split at hn
 ·cases hn
 ·rename_i r hr
  cases hn
  obtain ⟨hH,hF,hpl⟩:=qu5 F.hp hr
  refine ⟨rfl,_,⟨fun t=>?_,hH,fun i hi=>?_,F.sz,F.df⟩,hF⟩
  ·rcases qvl (place r) s.tm keep t with ht | ht
   ·simp only [ht]; exact qeC hpl _ (F.tm t)
   ·simp only [ht]; simp [Rel]
  ·have:r[i]? = none:=by simpa using hi
   simp [this]
theorem Fits.drew {n:Nat} (F:Fits w I m e h nx n a):Fits w.drew I m e h nx n a:=
 ⟨qxC F.tm ⟨Nat.le_refl _,fun _ C _ h=>⟨C,h,rfl⟩,fun _ _ _=>rfl,⟨rfl,rfl,rfl⟩⟩ (fun _ _ h=>h) (fun _ _ h=>h),F.hp.drew,F.nx,F.sz,F.df⟩
theorem Aft.drew {w':World} {I':Imm} {m':Names} {h':Heap} (a:Aft w.drew w' I I' m m' h h'):Aft w w' I I' m m' h h':=
 ⟨⟨a.stays.size,a.stays.row,a.stays.imm,a.stays.out⟩,a.imm,a.names,a.heap,a.frame,a.newI,a.owns⟩
theorem qIu {IP:Prog} {call:qa7} (hcall:qef P call) {n:Nat} {ops:Array Oper} {id:Nat} {d:Bool} {iops:List IOper} {dr:Option (List (List Nat))} (hc:qOd P hint n ops d = some (.region iops dr)) {s:St} {x:X} {s':St}
  (hr:qbC IP call iops dr s = some (x,s')) {a:Act} (F:Fits w I m s.tm s.hp s.nx n a) {Q:Exit -> Act -> World -> Prop} (hQ:∀ e a' w',Ends w I m s.hp s.k n x s' e a' w' -> Q e a' w') :
  (Code.region id ops d).wp P Q a w:=by
 cases d with
 | true=>
  simp only [qOd] at hc
  split at hc
  ·rename_i xs hxs
   split at hc
   ·rename_i hok
    cases hc
    simp only [Bool.and_eq_true] at hok
    obtain ⟨⟨hm,hb⟩,hap⟩:=hok
    simp only [qbC] at hr
    split at hr
    ·cases hr
    ·rename_i e' h' log hrun
     split at hr
     ·rename_i hcalm
      cases hr
      have hl:=qcl hxs
      have hl':iops.length = ops.size:=by simpa using hl
      obtain ⟨_,hlen,hto⟩:=qjj (ios:=iops) iops 0 _ _ [] _ _ _ rfl rfl hrun
      rw [hl',<- List.range_eq_range'] at hto
      have F':=F.drew
      refine wp_region_any hm ?_
      refine qDr hcall hxs hb hap hcalm (by simpa using hlen) ops.size (List.range ops.size) _ _ _ _ I m a (by simp) List.pairwise_lt_range (fun i hi=>by simpa using hi) (by simp) (fun i hi=>by simp [hi]) (fun j hj hn=>absurd (by simpa using hj) hn) hto F'.tm F'.hp F'.sz F'.df
       (fun i _ q h1 _=>F.nx q (by omega)) (fun q h1=>F.nx q (by omega)) ?_
      intro a' w' I' m' hA Fin
      refine hQ _ _ _ ⟨I',m',hA.drew.fr _,rfl,?_⟩
      rw [hl']
      exact Fin
     ·cases hr
    ·rename_i v e' h' log hrun
     split at hr
     ·rename_i hcalm
      cases hr
      rw [Bool.and_eq_true] at hcalm
      have hl:=qcl hxs
      have hl':iops.length = ops.size:=by simpa using hl
      obtain ⟨io,r,out,hj,hjl,hio,hst,hh,_,hto⟩:=qqf (ios:=iops) iops 0 _ _ [] _ _ _ _ rfl rfl hrun
      have F':=F.drew
      refine wp_region_any hm ?_
      subst hh
      rw [Nat.sub_zero,<- List.range_eq_range'] at hto
      have hjs:log.length < ops.size:=by simpa [hl'] using hjl
      obtain ⟨y,hy⟩:∃ y,ops.size = log.length + 1 + y:=⟨ops.size - log.length - 1,by omega⟩
      have key:=qQR (Q:=Q) hcall hxs hb hap hio hcalm.1 hcalm.2 hst (y:=y) log.length (List.range log.length) (Array.replicate ops.size false) _ _ _ I m a (by simp) List.pairwise_lt_range (fun i hi=>by simpa using hi) (by simp) (fun i hi=>by simp [hi]; omega) (fun j hj hn=>absurd (by simpa using hj) hn) hto F'.tm F'.hp F'.sz F'.df
       (fun i _ q h1 _=>F.nx q (by omega)) ?_
      ·rw [<- hy] at key; exact key
      ·intro a' w' I' m' u hA hu hd
       exact hQ _ _ _ ⟨I',m',hA.drew.fr _,hd,hA.heap,fun t=>by simp [qbO,Rel],u,rfl,hu⟩
     ·cases hr
   ·cases hc
  ·cases hc
 | false=>
  simp only [qOd,Option.map_eq_some_iff] at hc
  obtain ⟨xs,hxs,he⟩:=hc
  cases he
  simp only [qbC] at hr
  split at hr
  ·cases hr
  ·rename_i x1 e' h' log' hrun
   cases hr
   refine wp_region ?_
   have hl:=qcl hxs
   have:=quy (k:=s.k) hcall hxs iops 0 _ _ w I m a [] log' _ e' h' s.nx rfl F hrun hQ
   rw [hl] at this
   rw [List.range_eq_range']
   simpa using this
theorem qxj {IP:Prog} {call:qa7} {iops:List IOper} {dr:Option (List (List Nat))} {s:St} {x:X} {s':St} (hr:qbC IP call iops dr s = some (x,s')):s'.k = s.k:=by
 simp only [qbC] at hr
 split at hr
 ·split at hr
  ·cases hr
  ·cases hr; rfl
 ·split at hr
  ·cases hr
  ·split at hr
   ·cases hr; rfl
   ·cases hr
  ·split at hr
   ·cases hr; rfl
   ·cases hr
theorem qD2 {IP:Prog} {call:qa7} {loop:qgM} (hloop:∀ keep ic s x s',loop keep ic s = some (x,s') -> s'.k = s.k):∀ (ic:ICode) (s:St) (x:X) (s':St),qdc IP call loop ic s = some (x,s') -> s'.k = s.k:=by
 intro ic
 induction ic with
 | skip=>intro s x s' h; simp [qdc] at h; rw [h.2]
 | region ops d=>intro s x s' h; exact qxj h
 | seq a b iha ihb=>
  intro s x s' h
  simp only [qdc] at h
  split at h
  ·rename_i s1 h1
   exact (ihb _ _ _ h).trans (iha _ _ _ h1)
  ·exact iha _ _ _ h
 | cond c a b iha ihb=>
  intro s x s' h
  simp only [qdc] at h
  split at h
  ·exact iha _ _ _ h
  ·exact ihb _ _ _ h
  ·cases h
 | block id c ih=>
  intro s x s' h
  simp only [qdc] at h
  split at h
  ·rename_i j s1 h1
   split at h <;> cases h <;> exact ih _ _ _ h1
  ·exact ih _ _ _ h
 | loop keep c ih=>intro s x s' h; exact hloop _ _ _ _ _ h
 | exit id=>intro s x s' h; simp [qdc] at h; rw [h.2]
 | ret=>intro s x s' h; simp [qdc] at h; rw [h.2]
theorem Ends.out {k n:Nat} {h:Heap} {x:X} {s:St} {e:Exit} {a:Act} {w':World} (E:Ends w I m h k n x s e a w') (hx:x ≠ .normal):e ≠ .normal:=by
 obtain ⟨I',m',f,hm⟩:=E
 cases x with
 | normal=>exact absurd rfl hx
 | exit id=>obtain ⟨rfl,_⟩:=hm; simp
 | ret=>obtain ⟨rfl,_⟩:=hm; simp
 | pan v=>obtain ⟨_,_,_,u,rfl,_⟩:=hm; simp
theorem qcm {IP:Prog} {call:qa7} {loop:qgM} (hcall:qef P call) (hloop:qo7 P loop) {n:Nat}:∀ (c:Code) (keeps keeps':List (List Nat)) (ic:ICode),qjG P hint n c keeps = some (ic,keeps') ->
  ∀ (s:St) (x:X) (s':St),qdc IP call loop ic s = some (x,s') -> ∀ (w:World) (I:Imm) (m:Names) (a:Act) (Q:Exit -> Act -> World -> Prop),Fits w I m s.tm s.hp s.nx n a ->
   (∀ e a' w',Ends w I m s.hp s.k n x s' e a' w' -> Q e a' w') -> c.wp P Q a w:=by
 have hk:=qD2 (IP:=IP) (call:=call) (fun keep ic s x s' h=>(hloop keep ic s x s' h).1)
 intro c
 induction c with
 | skip=>
  intro keeps keeps' ic hc s x s' hx w I m a Q F hQ
  simp [qjG] at hc
  obtain ⟨rfl,rfl⟩:=hc
  simp [qdc] at hx
  obtain ⟨rfl,rfl⟩:=hx
  exact wp_skip (hQ _ _ _ ⟨I,m,Fr.refl _,rfl,F⟩)
 | label l=>
  intro keeps keeps' ic hc s x s' hx w I m a Q F hQ
  simp [qjG] at hc
  obtain ⟨rfl,rfl⟩:=hc
  simp [qdc] at hx
  obtain ⟨rfl,rfl⟩:=hx
  exact wp_label (hQ _ _ _ ⟨I,m,Fr.refl _,rfl,F⟩)
 | exit id=>
  intro keeps keeps' ic hc s x s' hx w I m a Q F hQ
  simp [qjG] at hc
  obtain ⟨rfl,rfl⟩:=hc
  simp [qdc] at hx
  obtain ⟨rfl,rfl⟩:=hx
  exact wp_exit (hQ _ _ _ ⟨I,m,Fr.refl _,rfl,F⟩)
 | ret=>
  intro keeps keeps' ic hc s x s' hx w I m a Q F hQ
  simp [qjG] at hc
  obtain ⟨rfl,rfl⟩:=hc
  simp [qdc] at hx
  obtain ⟨rfl,rfl⟩:=hx
  exact wp_ret (hQ _ _ _ ⟨I,m,Fr.refl _,rfl,F⟩)
 | region id ops d=>
  intro keeps keeps' ic hc s x s' hx w I m a Q F hQ
  simp only [qjG,Option.some.injEq,Prod.mk.injEq] at hc
  obtain ⟨he,rfl⟩:=hc
  have hc:qOd P hint n ops d = some ic:=by
   cases hq:qOd P hint n ops d with
   | none=>rw [hq] at he; simp only [Option.getD_none] at he; subst he; rw [qkE] at hx; cases hx
   | some c=>rw [hq] at he; simp only [Option.getD_some] at he; rw [he]
  cases ic with
  | region iops dr=>exact qIu hcall hc hx F hQ
  | _=>
   cases d
   ·simp [qOd] at hc
   ·simp only [qOd] at hc
    split at hc
    ·split at hc <;> cases hc
    ·cases hc
 | seq c1 c2 ih1 ih2=>
  intro keeps keeps' ic hc s x s' hx w I m a Q F hQ
  simp only [qjG] at hc
  split at hc
  ·rename_i x1 ks1 h1
   split at hc
   ·rename_i x2 ks2 h2
    cases hc
    simp only [qdc] at hx
    split at hx
    ·rename_i s1 hx1
     have hk1:=hk _ _ _ _ hx1
     refine wp_seq (ih1 _ _ _ h1 _ _ _ hx1 w I m a _ F ?_)
     rintro e a' w' ⟨I',m',f,rfl,F'⟩
     exact ih2 _ _ _ h2 _ _ _ hx w' I' m' a' Q F' fun e'' a'' w'' E=>hQ _ _ _ (by rw [hk1] at E; exact E.after f)
    ·rename_i hne
     refine wp_seq (ih1 _ _ _ h1 _ _ _ hx w I m a _ F ?_)
     intro e a' w' E
     have hne':e ≠ .normal:=E.out fun hxn=>by subst hxn; exact hne s' hx
     cases e with
     | normal=>exact absurd rfl hne'
     | _=>exact hQ _ _ _ E
   ·cases hc
  ·cases hc
 | cond c c1 c2 ih1 ih2=>
  intro keeps keeps' ic hc s x s' hx w I m a Q F hQ
  simp only [qjG] at hc
  split at hc
  ·rename_i y hy
   split at hc
   ·rename_i x1 ks1 h1
    split at hc
    ·rename_i x2 ks2 h2
     cases hc
     have hr:=qay F.tm hy
     simp only [qdc] at hx
     split at hx
     ·rename_i ht
      rw [ht] at hr
      simp only [Rel] at hr
      exact wp_cond_true hr (ih1 _ _ _ h1 _ _ _ hx w I m a Q F hQ)
     ·rename_i ht
      rw [ht] at hr
      simp only [Rel] at hr
      exact wp_cond_false hr (ih2 _ _ _ h2 _ _ _ hx w I m a Q F hQ)
     ·cases hx
    ·cases hc
   ·cases hc
  ·cases hc
 | block id c ih=>
  intro keeps keeps' ic hc s x s' hx w I m a Q F hQ
  simp only [qjG] at hc
  split at hc
  ·rename_i x1 ks1 h1
   cases hc
   simp only [qdc] at hx
   split at hx
   ·rename_i j s1 hx1
    refine wp_block (ih _ _ _ h1 _ _ _ hx1 w I m a _ F ?_)
    rintro e a' w' ⟨I',m',f,rfl,F'⟩
    simp only [Exit.inBlock]
    split at hx
    ·rename_i hj
     cases hx
     rw [if_pos hj]
     exact hQ _ _ _ ⟨I',m',f,rfl,F'⟩
    ·rename_i hj
     cases hx
     rw [if_neg hj]
     exact hQ _ _ _ ⟨I',m',f,rfl,F'⟩
   ·rename_i hne
    refine wp_block (ih _ _ _ h1 _ _ _ hx w I m a _ F ?_)
    intro e a' w' E
    have hne':∀ j,e ≠ .exit j:=by
     intro j hj
     obtain ⟨I',m',f,hm⟩:=E
     cases x with
     | normal=>obtain ⟨rfl,_⟩:=hm; cases hj
     | exit i=>exact hne i s' hx
     | ret=>obtain ⟨rfl,_⟩:=hm; cases hj
     | pan v=>obtain ⟨_,_,_,u,rfl,_⟩:=hm; cases hj
    cases e with
    | exit j=>exact absurd rfl (hne' j)
    | _=>exact hQ _ _ _ E
  ·cases hc
 | loop c ih=>
  intro keeps keeps' ic hc s x s' hx w I m a Q F hQ
  cases keeps with
  | nil=>simp only [qjG,Option.some.injEq,Prod.mk.injEq] at hc; obtain ⟨rfl,rfl⟩:=hc; rw [qkE] at hx; cases hx
  | cons k ks=>
   simp only [qjG] at hc
   split at hc
   ·rename_i x1 ks1 h1
    cases hc
    simp only [qdc] at hx
    exact qLq ((hloop _ _ _ _ _ hx).2 _ _ _ _ _ h1 w I m a Q F hQ)
   ·cases hc
 | _=>
  intro keeps keeps' ic hc s x s' hx
  simp only [qjG,Option.some.injEq,Prod.mk.injEq] at hc
  obtain ⟨rfl,rfl⟩:=hc
  rw [qkE] at hx; cases hx
end
end Go.Eng
namespace Go.Eng
set_option linter.unusedSectionVars false
variable [Globs]
instance noDfs:Dfs:=⟨[]⟩
section
variable {P:Program} {hint:Nat -> Nat} {w:World} {I:Imm} {m:Names} {h:Heap} {nx:Nat} {e:Env} {a:Act}
def qXM (P:Program):ResultVar -> Option (Nat × Option (Bool × Nat))
 | .tmp t=>some (t,none)
 | .cell x t=>match qda P t,qbf P t with
  | some n,some g=>if g = true \/ n = 1 then some (x,some (g,n)) else none
  | _,_=>none
def qtd (P:Program):List ResultVar -> Option (List (Nat × Option (Bool × Nat)))
 | []=>some []
 | r :: rs=>match qXM P r,qtd P rs with
  | some x,some xs=>some (x :: xs)
  | _,_=>none
def qoc (tmps:Array Value):ResultVar -> Sem Value
 | .tmp t=>pure (tmps.getD t undef)
 | .cell a t=>do loadVar t (<- asAddr (tmps.getD a undef))
theorem qxi {s:St} {n:Nat} (F:Fits w I m s.tm s.hp nx n a) {r:ResultVar} {x:Nat × Option (Bool × Nat)} (hc:qXM P r = some x) {v:AV} (hv:qK8 s x = some v) :
  ∃ u,(qoc a.tmps r).run P w = .ok u w /\ Rel w I v m u:=by
 cases r with
 | tmp t=>
  simp [qXM] at hc; subst hc
  simp [qK8] at hv; subst hv
  exact ⟨_,rfl,F.tm t⟩
 | cell y t=>
  simp only [qXM] at hc
  split at hc
  ·rename_i n' g hn hg
   split at hc
   ·rename_i h1
    cases hc
    simp only [qK8] at hv
    split at hv
    ·rename_i cs hcs
     obtain ⟨b,o,hp,hcells⟩:=qiS F.hp (F.tm y) hcs
     obtain ⟨u,hu,hr⟩:=qi8 (P:=P) hn hg h1 hcells hv
     refine ⟨u,?_,hr⟩
     simp [qoc,hp,asAddr,hu]
    ·cases hv
   ·cases hc
  ·cases hc
theorem qkV {s:St} {n:Nat} (F:Fits w I m s.tm s.hp nx n a):∀ {rs:List ResultVar} {xs:List (Nat × Option (Bool × Nat))},qtd P rs = some xs -> ∀ {vs:List AV},qhd s xs = some vs ->
  ∃ us,(rs.mapM (qoc a.tmps)).run P w = .ok us w /\ qaM w I vs m us
 | [],xs,hc,vs,hv=>by
  simp [qtd] at hc; subst hc
  simp [qhd] at hv; subst hv
  exact ⟨[],rfl,by simp [qaM]⟩
 | r :: rs,xs,hc,vs,hv=>by
  simp only [qtd] at hc
  split at hc
  ·rename_i x xs' h1 h2
   cases hc
   simp only [qhd] at hv
   split at hv
   ·rename_i v vs' h3 h4
    cases hv
    obtain ⟨u,hu,hr⟩:=qxi F h1 h3
    obtain ⟨us,hus,hrs⟩:=qkV F h2 h4
    refine ⟨u :: us,by simp [hu,hus],?_⟩
    simp only [qaM]
    exact ⟨u,us,rfl,hr,hrs⟩
   ·cases hv
  ·cases hc
theorem qgr {s:St} {n:Nat} (F:Fits w I m s.tm s.hp nx n a) {fn:Func} {xs:List (Nat × Option (Bool × Nat))} (hc:qtd P fn.results.toList = some xs) {vs:List AV} (hv:qhd s xs = some vs) :
  ∃ u,(results fn a.tmps).run P w = .ok u w /\ Rel w I (one vs) m u:=by
 obtain ⟨us,hus,hr⟩:=qkV F hc hv
 have hmap:(results fn a.tmps) = (do let vs <- fn.results.mapM (qoc a.tmps); pure (if h:vs.size = 1 then vs[0] else .tuple vs)):=by
  unfold results
  congr 1
 have hrun:(fn.results.mapM (qoc a.tmps)).run P w = .ok us.toArray w:=by
  rw [Array.mapM_eq_mapM_toList,<- bind_pure_comp]
  simp [hus]
 refine ⟨if h:us.toArray.size = 1 then us.toArray[0] else .tuple us.toArray,by rw [hmap]; simp only [Sem.run_bind,hrun,Result.andThen_ok,Sem.run_pure],?_⟩
 have hl:=qaV hr
 cases vs with
 | nil=>
  cases us with
  | nil=>simp [one,Rel,qaM]
  | cons=>simp at hl
 | cons v vs=>
  cases vs with
  | nil=>
   cases us with
   | nil=>simp at hl
   | cons u us=>
    cases us with
    | nil=>
     simp only [qaM] at hr
     obtain ⟨v',vs',he,hr,_⟩:=hr
     cases he
     simpa [one] using hr
    | cons=>simp at hl
  | cons v' vs=>
   have:us.length ≠ 1:=by simp at hl; omega
   simp only [one,Rel,List.size_toArray,this,dite_false]
   exact ⟨us,rfl,hr⟩
theorem qw3 {IP:Prog} {f k:Nat} (H:HeapAt w I m h) {v:AV} {u:Value} (hr:Rel w I v m u) {v':AV} {h':Heap} (hl:qrg IP f k v h = some (v',h')) :
  ∃ I' m',HeapAt w I' m' h' /\ Fr k w w I I' m m' h h' /\ Rel w I' v' m' u:=by
 simp only [qrg] at hl
 split at hl
 ·cases hl
 ·rename_i v1 h1 hst
  split at hl
  ·cases hl
  ·rename_i r hrch
   cases hl
   have key:∃ I1,HeapAt w I1 m h1 /\ Fr k w w I I1 m m h h1 /\ Rel w I1 v1 m u:=by
    split at hst
    ·cases hst
     exact ⟨I,H,Fr.refl k,hr⟩
    ·obtain ⟨I1,ha,hr1,_⟩:=qiF (nx:=0) H hr hst
     exact ⟨I1,ha.heap,⟨ha.stays,ha.imm,fun i L _ h=>h,ha.frame,ha.newI,ha.owns⟩,qu3 hr1⟩
   obtain ⟨I1,H1,F1,hr1⟩:=key
   obtain ⟨hH,hF,hpl⟩:=qu5 H1 hrch
   exact ⟨I1,_,hH,F1.trans hF,qeC hpl _ hr1⟩
theorem qiG:∀ (vs:List AV) (i t:Nat),qbO (params i vs) t = (if i <= t then vs[t - i]?.getD .junk else .junk)
 | [],i,t=>by simp [params,qbO]
 | v :: vs,i,t=>by
  simp only [params,qbO]
  by_cases h:t = i
  ·subst h; simp
  ·rw [if_neg h,qiG vs (i + 1) t]
   by_cases h2:i <= t
   ·have:i + 1 <= t:=by omega
    have e:t - i = (t - (i + 1)) + 1:=by omega
    simp [h2,this,e]
   ·have:¬ i + 1 <= t:=by omega
    simp [h2,this]
def qax (P:Program) (f:Nat) (F:Fun):Prop:=
 ∃ fn c hint keeps keeps',P.funcs[f]? = some fn /\ (fn.name == "runtime.NumGoroutine") = false /\ fn.body = some c /\ qjG P hint fn.ntmps c keeps = some (F.body,keeps') /\ qtd P fn.results.toList = some F.results
def qgD (P:Program) (f:Nat) (g:List AV -> Heap -> Option (Res × Heap)):Prop:=∀ args h r h',g args h = some (r,h') ->
 ∀ (w:World) (I:Imm) (m:Names) (vs:List Value),HeapAt w I m h -> (∀ i,h.length <= i -> m i = none) -> qaM w I args m vs -> Runs P f vs.toArray w (qJL w I m h r h')
def qNf (P:Program) (f:Nat) (s:Seen):Prop:=∀ call,qef P call -> qgD P f (s.g call)
def qCP (P:Program) (IP:Prog):Prop:=(∀ f F,IP.fn f = some F -> qax P f F) /\ (∀ f g,IP.fn f = none -> IP.spec f = some g -> qgD P f g) /\ ∀ f s,IP.fn f = none -> IP.spec f = none -> IP.seen f = some s -> qNf P f s
theorem qjO {IP:Prog} {call:qa7} {loop:qgM} (hcall:qef P call) (hloop:qo7 P loop) {f:Nat} {F:Fun} (hF:qax P f F) {args:List AV} {r:Res} {h':Heap} (hb:body IP call loop f F args h = some (r,h')) :
  qbR P f /\ ∀ (w:World) (I:Imm) (m:Names) (vs:List Value),HeapAt w I m h -> (∀ i,h.length <= i -> m i = none) -> qaM w I args m vs -> Calls P f vs.toArray w (qJL w I m h r h'):=by
 obtain ⟨fn,c,hint,keeps,keeps',hf,hname,hbody,hcomp,hres⟩:=hF
 refine ⟨⟨fn,hf,hname,by rw [hbody]; rfl⟩,fun w I m vs H hm hr=>?_⟩
 refine calls_of_wp hf hbody ?_
 simp only [body] at hb
 have hrl:=qaV hr
 let a0:Act:={ tmps:=vs.toArray ++ Array.replicate (fn.ntmps - vs.toArray.size) undef,defers:=[] }
 have F0:Fits w I m (params 0 args) h h.length fn.ntmps a0:=by
  refine ⟨fun t=>?_,H,hm,by simp [a0]; omega,rfl⟩
  rw [qiG]
  simp only [Nat.zero_le,if_true,Nat.sub_zero]
  cases hq:args[t]? with
  | none=>simp [Rel]
  | some x=>
   obtain ⟨v,hv,hrel⟩:=qbP hr t x hq
   have hlt:t < vs.length:=(List.getElem?_eq_some_iff.1 hv).1
   have:a0.tmps.getD t undef = v:=by
    simp only [a0]
    rw [Array.getD_eq_getD_getElem?,Array.getElem?_append_left (by simpa using hlt)]
    simp [hv]
   simpa [this] using hrel
 have finish:∀ {x:X} {s:St} {v v':AV} {h2:Heap} {I':Imm} {m':Names} {w':World} {u:Value},Fr h.length w w' I I' m m' h s.hp -> HeapAt w' I' m' s.hp -> Rel w' I' v m' u -> qrg IP f h.length v s.hp = some (v',h2) ->
   ∃ I'' m'',Aft w w' I I'' m m'' h h2 /\ Rel w' I'' v' m'' u:=by
  intro x s v v' h2 I' m' w' u hfr H' hu hl
  obtain ⟨I'',m'',H'',hfr',hu'⟩:=qw3 H' hu hl
  have:=hfr.trans hfr'
  refine ⟨I'',m'',⟨this.stays,this.imm,fun i L hL=>?_,H'',this.frame,this.newI,this.owns⟩,hu'⟩
  rcases Nat.lt_or_ge i h.length with hi | hi
  ·exact this.names i L hi hL
  ·rw [hm i hi] at hL; cases hL
 split at hb
 ·
  rename_i s hx
  split at hb
  ·rename_i xs hxs
   split at hb
   ·rename_i v' h2 hl
    cases hb
    refine qcm hcall hloop c keeps keeps' F.body hcomp _ _ _ hx w I m a0 _ F0 ?_
    rintro e a' w' ⟨I',m',hfr,rfl,F'⟩
    obtain ⟨u,hu,hru⟩:=qgr F' hres hxs
    obtain ⟨I'',m'',hA,hru'⟩:=finish (x:=.normal) hfr F'.hp hru hl
    exact ⟨F'.df,u,hu,I'',m'',hA,u,rfl,hru'⟩
   ·cases hb
  ·cases hb
 ·rename_i s hx
  split at hb
  ·rename_i xs hxs
   split at hb
   ·rename_i v' h2 hl
    cases hb
    refine qcm hcall hloop c keeps keeps' F.body hcomp _ _ _ hx w I m a0 _ F0 ?_
    rintro e a' w' ⟨I',m',hfr,rfl,F'⟩
    obtain ⟨u,hu,hru⟩:=qgr F' hres hxs
    obtain ⟨I'',m'',hA,hru'⟩:=finish (x:=.ret) hfr F'.hp hru hl
    exact ⟨F'.df,u,hu,I'',m'',hA,u,rfl,hru'⟩
   ·cases hb
  ·cases hb
 ·rename_i v s hx
  split at hb
  ·rename_i v' h2 hl
   cases hb
   refine qcm hcall hloop c keeps keeps' F.body hcomp _ _ _ hx w I m a0 _ F0 ?_
   rintro e a' w' ⟨I',m',hfr,hdf,H',_,u,rfl,hru⟩
   obtain ⟨I'',m'',hA,hru'⟩:=finish (x:=.ret) hfr H' hru hl
   exact ⟨hdf,I'',m'',hA,u,rfl,hru'⟩
  ·cases hb
 ·cases hb
theorem qny {IP:Prog} (hP:qCP P IP):∀ n,qef P (qaG IP n).1 /\ qo7 P (qaG IP n).2
 | 0=>⟨fun f args h r h' hc=>by simp [qaG] at hc,fun keep ic s x s' hc=>by simp [qaG] at hc⟩
 | n + 1=>by
  obtain ⟨hcall,hloop⟩:=qny hP n
  refine ⟨fun f args h r h' hc=>?_,fun keep ic s x s' hc=>?_⟩
  ·simp only [qaG] at hc
   split at hc
   ·rename_i F hF
    exact fun w I m vs H hm hr=>.inl ⟨(qjO hcall hloop (hP.1 f F hF) hc).1,(qjO hcall hloop (hP.1 f F hF) hc).2 w I m vs H hm hr⟩
   ·rename_i hF
    split at hc
    ·rename_i g hg
     exact hP.2.1 f g hF hg _ _ _ _ hc
    ·rename_i hg
     split at hc
     ·rename_i s hs
      exact hP.2.2 f s hF hg hs _ hcall _ _ _ _ hc
     ·cases hc
  ·simp only [qaG] at hc
   split at hc
   ·cases hc
   ·rename_i s1 hnorm
    have hk1:s1.k = s.k:=by
     simp only [norm] at hnorm
     split at hnorm
     ·cases hnorm
     ·cases hnorm; rfl
    have hkx:=qD2 (IP:=IP) (call:=(qaG IP n).1) (fun keep ic s x s' h=>(hloop keep ic s x s' h).1)
    have hko:∀ {x:X} {s2:St},qKX keep x s2 = some (x,s') -> s'.k = s2.k:=by
     intro x s2 ho
     unfold qKX at ho
     split at ho
     ·cases ho; rfl
     ·split at ho
      ·rename_i s3 hs3
       cases ho
       simp only [norm] at hs3
       split at hs3
       ·cases hs3
       ·cases hs3; rfl
      ·cases ho
    have hxo:∀ {y:X} {s2:St},qKX keep y s2 = some (x,s') -> y = x:=by
     intro y s2 ho
     unfold qKX at ho
     split at ho
     ·cases ho; rfl
     ·split at ho <;> cases ho; rfl
    refine ⟨?_,?_⟩
    ·split at hc
     ·rename_i s2 hx
      exact ((hloop _ _ _ _ _ hc).1.trans (hkx _ _ _ _ hx)).trans hk1
     ·rename_i y s2 hne hx
      have:=hxo hc
      subst this
      exact ((hko hc).trans (hkx _ _ _ _ hx)).trans hk1
     ·cases hc
    ·intro hint n' c keeps keeps' hcomp w I m a Q F hQ
     obtain ⟨_,m1,F1,f1⟩:=qkb F hnorm
     split at hc
     ·rename_i s2 hx
      refine qzE (qcm hcall hloop c keeps keeps' ic hcomp _ _ _ hx w I m1 a (fun e a' w'=>Ends w I m1 s1.hp s1.k n' .normal s2 e a' w') F1 fun _ _ _ h=>h) ?_ ?_
      ·rintro a' w' ⟨I',m',f',_,F'⟩
       refine (hloop _ _ _ _ _ hc).2 hint n' c keeps keeps' hcomp w' I' m' a' Q F' fun e a'' w'' E=>hQ _ _ _ ?_
       have hk2:=hkx _ _ _ _ hx
       rw [hk2] at E
       rw [hk1] at E f'
       exact (E.after f').after f1
      ·rintro e a' w' hne ⟨I',m',f',he,_⟩
       exact absurd he hne
     ·rename_i y s2 hne hx
      have:=hxo hc
      subst this
      have hk2:=hkx _ _ _ _ hx
      refine qzE (qcm hcall hloop c keeps keeps' ic hcomp _ _ _ hx w I m1 a (fun e a' w'=>Ends w I m1 s1.hp s1.k n' y s2 e a' w') F1 fun _ _ _ h=>h) ?_ ?_
      ·intro a' w' E
       exact absurd rfl (E.out fun hxn=>hne hxn)
      ·intro e a' w' _ E
       have E2:Ends w I m1 s1.hp s1.k n' y s' e a' w':=by
        obtain ⟨I',m',f',hrest⟩:=E
        unfold qKX at hc
        split at hc
        ·cases hc; exact ⟨I',m',f',hrest⟩
        ·rename_i hnp
         split at hc
         ·rename_i s3 hs3
          cases hc
          cases y with
          | pan v=>exact absurd rfl (hnp v)
          | normal=>exact absurd rfl hne
          | exit id=>
           obtain ⟨he,F'⟩:=hrest
           obtain ⟨_,m3,F3,f3⟩:=qkb F' hs3
           rw [hk2] at f3
           exact ⟨I',m3,f'.trans f3,he,F3⟩
          | ret=>
           obtain ⟨he,F'⟩:=hrest
           obtain ⟨_,m3,F3,f3⟩:=qkb F' hs3
           rw [hk2] at f3
           exact ⟨I',m3,f'.trans f3,he,F3⟩
         ·cases hc
       rw [hk1] at E2
       exact hQ _ _ _ (E2.after f1)
     ·cases hc
end
end Go.Eng
namespace Go.Eng
def qSa:List (Nat × Nat) -> Nat -> Nat
 | [],_=>0
 | (i,n) :: l,d=>if d = i then n else qSa l d
noncomputable def qXQ (P:Program) (hs:List (Nat × Nat)) (ks:List (List Nat)) (fn:Func):Option Fun:=match fn.body with
 | some c=>match qjG P (qSa hs) fn.ntmps c ks with
  | some (b,_)=>match qtd P fn.results.toList with
   | some rs=>some ⟨fn.params.size,fn.ntmps,rs,b⟩
   | none=>none
  | none=>none
 | none=>none
noncomputable def qbe (P:Program) (hs:List (Nat × Nat)) (ks:List (List Nat)) (fn:Func):Fun:=match qXQ P hs ks fn with
 | some F=>F
 | none=>⟨0,0,[],.ret⟩
theorem qag {P:Program} {hs:List (Nat × Nat)} {ks:List (List Nat)} {i:Nat} {fn:Func} (hf:P.funcs[i]? = some fn) (h:(qXQ P hs ks fn).isSome && !(fn.name == "runtime.NumGoroutine") = true):qax P i (qbe P hs ks fn):=by
 rw [Bool.and_eq_true] at h
 obtain ⟨h,hn⟩:=h
 unfold qbe
 cases hq:qXQ P hs ks fn with
 | none=>rw [hq] at h; cases h
 | some F=>
  simp only
  unfold qXQ at hq
  split at hq
  ·rename_i c hb
   split at hq
   ·rename_i b k' hc
    split at hq
    ·rename_i rs hr
     cases hq
     exact ⟨fn,c,qSa hs,ks,k',hf,by simpa using hn,hb,hc,hr⟩
    ·cases hq
   ·cases hq
  ·cases hq
def qGb:List (Nat × Fun) -> Nat -> Option Fun
 | [],_=>none
 | (i,F) :: l,f=>if f = i then some F else qGb l f
def TabF (P:Program):List (Nat × Fun) -> Prop
 | []=>True
 | (i,F) :: l=>qax P i F /\ TabF P l
theorem TabF.look {P:Program}:∀ {l:List (Nat × Fun)},TabF P l -> ∀ {f F},qGb l f = some F -> qax P f F
 | [],_,f,F,h=>by simp [qGb] at h
 | (i,G) :: l,hl,f,F,h=>by
  simp only [qGb] at h
  split at h
  ·rename_i e; subst e; cases h; exact hl.1
  ·exact TabF.look hl.2 h
end Go.Eng
namespace Go.Eng
set_option linter.unusedSectionVars false
variable [Globs]
inductive Sh where
 | int (k:IntKind)
 | bool
 | str
 | slice (sz:Nat) (agg:Bool) (t:TypeId)
def qIC (P:Program) (sh:TypeId -> Option (List Sh)):List Field -> Nat -> Option (List Sh)
 | [],_=>some []
 | f :: fs,off=>if f.offset = off then match sh f.type with
   | some cs=>if cs.length = P.cellsOf f.type then match qIC P sh fs (off + cs.length) with
    | some r=>some (cs ++ r)
    | none=>none
    else none
   | none=>none
  else none
def qWt (cs:List Sh):Nat -> List Sh
 | 0=>[]
 | n + 1=>cs ++ qWt cs n
def shS (P:Program):Nat -> TypeId -> Option (List Sh)
 | 0,_=>none
 | n + 1,t=>match P.underlying t with
  | some .bool=>some [.bool]
  | some (.int k)=>some [.int k]
  | some .string=>some [.str]
  | some (.slice e)=>(qbf P e).map fun g=>[.slice (P.cellsOf e) g e]
  | some (.struct fs)=>match qIC P (shS P n) fs.toList 0 with
   | some cs=>if cs.length = P.cellsOf t then some cs else none
   | none=>none
  | some (.array k e)=>match shS P n e with
   | some cs=>if cs.length = P.cellsOf e /\ k * cs.length = P.cellsOf t then some (qWt cs k) else none
   | none=>none
  | _=>none
def shT (P:Program) (t:TypeId):List Sh:=(shS P 12 t).getD []
def qdL:List Sh -> List TypeId
 | []=>[]
 | .slice _ _ t :: cs=>t :: qdL cs
 | _ :: cs=>qdL cs
def q1q (P:Program) (ts:List TypeId):Bool:=ts.all fun t=>match shS P 12 t with
 | some cs=>decide (cs.length = P.cellsOf t) && decide (0 < cs.length) && (match qbf P t with | some g=>g || decide (cs.length = 1) | none=>false) && (qdL cs).all fun e=>ts.contains e
 | none=>false
def qhU (f:Sh -> AV -> Prop):List Sh -> List AV -> Prop
 | [],xs=>xs = []
 | c :: cs,xs=>∃ x r,xs = x :: r /\ f c x /\ qhU f cs r
def Fit (N:Nat) (T:TypeId -> List Sh):Nat -> Sh -> AV -> Prop
 | 0,_,_=>False
 | d + 1,c,v=>match c with
  | .int k=>∃ n,v = .int k n /\ (Lit.int k n).wf = true
  | .bool=>∃ b,v = .bool b
  | .str=>∃ s,v = .str s /\ s.length <= N
  | .slice sz true t=>∃ es,v = .view sz es /\ es.length <= N /\ ∀ e,e ∈ es -> ∃ xs,e = .agg xs /\ qhU (Fit N T d) (T t) xs
  | .slice sz false t=>∃ es,v = .view sz es /\ es.length <= N /\ ∀ e,e ∈ es -> qhU (Fit N T d) (T t) [e]
theorem qiV {f:Sh -> AV -> Prop}:∀ {cs:List Sh} {xs:List AV},qhU f cs xs -> xs.length = cs.length
 | [],xs,h=>by simp [qhU] at h; subst h; rfl
 | c :: cs,xs,h=>by
  simp only [qhU] at h
  obtain ⟨x,r,rfl,_,h⟩:=h
  simp [qiV h]
theorem qdC {f g:Sh -> AV -> Prop} (hfg:∀ c x,f c x -> g c x):∀ {cs:List Sh} {xs:List AV},qhU f cs xs -> qhU g cs xs
 | [],xs,h=>h
 | c :: cs,xs,h=>by
  simp only [qhU] at h ⊢
  obtain ⟨x,r,he,hx,h⟩:=h
  exact ⟨x,r,he,hfg _ _ hx,qdC hfg h⟩
theorem qiW {N:Nat} {T:TypeId -> List Sh}:∀ (d:Nat) (c:Sh) (x:AV),Fit N T d c x -> Fit N T (d + 1) c x
 | 0,c,x,h=>by simp [Fit] at h
 | d + 1,c,x,h=>by
  cases c with
  | slice sz g t=>
   cases g
   ·simp only [Fit] at h ⊢
    obtain ⟨es,he,hl,h⟩:=h
    exact ⟨es,he,hl,fun e hm=>qdC (qiW d) (h e hm)⟩
   ·simp only [Fit] at h ⊢
    obtain ⟨es,he,hl,h⟩:=h
    exact ⟨es,he,hl,fun e hm=>by obtain ⟨xs,h1,h2⟩:=h e hm; exact ⟨xs,h1,qdC (qiW d) h2⟩⟩
  | _=>simpa only [Fit] using h
theorem qAZ {N:Nat} {T:TypeId -> List Sh} {d:Nat} {c:Sh} {x:AV} (h:Fit N T d c x):qba x = true:=by
 cases d with
 | zero=>simp [Fit] at h
 | succ d=>
  cases c with
  | slice sz g t=>
   cases g <;> simp only [Fit] at h <;> obtain ⟨es,rfl,_⟩:=h <;> rfl
  | _=>
   simp only [Fit] at h
   obtain ⟨n,h⟩:=h
   first
    | (subst h; rfl)
    | (obtain ⟨rfl,_⟩:=h; rfl)
theorem qio {N:Nat} {T:TypeId -> List Sh} {d:Nat}:∀ {cs:List Sh} {xs:List AV},qhU (Fit N T d) cs xs -> ∀ x ∈ xs,qba x = true
 | [],xs,h,x,hx=>by simp [qhU] at h; subst h; simp at hx
 | c :: cs,xs,h,x,hx=>by
  simp only [qhU] at h
  obtain ⟨y,r,rfl,hy,h⟩:=h
  rcases List.mem_cons.1 hx with rfl | hx
  ·exact qAZ hy
  ·exact qio h x hx
theorem qin {f:Sh -> AV -> Prop}:∀ {cs ds:List Sh} {xs ys:List AV},qhU f cs xs -> qhU f ds ys -> qhU f (cs ++ ds) (xs ++ ys)
 | [],ds,xs,ys,h,h'=>by simp [qhU] at h; subst h; simpa using h'
 | c :: cs,ds,xs,ys,h,h'=>by
  simp only [qhU] at h
  obtain ⟨x,r,rfl,hx,h⟩:=h
  simp only [List.cons_append,qhU]
  exact ⟨x,r ++ ys,rfl,hx,qin h h'⟩
theorem qhZ (a b:List Sh):qdL (a ++ b) = qdL a ++ qdL b:=by
 induction a with
 | nil=>rfl
 | cons c a ih=>cases c <;> simp [qdL,ih]
section
variable {H:Type} {enc:TypeId × Value -> H} {P:Program} {w:World} {base:Nat} {spare:Nat -> Bool} {held:Bool} {I:Imm}
theorem qKe {b o n:Nat} {xs:List AV} {cs:List Value} (hr:qaM w I xs m0 cs) (hok:∀ x ∈ xs,qba x = true) (hc:∀ i,i < n -> w.cell? (ad b (o + i)) = cs[i]?) (hl:xs.length = n) (hI:∀ i,i < n -> I b (o + i)):At w I xs b o:=by
 intro i c hi
 have hlt:i < xs.length:=(List.getElem?_eq_some_iff.1 hi).1
 obtain ⟨v,hv,hrel⟩:=qbP hr i c hi
 exact ⟨hI i (by omega),hok c (List.mem_of_getElem? hi),v,by rw [hc i (by omega)]; exact hv,hrel⟩
theorem qIH {a:Addr} {v:Value} (h:w.cell? a = some v):a = ad a.block a.off:=by
 obtain ⟨b,o,s⟩:=a
 cases s with
 | none=>rfl
 | some s=>
  simp only [World.cell?] at h
  split at h <;> simp at h
theorem qUg (a:Addr) (n:Nat) (h:a = ad a.block a.off):a.add n = ad a.block (a.off + n):=by
 rw [h]; exact qgE _ _ _
theorem qSD {a:Addr} {n i:Nat} (h:i < n):MemPlace.cell a.block (a.off + i) ∈ MemPlace.row a n:=by
 simp only [MemPlace.row,List.mem_map,List.mem_range]
 exact ⟨i,h,rfl⟩
theorem qgg {ts:List TypeId} (hT:q1q P ts = true):∀ (fuel:Nat) {n:Nat} {t:TypeId} {sh:List Sh},shS P n t = some sh -> (∀ e ∈ qdL sh,e ∈ ts) -> ∀ {cs:List Value} {x:DataW H × List MemPlace},DataW.trod enc P w base spare held fuel t cs = some x -> (∀ b o,.cell b o ∈ x.2 -> I b o) ->
  ∃ xs,qhU (Fit maxLen (shT P) fuel) sh xs /\ qaM w I xs m0 cs
 | 0,n,t,sh,hs,he,cs,x,hx,hI=>by simp [DataW.trod] at hx
 | fuel + 1,0,t,sh,hs,he,cs,x,hx,hI=>by simp [shS] at hs
 | fuel + 1,n + 1,t,sh,hs,he,cs,x,hx,hI=>by
  simp only [shS] at hs
  split at hs
  ·rename_i hu
   cases hs
   obtain ⟨b,rfl,rfl⟩:=DataW.trod_bool hu hx
   exact ⟨[.bool b],by simp [qhU,Fit],by simp [qaM,Rel]⟩
  ·rename_i k hu
   cases hs
   obtain ⟨i,rfl,rfl,hw⟩:=DataW.trod_int hu hx
   exact ⟨[.int k i],by simp [qhU,Fit,hw],by simp [qaM,Rel]⟩
  ·rename_i hu
   cases hs
   obtain ⟨s,rfl,rfl,hw⟩:=DataW.trod_string hu hx
   refine ⟨[.str s.data.toList],?_,?_⟩
   ·simp only [qhU,Fit]
    exact ⟨_,[],rfl,⟨_,rfl,by simpa using hw⟩,rfl⟩
   ·simp [qaM,Rel]
  ·rename_i e hu
   simp only [Option.map_eq_some_iff] at hs
   obtain ⟨g,hg,rfl⟩:=hs
   have hem:e ∈ ts:=he e (by simp [qdL])
   have hok:=List.all_eq_true.1 hT e hem
   split at hok
   ·rename_i ec hec
    simp only [Bool.and_eq_true,decide_eq_true_eq,hg] at hok
    obtain ⟨⟨⟨hlen,hpos⟩,hg1⟩,hel⟩:=hok
    have hsh:shT P e = ec:=by simp [shT,hec]
    have hsub:∀ t ∈ qdL ec,t ∈ ts:=fun t ht=>by simpa using List.all_eq_true.1 hel t ht
    ·rcases DataW.trod_slice hu hx with ⟨rfl,rfl⟩ | ⟨a,len,cap,elems,rest,fu,hfu,rfl,rfl,hb,hle,hcap,hlen',hels,_,_⟩
     ·refine ⟨[.view (P.cellsOf e) []],?_,?_⟩
      ·cases g <;> simp [qhU,Fit]
      ·simp only [qaM,Rel]
       exact ⟨_,[],rfl,⟨none,0,by simp,by simp,.inl rfl,fun _=>rfl⟩,rfl⟩
     ·obtain rfl:fuel = fu:=by omega
      have hlm:len <= elems.length + rest.length:=by omega
      generalize hm:elems.length + rest.length = m at *
      have each:∀ i,i < len -> ∃ xs:List AV,qhU (Fit maxLen (shT P) fuel) ec xs /\ ∃ cs',w.cells? base (a.add (i * P.cellsOf e)) (P.cellsOf e) = some cs' /\ qaM w I xs m0 cs':=by
       intro i hi
       have key:=hels i hi
       rw [List.getElem?_eq_getElem (by omega)] at key
       obtain ⟨cs',hc',hd⟩:=Option.bind_eq_some_iff.1 key
       obtain ⟨xs,h1,h2⟩:=qgg hT fuel hec hsub hd fun b o hp=>hI b o (List.mem_append_right _ (List.mem_flatMap.2 ⟨_,List.mem_append_left _ (List.getElem_mem (show i < elems.length by omega)),hp⟩))
       exact ⟨xs,h1,cs',hc',h2⟩
      obtain ⟨F,hF⟩:=Deep.choose_lt each
      let pk:List AV -> AV:=fun xs=>if g then .agg xs else xs.headD .junk
      have hpk:∀ i,i < len -> qac (pk (F i)) = F i /\ (g = true \/ (F i).length = 1):=by
       intro i hi
       obtain ⟨h1,cs',hc',h2⟩:=hF i hi
       have hln:=qiV h1
       cases g with
       | true=>exact ⟨rfl,.inl rfl⟩
       | false=>
        have h1c:ec.length = 1:=by simpa using hg1
        have hx1:(F i).length = 1:=by omega
        refine ⟨?_,.inr hx1⟩
        match hFi:F i,hx1 with
        | [y],_=>
         simp only [pk]
         have hy:=qio h1 y (by rw [hFi]; simp)
         cases y <;> first | rfl | simp [qba] at hy
      have hspot:0 < len -> a = ad a.block a.off:=by
       intro h0
       obtain ⟨_,cs',hc',_⟩:=hF 0 h0
       obtain ⟨_,hcl,hcc⟩:=World.cells?_some hc'
       have h0c:0 < P.cellsOf e:=by omega
       have:=hcc 0 h0c
       have hlt:0 < cs'.length:=by omega
       rw [List.getElem?_eq_getElem hlt] at this
       have:=qIH this
       simpa [Addr.add] using this
      have hflat:∀ k,k <= len -> ∀ o,(∀ i,i < k -> At w I (F i) a.block (o + i * P.cellsOf e)) -> At w I (flat ((List.range k).map fun i=>pk (F i))) a.block o:=by
       intro k
       induction k with
       | zero=>intro _ o _; intro i c hc; simp [flat] at hc
       | succ k ih=>
        intro hk o hall
        rw [List.range_succ,List.map_append,qcc,qmb]
        refine ⟨ih (by omega) o fun i hi=>hall i (by omega),?_⟩
        have hfl:(flat ((List.range k).map fun i=>pk (F i))).length = k * P.cellsOf e:=by
         rw [qbI (sz:=P.cellsOf e) fun x hx=>?_]
         ·simp
         ·obtain ⟨i,hi,rfl⟩:=List.mem_map.1 hx
          have hi':i < k:=by simpa using hi
          rw [(hpk i (by omega)).1,qiV (hF i (by omega)).1,hlen]
        rw [hfl]
        have:flat ([k].map fun i=>pk (F i)) = F k:=by simp [flat,(hpk k (by omega)).1]
        rw [this]
        exact hall k (by omega)
      refine ⟨[.view (P.cellsOf e) ((List.range len).map fun i=>pk (F i))],?_,?_⟩
      ·simp only [qhU]
       refine ⟨_,[],rfl,?_,rfl⟩
       cases g with
       | true=>
        simp only [Fit]
        refine ⟨_,rfl,by simp; omega,fun x hx=>?_⟩
        obtain ⟨i,hi,rfl⟩:=List.mem_map.1 hx
        exact ⟨F i,rfl,by rw [hsh]; exact (hF i (by simpa using hi)).1⟩
       | false=>
        simp only [Fit]
        refine ⟨_,rfl,by simp; omega,fun x hx=>?_⟩
        obtain ⟨i,hi,rfl⟩:=List.mem_map.1 hx
        have hi':i < len:=by simpa using hi
        have h1:=(hpk i hi').2
        have hg:=(hF i hi').1
        rw [hsh]
        match hFi:F i,h1.resolve_left (by simp) with
        | [y],_=>rw [hFi] at hg; simpa [pk,hFi] using hg
      ·simp only [qaM,Rel]
       refine ⟨_,[],rfl,⟨some a,cap,by simp,by simp; omega,?_,fun hn=>by cases hn⟩,rfl⟩
       rcases Nat.eq_zero_or_pos len with h0 | h0
       ·exact .inl (by simp [h0])
       ·refine .inr ⟨a.block,a.off,by rw [<- hspot h0],qhI.2 ⟨fun x hx=>?_,hflat len (Nat.le_refl _) a.off fun i hi=>?_⟩⟩
        ·obtain ⟨i,hi,rfl⟩:=List.mem_map.1 hx
         have hi':i < len:=by simpa using hi
         rw [(hpk i hi').1,qiV (hF i hi').1,hlen]
        ·obtain ⟨hg,cs',hc',hr⟩:=hF i hi
         obtain ⟨_,hcl,hcc⟩:=World.cells?_some hc'
         refine qKe hr (qio hg) (n:=P.cellsOf e) (fun j hj=>?_) (by rw [qiV hg,hlen]) fun j hj=>?_
         ·rw [<- hcc j hj,qUg a _ (hspot h0),qgE]
         ·have hlt:i * P.cellsOf e + j < m * P.cellsOf e:=by
           calc i * P.cellsOf e + j < i * P.cellsOf e + P.cellsOf e:=by omega
            _ = (i + 1) * P.cellsOf e:=by rw [Nat.add_mul,Nat.one_mul]
            _ <= m * P.cellsOf e:=Nat.mul_le_mul_right _ (by omega)
          have:=hI a.block (a.off + (i * P.cellsOf e + j)) (List.mem_append_left _ (qSD hlt))
          rwa [<- Nat.add_assoc] at this
   ·cases hok
  ·rename_i fs hu
   split at hs
   ·rename_i sc hsc
    split at hs
    ·rename_i hl
     cases hs
     obtain ⟨ys,fu,hfu,rfl,hcl,hyl,hf⟩:=DataW.trod_struct hu hx
     obtain rfl:fuel = fu:=by omega
     have key:∀ (fl:List Field) (k off:Nat) (sc:List Sh),fs.toList.drop k = fl -> qIC P (shS P n) fl off = some sc -> (∀ e ∈ qdL sc,e ∈ ts) -> off + sc.length = cs.length -> ∃ xs,qhU (Fit maxLen (shT P) (fuel + 1)) sc xs /\ qaM w I xs m0 (cs.drop off):=by
      intro fl
      induction fl with
      | nil=>
       intro k off sc _ h1 _ h2
       simp [qIC] at h1; subst h1
       refine ⟨[],by simp [qhU],?_⟩
       have:cs.drop off = []:=by apply List.drop_of_length_le; simp at h2; omega
       rw [this]; simp [qaM]
      | cons f fl ih=>
       intro k off sc hk h1 hel h2
       simp only [qIC] at h1
       split at h1
       ·rename_i hoff
        split at h1
        ·rename_i c1 hc1
         split at h1
         ·rename_i hl1
          split at h1
          ·rename_i r hr
           cases h1
           have hfk:fs[k]? = some f:=by
            have h0:=congrArg (·[0]?) hk
            simpa using h0
           have hdrop:fs.toList.drop (k + 1) = fl:=by
            have h0:=congrArg (List.drop 1) hk
            simpa using h0
           have hlt:k < ys.length:=by rw [hyl]; exact (Array.getElem?_eq_some_iff.1 hfk).1
           have hd:=hf k f hfk
           rw [List.getElem?_eq_getElem hlt] at hd
           rw [qhZ] at hel
           obtain ⟨xs,g1,g2⟩:=qgg hT fuel hc1 (fun e he=>hel e (List.mem_append_left _ he)) hd fun b o hp=>hI b o (List.mem_flatMap.2 ⟨_,List.getElem_mem hlt,hp⟩)
           obtain ⟨xs',g3,g4⟩:=ih (k + 1) _ _ hdrop hr (fun e he=>hel e (List.mem_append_right _ he)) (by simp at h2; omega)
           refine ⟨xs ++ xs',qin (qdC (qiW _) g1) g3,?_⟩
           have hsplit:cs.drop off = (cs.drop off).take c1.length ++ cs.drop (off + c1.length):=by
            rw [<- List.drop_drop,List.take_append_drop]
           rw [hsplit]
           rw [<- hl1,hoff] at g2
           exact qdw g2 g4
          ·cases h1
         ·cases h1
        ·cases h1
       ·cases h1
     have:=key fs.toList 0 0 _ rfl hsc he (by omega)
     simpa using this
    ·cases hs
   ·cases hs
  ·rename_i k e hu
   split at hs
   ·rename_i ec hec
    split at hs
    ·rename_i hl
     cases hs
     obtain ⟨hl1,hl2⟩:=hl
     obtain ⟨ys,fu,hfu,rfl,hcl,hyl,hf⟩:=DataW.trod_array hu hx
     obtain rfl:fuel = fu:=by omega
     have hzero:k = 0 \/ ∀ e ∈ qdL ec,e ∈ ts:=by
      cases k with
      | zero=>exact .inl rfl
      | succ k=>exact .inr fun e h=>he e (by simp only [qWt,qhZ,List.mem_append]; exact .inl h)
     have key:∀ (j i:Nat),i + j = k -> ∃ xs,qhU (Fit maxLen (shT P) (fuel + 1)) (qWt ec j) xs /\ qaM w I xs m0 (cs.drop (i * ec.length)):=by
      intro j
      induction j with
      | zero=>
       intro i hi
       refine ⟨[],by simp [qWt,qhU],?_⟩
       have hik:i = k:=by omega
       have:cs.drop (i * ec.length) = []:=by apply List.drop_of_length_le; rw [hik,hl2]; omega
       rw [this]; simp [qaM]
      | succ j ih=>
       intro i hi
       have hlt:i < ys.length:=by omega
       have hd:=hf i (by omega)
       rw [List.getElem?_eq_getElem hlt] at hd
       obtain ⟨xs,g1,g2⟩:=qgg hT fuel hec (hzero.resolve_left (by omega)) hd fun b o hp=>hI b o (List.mem_flatMap.2 ⟨_,List.getElem_mem hlt,hp⟩)
       obtain ⟨xs',g3,g4⟩:=ih (i + 1) (by omega)
       refine ⟨xs ++ xs',qin (qdC (qiW _) g1) g3,?_⟩
       have hsplit:cs.drop (i * ec.length) = (cs.drop (i * ec.length)).take ec.length ++ cs.drop ((i + 1) * ec.length):=by
        rw [Nat.add_mul,Nat.one_mul,<- List.drop_drop,List.take_append_drop]
       rw [hsplit]
       rw [<- hl1] at g2
       exact qdw g2 g4
     have:=key k 0 (by omega)
     simpa using this
    ·cases hs
   ·cases hs
  ·cases hs
end
end Go.Eng

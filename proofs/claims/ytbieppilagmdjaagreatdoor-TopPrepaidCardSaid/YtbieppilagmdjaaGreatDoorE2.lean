/- A machine of plain values, and that what it says holds of the program. -/
import Derived.Test.YtbieppilagmdjaaGreatDoorE1
import Derived.Orders
import Derived.Scope
set_option linter.unusedVariables false
set_option linter.unusedSimpArgs false
set_option linter.unnecessarySimpa false
namespace Go.Eng
theorem qJU {k:EK} {x y:AV} (h:eqK k x y = some true):x = y:=by
 cases k <;> cases x <;> cases y <;> simp [eqK] at h
 ·obtain ⟨rfl,rfl⟩:=h; rfl
 ·subst h; rfl
 ·subst h; rfl
theorem qJT {k:EK} {x:AV} {b:Bool} (h:eqK k x x = some b):b = true:=by
 cases k <;> cases x <;> simp [eqK] at h <;> exact h.symm ▸ rfl
theorem qzT:∀ {ks:List EK} {xs ys:List AV},qbS ks xs ys = some true -> xs = ys
 | [],[],[],_=>rfl
 | [],_ :: _,_,h=>by simp [qbS] at h
 | [],[],_ :: _,h=>by simp [qbS] at h
 | k :: ks,[],_,h=>by simp [qbS] at h
 | k :: ks,_ :: _,[],h=>by simp [qbS] at h
 | k :: ks,x :: xs,y :: ys,h=>by
  simp only [qbS] at h
  split at h
  ·rename_i b bs h1 h2
   simp only [Option.some.injEq,Bool.and_eq_true] at h
   obtain ⟨rfl,rfl⟩:=h
   rw [qJU h1,qzT h2]
  ·cases h
theorem qzS:∀ {ks:List EK} {xs:List AV} {b:Bool},qbS ks xs xs = some b -> b = true
 | [],[],b,h=>by simp [qbS] at h; exact h.symm ▸ rfl
 | [],_ :: _,b,h=>by simp [qbS] at h
 | k :: ks,[],b,h=>by simp [qbS] at h
 | k :: ks,x :: xs,b,h=>by
  simp only [qbS] at h
  split at h
  ·rename_i b bs h1 h2
   simp only [Option.some.injEq] at h
   rw [<- h,qJT h1,qzS h2]; rfl
  ·cases h
theorem qb5 {ks:Key} {x y:AV} (h:qa7 ks x y = some true):x = y:=by
 unfold qa7 at h
 split at h
 ·rw [qzT h]
 ·exact qJU h
 ·cases h
theorem qhW {ks:Key} {x:AV} {b:Bool} (h:qa7 ks x x = some b):b = true:=by
 obtain ⟨t,l⟩:=ks
 cases t
 ·cases l with
  | nil=>cases x <;> simp [qa7] at h
  | cons k l=>
   cases l with
   | nil=>
    have:eqK k x x = some b:=by cases x <;> exact h
    exact qJT this
   | cons _ _=>cases x <;> simp [qa7] at h
 ·cases x <;> simp [qa7] at h
  exact qzS h
theorem qlO:∀ {ks:List EK} {xs ys:List AV} {b:Bool},qbS ks xs ys = some b -> ks.all isI = true -> ∃ kk,qbc xs = some kk /\ qbc ys = some kk
 | [],[],[],b,_,_=>⟨[],rfl,rfl⟩
 | [],_ :: _,_,b,h,_=>by simp [qbS] at h
 | [],[],_ :: _,b,h,_=>by simp [qbS] at h
 | k :: ks,[],_,b,h,_=>by simp [qbS] at h
 | k :: ks,_ :: _,[],b,h,_=>by simp [qbS] at h
 | k :: ks,x :: xs,y :: ys,b,h,hi=>by
  simp only [qbS] at h
  simp only [List.all_cons,Bool.and_eq_true] at hi
  split at h
  ·rename_i c cs h1 h2
   obtain ⟨kk,g1,g2⟩:=qlO h2 hi.2
   have hk:k = .i:=by
    cases k
    ·rfl
    ·exact absurd hi.1 (by simp [isI])
    ·exact absurd hi.1 (by simp [isI])
   subst hk
   cases x <;> cases y <;> simp [eqK] at h1
   obtain ⟨rfl,_⟩:=h1
   rename_i k1 _ _ _
   exact ⟨k1 :: kk,by simp only [qbc,g1,Option.map_some],by simp only [qbc,g2,Option.map_some]⟩
  ·cases h
theorem qeE {ks:Key} {x y:AV} {b:Bool} (h:qa7 ks x y = some b) (hi:qkh ks = true):∃ kk,qdk x = some kk /\ qdk y = some kk:=by
 obtain ⟨t,l⟩:=ks
 simp only [qkh,Bool.and_eq_true] at hi
 obtain ⟨rfl,hi⟩:=hi
 cases x <;> cases y <;> simp [qa7] at h
 exact qlO h hi
theorem qzR:∀ {ks:List EK} {xs ys:List AV} {kk:List IntKind},qbc xs = some kk -> qbc ys = some kk -> ks.all isI = true -> ks.length = kk.length -> ∃ b,qbS ks xs ys = some b
 | [],[],[],kk,_,_,_,_=>⟨true,rfl⟩
 | [],x :: xs,ys,kk,h,_,_,hl=>by
  cases x <;> simp [qbc] at h
  obtain ⟨_,_,rfl⟩:=h; simp at hl
 | [],[],y :: ys,kk,h,h',_,_=>by
  cases y <;> simp [qbc] at h h'
  obtain ⟨_,_,rfl⟩:=h'; cases h
 | k :: ks,[],ys,kk,h,_,_,hl=>by simp [qbc] at h; subst h; simp at hl
 | k :: ks,x :: xs,[],kk,h,h',_,_=>by
  simp [qbc] at h'; subst h'
  cases x <;> simp [qbc] at h
 | k :: ks,x :: xs,y :: ys,kk,h,h',hi,hl=>by
  simp only [List.all_cons,Bool.and_eq_true] at hi
  have hk:k = .i:=by
   cases k
   ·rfl
   ·exact absurd hi.1 (by simp [isI])
   ·exact absurd hi.1 (by simp [isI])
  subst hk
  cases x <;> simp [qbc] at h
  cases y <;> simp [qbc] at h'
  obtain ⟨k1,g1,rfl⟩:=h
  obtain ⟨k2,g2,g3⟩:=h'
  simp only [List.cons.injEq] at g3
  obtain ⟨rfl,rfl⟩:=g3
  obtain ⟨b,hb⟩:=qzR (ks:=ks) g1 g2 hi.2 (by simpa using hl)
  simp only [qbS,eqK,hb,if_true]
  exact ⟨_,rfl⟩
theorem qzQ:∀ {ks:List EK} {xs ys:List AV} {b:Bool} {kk:List IntKind},qbS ks xs ys = some b -> qbc ys = some kk -> ks.all isI = true /\ ks.length = kk.length /\ qbc xs = some kk
 | [],[],[],b,kk,_,h=>by simp [qbc] at h; subst h; exact ⟨rfl,rfl,rfl⟩
 | [],_ :: _,_,b,kk,h,_=>by simp [qbS] at h
 | [],[],_ :: _,b,kk,h,_=>by simp [qbS] at h
 | k :: ks,[],_,b,kk,h,_=>by simp [qbS] at h
 | k :: ks,_ :: _,[],b,kk,h,_=>by simp [qbS] at h
 | k :: ks,x :: xs,y :: ys,b,kk,h,hy=>by
  simp only [qbS] at h
  split at h
  ·rename_i c cs h1 h2
   cases y <;> simp [qbc] at hy
   obtain ⟨k1,g1,rfl⟩:=hy
   obtain ⟨a1,a2,a3⟩:=qzQ h2 g1
   cases k <;> cases x <;> simp [eqK] at h1
   obtain ⟨rfl,_⟩:=h1
   exact ⟨by simp only [List.all_cons,isI,a1,Bool.and_self],by simp [a2],by simp only [qbc,a3,Option.map_some]⟩
  ·cases h
theorem qfh {ks:Key} {x y:AV} {b:Bool} {kk:List IntKind} (h:qa7 ks x y = some b) (hy:qdk y = some kk):qkh ks = true /\ qdk x = some kk /\ ∀ z,qdk z = some kk -> ∃ c,qa7 ks x z = some c:=by
 obtain ⟨t,l⟩:=ks
 cases y <;> simp [qdk] at hy
 cases t
 ·exfalso
  cases l with
  | nil=>cases x <;> simp [qa7] at h
  | cons k l=>
   cases l with
   | nil=>cases k <;> cases x <;> simp [qa7,eqK] at h
   | cons _ _=>cases x <;> simp [qa7] at h
 ·cases x <;> simp [qa7] at h
  obtain ⟨h1,h2,h3⟩:=qzQ h hy
  refine ⟨by simp only [qkh,h1,Bool.and_self],h3,fun z hz=>?_⟩
  cases z <;> simp [qdk] at hz
  exact qzR h3 hz h1 h2
theorem qCa:∀ (xs:List AV),ltL xs xs = false
 | []=>rfl
 | x :: xs=>by cases x <;> simp [ltL,qCa xs]
theorem qq3:∀ {xs ys zs:List AV},ltL xs ys = true -> ltL ys zs = true -> ltL xs zs = true
 | [],_,_,h,_=>by simp [ltL] at h
 | x :: xs,[],_,h,_=>by cases x <;> simp [ltL] at h
 | x :: xs,y :: ys,[],_,h=>by cases y <;> simp [ltL] at h
 | x :: xs,y :: ys,z :: zs,h1,h2=>by
  cases x <;> cases y <;> simp [ltL] at h1
  cases z <;> simp [ltL] at h2
  simp only [ltL,Bool.or_eq_true,decide_eq_true_eq,Bool.and_eq_true]
  rcases h1 with h1 | ⟨rfl,h1⟩ <;> rcases h2 with h2 | ⟨rfl,h2⟩
  ·left; omega
  ·left; omega
  ·left; omega
  ·exact .inr ⟨rfl,qq3 h1 h2⟩
theorem qCb:∀ {xs ys:List AV} {kk:List IntKind},qbc xs = some kk -> qbc ys = some kk -> xs = ys \/ ltL xs ys = true \/ ltL ys xs = true
 | [],[],_,_,_=>.inl rfl
 | [],y :: ys,kk,h,h'=>by
  simp [qbc] at h; subst h
  cases y <;> simp [qbc] at h'
 | x :: xs,[],kk,h,h'=>by
  simp [qbc] at h'; subst h'
  cases x <;> simp [qbc] at h
 | x :: xs,y :: ys,kk,h,h'=>by
  cases x <;> simp [qbc] at h
  cases y <;> simp [qbc] at h'
  obtain ⟨k1,g1,rfl⟩:=h
  obtain ⟨k2,g2,g3⟩:=h'
  simp only [List.cons.injEq] at g3
  obtain ⟨rfl,rfl⟩:=g3
  rename_i a k b
  simp only [ltL,Bool.or_eq_true,decide_eq_true_eq,Bool.and_eq_true]
  rcases Int.lt_trichotomy a b with h | h | h
  ·exact .inr (.inl (.inl h))
  ·subst h
   rcases qCb g1 g2 with h | h | h
   ·exact .inl (by rw [h])
   ·exact .inr (.inl (.inr ⟨rfl,h⟩))
   ·exact .inr (.inr (.inr ⟨rfl,h⟩))
  ·exact .inr (.inr (.inl h))
theorem qh0 (x:AV):ltK x x = false:=by cases x <;> simp [ltK,qCa]
theorem qfl {x y z:AV} (h1:ltK x y = true) (h2:ltK y z = true):ltK x z = true:=by
 cases x <;> cases y <;> simp [ltK] at h1
 cases z <;> simp [ltK] at h2
 simp only [ltK]; exact qq3 h1 h2
theorem qB9 {x y:AV} {kk:List IntKind} (hx:qdk x = some kk) (hy:qdk y = some kk):x = y \/ ltK x y = true \/ ltK y x = true:=by
 cases x <;> simp [qdk] at hx
 cases y <;> simp [qdk] at hy
 simp only [ltK,AV.agg.injEq]; exact qCb hx hy
theorem qSD {x y:AV} (h:ltK x y = true):x ≠ y:=by
 rintro rfl; rw [qh0] at h; cases h
theorem qnA {ks:Key} {x:AV}:∀ {l:List (AV × AV)},(∀ p ∈ l,∃ b,qa7 ks x p.1 = some b) -> ∃ ri,qfZ ks l x = some ri
 | [],_=>⟨none,rfl⟩
 | (k,v) :: l,h=>by
  obtain ⟨b,hb⟩:=h (k,v) (by simp)
  obtain ⟨ri,hr⟩:=qnA (l:=l) fun p hp=>h p (by simp [hp])
  cases b
  ·exact ⟨ri.map (· + 1),by simp only [qfZ,hb,hr,Option.map_some]⟩
  ·exact ⟨some 0,by simp only [qfZ,hb]⟩
theorem qhg {ks:Key} {x:AV}:∀ {l:List (AV × AV)},qfZ ks l x = some none -> ∀ p ∈ l,qa7 ks x p.1 = some false
 | [],_=>by simp
 | (k,v) :: l,h=>by
  simp only [qfZ] at h
  split at h
  ·simp at h
  ·rename_i hk
   simp only [Option.map_eq_some_iff] at h
   obtain ⟨r,hr,he⟩:=h
   cases r with
   | some _=>simp at he
   | none=>
    intro p hp
    rcases List.mem_cons.1 hp with rfl | hp
    ·exact hk
    ·exact qhg hr p hp
  ·cases h
theorem set_perm {α:Type}:∀ {l:List α} {i:Nat} {a:α},i < l.length -> (l.set i a).Perm (a :: l.eraseIdx i)
 | x :: l,0,a,_=>by simp
 | x :: l,i + 1,a,h=>by
  have:=set_perm (l:=l) (i:=i) (a:=a) (by simpa using h)
  simp only [List.set_cons_succ,List.eraseIdx_cons_succ]
  exact (this.cons x).trans (List.Perm.swap a x _)
theorem qdZ {α:Type}:∀ {l:List α} {i:Nat} {a:α},l[i]? = some a -> l.Perm (a :: l.eraseIdx i)
 | x :: l,0,a,h=>by simp at h; subst h; simp
 | x :: l,i + 1,a,h=>by
  have:=qdZ (l:=l) (i:=i) (a:=a) (by simpa using h)
  simp only [List.eraseIdx_cons_succ]
  exact (this.cons x).trans (List.Perm.swap a x _)
 | [],_,_,h=>by simp at h
theorem qvx {ks:Key} {x y:AV} {kk:List IntKind} (hx:qdk x = some kk):∀ {m m':List (AV × AV)},qbU ks m x y = some m' -> (∀ p ∈ m,qdk p.1 = some kk) -> (m.Pairwise fun p q=>ltK p.1 q.1 = true) ->
  (m'.Pairwise fun p q=>ltK p.1 q.1 = true) /\ (∀ p ∈ m',p = (x,y) \/ p ∈ m) /\ ((∃ (i:Nat) (q:AV),m[i]? = some (x,q) /\ m'.Perm ((x,y) :: m.eraseIdx i)) \/ ((∀ p ∈ m,x ≠ p.1) /\ m'.Perm ((x,y) :: m)))
 | [],m',h,_,_=>by
  simp only [qbU,Option.some.injEq] at h
  subst h
  exact ⟨by simp,by simp,.inr ⟨by simp,.refl _⟩⟩
 | (k,v) :: m,m',h,hu,hs=>by
  simp only [qbU] at h
  rw [List.pairwise_cons] at hs
  split at h
  ·rename_i he
   simp only [Option.some.injEq] at h
   subst h
   have:=qb5 he
   subst this
   exact ⟨List.pairwise_cons.2 hs,fun p hp=>(List.mem_cons.1 hp).imp id fun h=>by simp [h],.inl ⟨0,v,rfl,by simp⟩⟩
  ·rename_i he
   split at h
   ·rename_i hlt
    simp only [Option.some.injEq] at h
    subst h
    have hall:∀ p ∈ (k,v) :: m,ltK x p.1 = true:=by
     intro p hp
     rcases List.mem_cons.1 hp with rfl | hp
     ·exact hlt
     ·exact qfl hlt (hs.1 p hp)
    exact ⟨List.pairwise_cons.2 ⟨hall,List.pairwise_cons.2 hs⟩,fun p hp=>List.mem_cons.1 hp,.inr ⟨fun p hp=>qSD (hall p hp),.refl _⟩⟩
   ·rename_i hlt
    simp only [Option.map_eq_some_iff] at h
    obtain ⟨m1,h1,rfl⟩:=h
    obtain ⟨g1,g2,g3⟩:=qvx hx h1 (fun p hp=>hu p (by simp [hp])) hs.2
    have hk:=hu (k,v) (by simp)
    have hkx:x ≠ k:=by
     rintro rfl
     have:=qhW he
     cases this
    have hgt:ltK k x = true:=by
     rcases qB9 hk hx with h | h | h
     ·exact absurd h.symm hkx
     ·exact h
     ·exact absurd h hlt
    refine ⟨List.pairwise_cons.2 ⟨fun p hp=>?_,g1⟩,fun p hp=>?_,?_⟩
    ·rcases g2 p hp with rfl | hp
     ·exact hgt
     ·exact hs.1 p hp
    ·rcases List.mem_cons.1 hp with rfl | hp
     ·exact .inr (by simp)
     ·exact (g2 p hp).imp id fun h=>by simp [h]
    ·rcases g3 with ⟨i,q,e1,e2⟩ | ⟨e1,e2⟩
     ·exact .inl ⟨i + 1,q,by simpa using e1,by simp only [List.eraseIdx_cons_succ]; exact (e2.cons _).trans (List.Perm.swap _ _ _)⟩
     ·exact .inr ⟨fun p hp=>by
       rcases List.mem_cons.1 hp with rfl | hp
       ·exact hkx
       ·exact e1 p hp,(e2.cons _).trans (List.Perm.swap _ _ _)⟩
  ·cases h
theorem qxb {ks:Key} {x y x' y':AV} {kk:List IntKind} (hx:qdk x = some kk) (hx':qdk x' = some kk) (hne:qa7 ks x x' = some false) (hne':qa7 ks x' x = some false) :
  ∀ {m m1 m2:List (AV × AV)},qbU ks m x y = some m1 -> qbU ks m1 x' y' = some m2 -> ∃ m3,qbU ks m x' y' = some m3 /\ qbU ks m3 x y = some m2:=by
 have hnn:x ≠ x':=by
  rintro rfl
  have:=qhW hne
  cases this
 have htot:(ltK x x' = true /\ ltK x' x = false) \/ (ltK x x' = false /\ ltK x' x = true):=by
  rcases qB9 hx hx' with h | h | h
  ·exact absurd h hnn
  ·refine .inl ⟨h,?_⟩
   cases h2:ltK x' x with
   | false=>rfl
   | true=>have:=qfl h h2; rw [qh0] at this; cases this
  ·refine .inr ⟨?_,h⟩
   cases h2:ltK x x' with
   | false=>rfl
   | true=>have:=qfl h h2; rw [qh0] at this; cases this
 intro m
 induction m with
 | nil=>
  intro m1 m2 h1 h2
  simp only [qbU,Option.some.injEq] at h1
  subst h1
  refine ⟨[(x',y')],rfl,?_⟩
  simp only [qbU,hne',hne] at h2 ⊢
  rcases htot with ⟨a,b⟩ | ⟨a,b⟩ <;> simp only [a,b,if_true,Bool.false_eq_true,if_false,Option.map_some] at h2 ⊢ <;> exact h2
 | cons p m ih=>
  obtain ⟨k,v⟩:=p
  intro m1 m2 h1 h2
  simp only [qbU] at h1
  split at h1
  ·
   rename_i he
   simp only [Option.some.injEq] at h1
   subst h1
   have hk:=qb5 he
   subst hk
   simp only [qbU,hne'] at h2 ⊢
   split at h2
   ·rename_i hlt
    simp only [Option.some.injEq] at h2
    subst h2
    have hnl:ltK x x' = false:=by
     rcases htot with ⟨_,b⟩ | ⟨a,_⟩
     ·rw [b] at hlt; cases hlt
     ·exact a
    refine ⟨(x',y') :: (x,v) :: m,by rw [if_pos hlt],?_⟩
    simp only [qbU,hne,hnl,Bool.false_eq_true,if_false,he,Option.map_some]
   ·rename_i hlt
    simp only [Option.map_eq_some_iff] at h2
    obtain ⟨m3,h3,rfl⟩:=h2
    refine ⟨(x,v) :: m3,by rw [if_neg hlt,h3]; rfl,?_⟩
    simp only [qbU,he]
  ·rename_i he
   split at h1
   ·
    rename_i hlt
    simp only [Option.some.injEq] at h1
    subst h1
    simp only [qbU,hne'] at h2
    split at h2
    ·rename_i hlt'
     simp only [Option.some.injEq] at h2
     subst h2
     have hnl:ltK x x' = false:=by
      rcases htot with ⟨_,b⟩ | ⟨a,_⟩
      ·rw [b] at hlt'; cases hlt'
      ·exact a
     have hk:ltK x' k = true:=qfl hlt' hlt
     cases hq:qa7 ks x' k with
     | none=>
      exfalso
      obtain ⟨hik,_,hal⟩:=qfh hne' hx
      obtain ⟨k2,e1,e2⟩:=qeE he hik
      rw [hx] at e1; cases e1
      obtain ⟨c,hc⟩:=hal k e2
      rw [hq] at hc; cases hc
     | some b=>
      cases b
      ·refine ⟨(x',y') :: (k,v) :: m,by simp only [qbU,hq,hk,if_true],?_⟩
       simp only [qbU,hne,hnl,Bool.false_eq_true,if_false,he,hlt,if_true,Option.map_some]
      ·have:=qb5 hq
       subst this
       rw [qh0] at hk; cases hk
    ·rename_i hlt'
     simp only [Option.map_eq_some_iff] at h2
     obtain ⟨m3,h3,rfl⟩:=h2
     have h3':qbU ks ((k,v) :: m) x' y' = some m3:=by simp only [qbU]; exact h3
     refine ⟨m3,h3',?_⟩
     split at h3
     ·rename_i he2
      simp only [Option.some.injEq] at h3
      subst h3
      simp only [qbU,he,hlt,if_true]
     ·rename_i he2
      split at h3
      ·simp only [Option.some.injEq] at h3
       subst h3
       have hl:ltK x x' = true:=by
        rcases htot with ⟨a,_⟩ | ⟨_,b⟩
        ·exact a
        ·exact absurd b hlt'
       simp only [qbU,hne,hl,if_true]
      ·simp only [Option.map_eq_some_iff] at h3
       obtain ⟨m4,h4,rfl⟩:=h3
       simp only [qbU,he,hlt,if_true]
     ·cases h3
   ·rename_i hlt
    simp only [Option.map_eq_some_iff] at h1
    obtain ⟨m1',h1',rfl⟩:=h1
    simp only [qbU] at h2
    split at h2
    ·rename_i he2
     simp only [Option.some.injEq] at h2
     subst h2
     refine ⟨(k,y') :: m,by simp only [qbU,he2],?_⟩
     simp only [qbU,he,hlt,Bool.false_eq_true,if_false,h1',Option.map_some]
    ·rename_i he2
     split at h2
     ·rename_i hlt2
      simp only [Option.some.injEq] at h2
      subst h2
      refine ⟨(x',y') :: (k,v) :: m,by simp only [qbU,he2,hlt2,if_true],?_⟩
      have hnl:ltK x x' = false:=by
       cases h:ltK x x' with
       | false=>rfl
       | true=>exact absurd (qfl h hlt2) hlt
      simp only [qbU,hne,hnl,he,hlt,Bool.false_eq_true,if_false,h1',Option.map_some]
     ·rename_i hlt2
      simp only [Option.map_eq_some_iff] at h2
      obtain ⟨m2',h2',rfl⟩:=h2
      obtain ⟨m3,h3,h4⟩:=ih h1' h2'
      refine ⟨(k,v) :: m3,by simp only [qbU,he2,hlt2,Bool.false_eq_true,if_false,h3,Option.map_some],?_⟩
      simp only [qbU,he,hlt,Bool.false_eq_true,if_false,h4,Option.map_some]
    ·cases h2
  ·cases h1
theorem qmQ {l:List (AV × AV)} (hs:l.Pairwise fun p q=>ltK p.1 q.1 = true) {p q:AV × AV} (hp:p ∈ l) (hq:q ∈ l) (he:p.1 = q.1):p = q:=by
 obtain ⟨i,hi,rfl⟩:=List.mem_iff_getElem.1 hp
 obtain ⟨j,hj,rfl⟩:=List.mem_iff_getElem.1 hq
 have h:=List.pairwise_iff_getElem.1 hs
 rcases Nat.lt_trichotomy i j with hl | rfl | hl
 ·have:=h i j hi hj hl; rw [he,qh0] at this; cases this
 ·rfl
 ·have:=h j i hj hi hl; rw [he,qh0] at this; cases this
theorem qq7 {ks:Key} {x k v:AV} {l:List (AV × AV)} {r:Option Nat} (h:qfZ ks ((k,v) :: l) x = some r):∃ b,qa7 ks x k = some b:=by
 simp only [qfZ] at h
 split at h
 ·exact ⟨true,by assumption⟩
 ·exact ⟨false,by assumption⟩
 ·cases h
theorem MapOf.pos {kvs0 kvs:List (AV × AV)} (hM:MapOf kvs0 kvs) {ks:Key} {x:AV} {ri:Option Nat} (h:qfZ ks kvs x = some ri) :
  ∃ r0,qfZ ks kvs0 x = some r0 /\ ((ri = none /\ r0 = none) \/ ∃ i j kv,ri = some i /\ r0 = some j /\ kvs[i]? = some kv /\ kvs0[j]? = some kv /\ x = kv.1 /\ (kvs0 = kvs -> i = j)):=by
 rcases hM with ⟨rfl,_⟩ | ⟨hp,⟨kk,hk⟩,hs⟩
 ·refine ⟨ri,h,?_⟩
  cases ri with
  | none=>exact .inl ⟨rfl,rfl⟩
  | some i=>
   obtain ⟨k,v,h1,h2⟩:=qdt h
   exact .inr ⟨i,i,(k,v),rfl,rfl,h1,h1,qb5 h2,fun _=>rfl⟩
 ·cases hkv:kvs with
  | nil=>
   subst hkv
   have:=hp.eq_nil
   subst this
   simp only [qfZ,Option.some.injEq] at h
   exact ⟨none,rfl,.inl ⟨h.symm,rfl⟩⟩
  | cons kv l=>
   rw [<- hkv]
   obtain ⟨k,v⟩:=kv
   obtain ⟨b,hb⟩:=qq7 (hkv ▸ h)
   obtain ⟨_,hxk,hall⟩:=qfh hb (hk (k,v) (by rw [hkv]; simp))
   obtain ⟨r0,h0⟩:=qnA (l:=kvs0) (x:=x) (ks:=ks) fun p hpm=>hall p.1 (hk p (hp.mem_iff.1 hpm))
   refine ⟨r0,h0,?_⟩
   cases ri with
   | none=>
    have hn:=qhg h
    cases r0 with
    | none=>exact .inl ⟨rfl,rfl⟩
    | some j=>
     obtain ⟨k',v',h1,h2⟩:=qdt h0
     have:=hn (k',v') (hp.mem_iff.1 (List.mem_of_getElem? h1))
     rw [h2] at this; cases this
   | some i=>
    obtain ⟨k',v',h1,h2⟩:=qdt h
    have hx:=qb5 h2
    subst hx
    cases r0 with
    | none=>
     have:=qhg h0 (x,v') (hp.mem_iff.2 (List.mem_of_getElem? h1))
     rw [h2] at this; cases this
    | some j=>
     obtain ⟨k2,v2,h3,h4⟩:=qdt h0
     have hx:=qb5 h4
     subst hx
     have:=qmQ hs (List.mem_of_getElem? h1) (hp.mem_iff.1 (List.mem_of_getElem? h3)) rfl
     cases this
     exact .inr ⟨i,j,(x,v'),rfl,rfl,h1,h3,rfl,fun he=>by
      subst he; rw [h0] at h; cases h; rfl⟩
theorem MapOf.put {kvs0 kvs kvs':List (AV × AV)} (hM:MapOf kvs0 kvs) {ks:Key} {x y:AV} (hkey:isKey ks x = true) (h:qxa ks kvs x y = some kvs') :
  ∃ r0,qfZ ks kvs0 x = some r0 /\ ((r0 = none /\ MapOf (kvs0 ++ [(x,y)]) kvs') \/ ∃ j q,r0 = some j /\ kvs0[j]? = some (x,q) /\ MapOf (kvs0.set j (x,y)) kvs'):=by
 obtain ⟨bx,hbx⟩:=Option.isSome_iff_exists.1 hkey
 unfold qxa at h
 split at h
 ·rename_i hi
  obtain ⟨kk,hkx,_⟩:=qeE hbx hi
  have hR:kvs0.Perm kvs /\ (∀ p ∈ kvs,qdk p.1 = some kk) /\ kvs.Pairwise fun p q=>ltK p.1 q.1 = true:=by
   cases hkv:kvs with
   | nil=>
    subst hkv
    have:kvs0 = []:=by
     rcases hM with ⟨h,_⟩ | ⟨h,_⟩
     ·exact h
     ·exact h.eq_nil
    subst this
    exact ⟨.refl _,by simp,.nil⟩
   | cons kv l=>
    obtain ⟨k,v⟩:=kv
    have hd:∃ b,qa7 ks x k = some b:=by
     rw [hkv] at h
     simp only [qbU] at h
     split at h
     ·exact ⟨true,by assumption⟩
     ·exact ⟨false,by assumption⟩
     ·cases h
    obtain ⟨b,hb⟩:=hd
    obtain ⟨k2,e1,e2⟩:=qeE hb hi
    rw [hkx] at e1; cases e1
    rw [<- hkv]
    rcases hM with ⟨rfl,hno⟩ | ⟨hp,⟨k3,hk3⟩,hs⟩
    ·have:=hno (k,v) (by rw [hkv]; simp)
     rw [e2] at this; cases this
    ·have:=hk3 (k,v) (by rw [hkv]; simp)
     rw [e2] at this; cases this
     exact ⟨hp,hk3,hs⟩
  obtain ⟨hp,hk,hs⟩:=hR
  obtain ⟨_,_,hall⟩:=qfh hbx hkx
  obtain ⟨r0,h0⟩:=qnA (l:=kvs0) (x:=x) (ks:=ks) fun p hpm=>hall p.1 (hk p (hp.mem_iff.1 hpm))
  obtain ⟨g1,g2,g3⟩:=qvx hkx h hk hs
  have hkk:∃ kk,∀ p ∈ kvs',qdk p.1 = some kk:=⟨kk,fun p hpm=>by
   rcases g2 p hpm with rfl | hpm
   ·exact hkx
   ·exact hk p hpm⟩
  refine ⟨r0,h0,?_⟩
  cases r0 with
  | none=>
   have hn:=qhg h0
   refine .inl ⟨rfl,.inr ⟨?_,hkk,g1⟩⟩
   rcases g3 with ⟨i,q,e1,_⟩ | ⟨_,e2⟩
   ·have:=hn (x,q) (hp.mem_iff.2 (List.mem_of_getElem? e1))
    have:=qhW this
    cases this
   ·exact (List.perm_append_comm.trans ((hp.cons _))).trans e2.symm
  | some j=>
   obtain ⟨k',v',h1,h2⟩:=qdt h0
   have hx:=qb5 h2
   subst hx
   refine .inr ⟨j,v',rfl,h1,.inr ⟨?_,hkk,g1⟩⟩
   have hmem:=hp.mem_iff.1 (List.mem_of_getElem? h1)
   rcases g3 with ⟨i,q,e1,e2⟩ | ⟨e1,_⟩
   ·have:=qmQ hs hmem (List.mem_of_getElem? e1) rfl
    cases this
    have hlt:j < kvs0.length:=(List.getElem?_eq_some_iff.1 h1).1
    have hc:(kvs0.eraseIdx j).Perm (kvs.eraseIdx i):=by
     have:=((qdZ h1).symm.trans hp).trans (qdZ e1)
     exact this.cons_inv
    exact ((set_perm hlt).trans (hc.cons _)).trans e2.symm
   ·exact absurd rfl (e1 _ hmem)
 ·rename_i hi
  obtain ⟨ri,hpos,hri⟩:=qq8 h
  have hnx:qdk x = none:=by
   cases hq:qdk x with
   | none=>rfl
   | some kk=>exact absurd (qfh hbx hq).1 hi
  have hL:kvs0 = kvs /\ ∀ p ∈ kvs,qdk p.1 = none:=by
   rcases hM with hM | ⟨hp,⟨kk,hk⟩,_⟩
   ·exact hM
   ·cases hkv:kvs with
    | nil=>subst hkv; exact ⟨hp.eq_nil,by simp⟩
    | cons kv l=>
     obtain ⟨k,v⟩:=kv
     obtain ⟨b,hb⟩:=qq7 (hkv ▸ hpos)
     exact absurd (qfh hb (hk (k,v) (by rw [hkv]; simp))).1 hi
  obtain ⟨rfl,hno⟩:=hL
  refine ⟨ri,hpos,?_⟩
  rcases hri with ⟨rfl,rfl⟩ | ⟨i,k,v,rfl,h1,rfl⟩
  ·exact .inl ⟨rfl,.inl ⟨rfl,fun p hp=>by
    rcases List.mem_append.1 hp with hp | hp
    ·exact hno p hp
    ·rw [List.mem_singleton] at hp; subst hp; exact hnx⟩⟩
  ·obtain ⟨k',v',h3,h4⟩:=qdt hpos
   have hx:=qb5 h4
   subst hx
   rw [h1] at h3; cases h3
   exact .inr ⟨i,v,rfl,h1,.inl ⟨rfl,fun p hp=>by
    rcases List.mem_or_eq_of_mem_set hp with hp | rfl
    ·exact hno p hp
    ·exact hnx⟩⟩
theorem MapOf.cut {kvs0 kvs kvs':List (AV × AV)} (hM:MapOf kvs0 kvs) {ks:Key} {x:AV} (h:qGa ks kvs x = some kvs') :
  ∃ r0,qfZ ks kvs0 x = some r0 /\ ((r0 = none /\ kvs' = kvs) \/ ∃ j q,r0 = some j /\ kvs0[j]? = some (x,q) /\ MapOf (kvs0.eraseIdx j) kvs'):=by
 obtain ⟨ri,hpos,hri⟩:=qvv h
 obtain ⟨r0,h0,hc⟩:=hM.pos hpos
 refine ⟨r0,h0,?_⟩
 rcases hc with ⟨rfl,rfl⟩ | ⟨i,j,kv,rfl,rfl,h1,h2,hx,hij⟩
 ·rcases hri with ⟨_,h⟩ | ⟨i,hi,_⟩
  ·exact .inl ⟨rfl,h⟩
  ·cases hi
 ·rcases hri with ⟨hi,_⟩ | ⟨i',hi,hlt,rfl⟩
  ·cases hi
  ·cases hi
   obtain ⟨k,v⟩:=kv
   simp only at hx
   subst hx
   refine .inr ⟨j,v,rfl,h2,?_⟩
   rcases hM with ⟨rfl,hno⟩ | ⟨hp,⟨kk,hk⟩,hs⟩
   ·have:=hij rfl
    subst this
    exact .inl ⟨rfl,fun p hp=>hno p (List.mem_of_mem_eraseIdx hp)⟩
   ·have:=((qdZ h2).symm.trans hp).trans (qdZ h1)
    exact .inr ⟨this.cons_inv,⟨kk,fun p hp=>hk p (List.mem_of_mem_eraseIdx hp)⟩,hs.sublist (List.eraseIdx_sublist _ _)⟩
end Go.Eng
namespace Go.Eng
set_option linter.unusedSectionVars false
variable [Globs]
section
variable {P:Program} {w:World} {I:Imm} {m:Names} {h:Heap} {nx:Nat}
theorem run_getObj_map {r:Nat} {es:Array MapEntry} {clock:Nat} (hr:w.heap[r]? = some (.map es clock)):(getObj r).run P w = .ok (.map es clock) w:=by
 simp [getObj,Sem.run,hr]
def World.setObj' (w:World) (r:Nat) (o:Obj):World:={ w with heap:=w.heap.setIfInBounds r o }
theorem run_setObj_map {r:Nat} {es:Array MapEntry} {clock:Nat} {o:Obj} (hr:w.heap[r]? = some (.map es clock)):(setObj r o).run P w = .ok () (World.setObj' w r o):=by
 simp [setObj,Sem.run,hr,World.setObj']
theorem qkO {r:Nat} {o:Obj} (h:r < w.heap.size):(World.setObj' w r o).heap[r]? = some o:=by simp [World.setObj',h]
theorem qdA {r k:Nat} {o:Obj} (h:k ≠ r):(World.setObj' w r o).heap[k]? = w.heap[k]?:=by simp [World.setObj',Array.getElem?_setIfInBounds,Ne.symm h]
theorem qkP {r:Nat} {o:Obj}:(World.setObj' w r o).heap.size = w.heap.size:=by simp [World.setObj']
theorem qiA (H:HeapAt w I m h) {r:Nat} {es es':Array MapEntry} {clock clock':Nat} (hr:w.heap[r]? = some (.map es clock)):Stays w (World.setObj' w r (.map es' clock')) I where
 size:=by rw [qkP]; exact Nat.le_refl _
 row:=fun b C e hC=>by
  have hb:b ≠ r:=fun h=>by rw [h,hr] at hC; cases hC
  exact ⟨C,by rw [qdA hb]; exact hC,rfl⟩
 imm:=fun b o _=>by
  have hlt:r < w.heap.size:=(Array.getElem?_eq_some_iff.1 hr).1
  by_cases hb:b = r
  ·subst hb
   simp only [World.cell?,ad,qkO hlt,hr]
  ·simp only [World.cell?,ad]
   rw [qdA hb]
 out:=⟨rfl,rfl,rfl⟩
theorem After.mapped (H:HeapAt w I m h) {id:Nat} {old:Blk} {kvs:List (AV × AV)} (hid:qad h id = some old) {L:Loc} (hL:m id = some L) {es es':Array MapEntry} {clock clock':Nat}
  (hC:w.heap[L.blk]? = some (.map es clock)) {kvs0:List (AV × AV)} (hM:MapOf kvs0 kvs) (hnew:qgP w I kvs0 es'.toList):After w (World.setObj' w L.blk (.map es' clock')) I I m m h (qbu h id (.mp kvs)) nx where
 stays:=qiA H hC
 imm:=fun _ _ h=>h
 names:=fun _ _ h=>h
 fresh:=fun i h1 h2=>absurd h1 h2
 heap:=by
  have hlt:L.blk < w.heap.size:=(Array.getElem?_eq_some_iff.1 hC).1
  have hs:Stays w (World.setObj' w L.blk (.map es' clock')) I:=qiA H hC
  constructor
  ·intro i a hi
   rw [qaP] at hi
   by_cases ei:i = id
   ·subst ei
    simp at hi; subst hi
    obtain ⟨h1,h2⟩:=qbQ.1 hnew
    refine ⟨L,hL,es',clock',kvs0,hM,qkO hlt,by simpa using h1,fun i kv hkv=>?_⟩
    obtain ⟨x,hx,h3,h4⟩:=h2 i kv hkv
    exact ⟨x,by simpa using hx,qaA hs (fun _ _ h=>h) _ (fun _ _ h=>h) h3,qaA hs (fun _ _ h=>h) _ (fun _ _ h=>h) h4⟩
   ·rw [if_neg ei] at hi
    obtain ⟨L',hL',hat⟩:=H.at_ i a hi
    have hne:L'.blk ≠ L.blk:=fun he=>ei (H.apart i id a old L' L hi hid hL' hL he)
    exact ⟨L',hL',hat.keep hs (fun _ _ h=>h) (fun _ _ h=>h) (qdA hne) fun _ h=>h⟩
  ·intro i j a b L1 L2 hi hj hL1 hL2 he
   rw [qaP] at hi hj
   have hi':∃ a,qad h i = some a:=by
    by_cases ei:i = id
    ·exact ⟨old,ei ▸ hid⟩
    ·rw [if_neg ei] at hi; exact ⟨a,hi⟩
   have hj':∃ a,qad h j = some a:=by
    by_cases ej:j = id
    ·exact ⟨old,ej ▸ hid⟩
    ·rw [if_neg ej] at hj; exact ⟨b,hj⟩
   obtain ⟨a',hi'⟩:=hi'
   obtain ⟨b',hj'⟩:=hj'
   exact H.apart i j a' b' L1 L2 hi' hj' hL1 hL2 he
  ·intro b o hi
   rw [qkP]; exact H.old b o hi
  ·exact H.glob.mono hs fun _ _ h=>h
 frame:=fun k hk hno=>qdA fun e=>hno ⟨id,old,L,hid,hL,e.symm⟩
 newI:=fun _ _ h=>.inl h
 owns:=fun k ho=>by
  obtain ⟨i,a,L',hi,hL',rfl⟩:=ho
  rw [qaP] at hi
  by_cases ei:i = id
  ·exact .inl ⟨i,old,L',ei ▸ hid,hL',rfl⟩
  ·rw [if_neg ei] at hi; exact .inl ⟨i,a,L',hi,hL',rfl⟩
 dom:=fun i a hi=>by
  rw [qaP] at hi
  by_cases ei:i = id
  ·exact .inl ⟨old,ei ▸ hid⟩
  ·rw [if_neg ei] at hi; exact .inl ⟨a,hi⟩
theorem qvu (H:HeapAt w I m h) {id:Nat} {kvs:List (AV × AV)} (hid:qad h id = some (.mp kvs)) {v:Value} (hr:Rel w I (.mref id) m v) :
  ∃ L es clock kvs0,MapOf kvs0 kvs /\ m id = some L /\ v = .map (some L.blk) /\ w.heap[L.blk]? = some (.map es clock) /\ es.size = kvs0.length /\ qgP w I kvs0 es.toList:=by
 simp only [Rel] at hr
 obtain ⟨L,hL,rfl⟩:=hr
 obtain ⟨L',hL',hat⟩:=H.at_ id _ hid
 rw [hL] at hL'; cases hL'
 obtain ⟨es,clock,kvs0,hM,hC,hsz,hcell⟩:=hat
 refine ⟨L,es,clock,kvs0,hM,hL,rfl,hC,hsz,qbQ.2 ⟨by simpa using hsz,fun i kv hkv=>?_⟩⟩
 obtain ⟨x,hx,h1,h2⟩:=hcell i kv hkv
 exact ⟨x,by simpa using hx,h1,h2⟩
theorem qzU {k:EK} {x y:AV} {c:Bool} (h:eqK k x y = some c):idsA x = []:=by
 cases k <;> cases x <;> cases y <;> first | rfl | simp [eqK] at h
theorem qBz {ks:Key} {x:AV} (hk:isKey ks x = true) {u:Value} (hr:Rel w I x m u):Rel w I x m0 u:=by
 refine qde x ?_ hr
 simp only [isKey,Option.isSome_iff_exists] at hk
 obtain ⟨b,hb⟩:=hk
 obtain ⟨xs,ys,h1,h2,h3⟩:=qc8 hb
 have key:∀ (l:List EK) (xs ys:List AV) (b:Bool),qbS l xs ys = some b -> idsA.idsL xs = []:=by
  intro l
  induction l with
  | nil=>intro xs ys b hb; cases xs <;> cases ys <;> simp [qbS] at hb; rfl
  | cons k l ih=>
   intro xs ys b hb
   cases xs <;> cases ys <;> simp only [qbS,reduceCtorEq] at hb
   split at hb
   ·rename_i c d h1 h2
    simp only [idsA.idsL,ih _ _ _ h2,List.append_nil]
    exact qzU h1
   ·cases hb
 have hxs:=key _ _ _ _ h3
 rcases h1 with ⟨_,rfl⟩ | ⟨_,rfl⟩
 ·simpa [idsA] using hxs
 ·simpa [idsA.idsL] using hxs
theorem qJ0 (H:HeapAt w I m h) {t kt et:TypeId} {ks:Key} {z:AV} (ht:P.underlying t = some (.map kt et)) (hk:qr8 P kt = some ks) (hz:zeroOf P et = some z) {id:Nat} {kvs:List (AV × AV)} (hid:qad h id = some (.mp kvs))
  {v u:Value} (hr:Rel w I (.mref id) m v) {x:AV} (hx:Rel w I x m u) (hkey:isKey ks x = true) {r:Option AV} (hf:qkv ks kvs x = some r) {ok:Bool} {q:AV}
  (hq:q = (let p:=r.getD z; if ok then .tup [p,.bool r.isSome] else p)):Gives P w I m (do pure (.value (<- Instr.lookup t v u ok))) q:=by
 obtain ⟨L,es,clock,kvs0,hM,hL,rfl,hC,hsz,hkv⟩:=qvu H hid hr
 obtain ⟨ri0,hp0,hri⟩:=qq4 hf
 obtain ⟨ri,hp,hcase⟩:=hM.pos hp0
 have hx0:=qBz hkey hx
 have hfk:=qeC (P:=P) hk hx0 hkey hkv hp
 have hck:=qdL (P:=P) hk hx hkey es.isEmpty
 obtain ⟨zv,hzv,hav⟩:=qcx hz w
 have hzr:Rel w I z m zv:=hav _ _ _
 obtain ⟨h1,h2⟩:=qbQ.1 hkv
 rcases hcase with ⟨rfl,rfl⟩ | ⟨i0,i,kv,rfl,rfl,hi0,hi,_,_⟩
 ·simp at hri; subst hri
  have hrun:(Instr.lookup t (.map (some L.blk)) u ok).run P w = .ok (if ok then .tuple #[zv,.bool false] else zv) w:=by
   simp only [Instr.lookup,Sem.run_bind,run_underlying ht,Result.andThen_ok,run_getObj_map hC,Sem.run_pure,hck,hfk,Option.bind_none,hzv]
  refine qar hrun ?_
  subst hq
  cases ok
  ·simpa using hzr
  ·simp only [if_true,Option.getD_none,Option.isSome_none,Rel]
   exact ⟨[zv,.bool false],rfl,by simp [qaw,Rel,hzr]⟩
 ·obtain ⟨k,y⟩:=kv
  obtain ⟨e,he,_,hy⟩:=h2 i (k,y) hi
  simp [hi0] at hri; subst hri
  have hrun:(Instr.lookup t (.map (some L.blk)) u ok).run P w = .ok (if ok then .tuple #[e.val,.bool true] else e.val) w:=by
   simp only [Instr.lookup,Sem.run_bind,run_underlying ht,Result.andThen_ok,run_getObj_map hC,Sem.run_pure,hck,hfk,Option.bind_some,he,Option.map_some]
  refine qar hrun ?_
  subst hq
  have hy':=qrp (m:=m) hy
  cases ok
  ·simpa using hy'
  ·simp only [if_true,Option.getD_some,Option.isSome_some,Rel]
   exact ⟨[e.val,.bool true],rfl,by simp [qaw,Rel,hy']⟩
theorem qJP (H:HeapAt w I m h) {t kt et:TypeId} {ks:Key} (ht:P.underlying t = some (.map kt et)) (hk:qr8 P kt = some ks) {id:Nat} {kvs kvs':List (AV × AV)} (hid:qad h id = some (.mp kvs))
  {v u y':Value} (hr:Rel w I (.mref id) m v) {x y:AV} (hx:Rel w I x m u) (hy:Rel w I y m y') (hids:idsA y = []) (hkey:isKey ks x = true) (hf:qxa ks kvs x y = some kvs') :
  Does P w I m h nx (do Instr.mapUpdate t v u y'; pure .skip) unit (qbu h id (.mp kvs')):=by
 obtain ⟨L,es,clock,kvs0,hM,hL,rfl,hC,hsz,hkv⟩:=qvu H hid hr
 obtain ⟨ri,hp,hri⟩:=hM.put hkey hf
 have hx0:=qBz hkey hx
 have hy0:=qde (m':=m0) y hids hy
 have hfk:=qeC (P:=P) hk hx0 hkey hkv hp
 have hck:=qdL (P:=P) hk hx hkey false
 obtain ⟨h1,h2⟩:=qbQ.1 hkv
 rcases hri with ⟨rfl,hM'⟩ | ⟨i,q,rfl,hi,hM'⟩
 ·have hrun:(Instr.mapUpdate t (.map (some L.blk)) u y').run P w = .ok () (World.setObj' w L.blk (.map (es.push { key:=u,val:=y',born:=clock }) (clock + 1))):=by
   simp only [Instr.mapUpdate,Sem.run_bind,run_underlying ht,Result.andThen_ok,run_getObj_map hC,hck,hfk,Option.bind_none,run_setObj_map hC]
  refine ⟨_,_,I,m,by rw [Sem.run_bind,hrun]; rfl,After.mapped H hid hL hC hM' ?_,.inr ⟨rfl,rfl⟩⟩
  rw [qbQ]
  refine ⟨by simp [hsz],fun j kv hj=>?_⟩
  by_cases hlt:j < kvs0.length
  ·rw [List.getElem?_append_left hlt] at hj
   obtain ⟨e,he,g1,g2⟩:=h2 j kv hj
   exact ⟨e,by simp only [Array.toList_push]; rw [List.getElem?_append_left (by rw [h1]; exact hlt)]; exact he,g1,g2⟩
  ·rw [List.getElem?_append_right (by omega)] at hj
   have hj0:j = kvs0.length:=by
    have:=(List.getElem?_eq_some_iff.1 hj).1
    simp at this; omega
   subst hj0
   simp at hj; subst hj
   exact ⟨{ key:=u,val:=y',born:=clock },by simp only [Array.toList_push]; rw [List.getElem?_append_right (by rw [h1]; exact Nat.le_refl _),h1]; simp,hx0,hy0⟩
 ·obtain ⟨k',q',hi',hkeq⟩:=qdt hp
  rw [hi] at hi'; cases hi'
  obtain ⟨e,he,g1,g2⟩:=h2 i (x,q) hi
  obtain ⟨hsame,hbits⟩:=qFW hkeq hx0 g1
  have hesi:es[i]? = some e:=by simpa using he
  have hrun:(Instr.mapUpdate t (.map (some L.blk)) u y').run P w = .ok () (World.setObj' w L.blk (.map (es.modify i fun e=>{ e with key:=u,val:=y' }) clock)):=by
   simp only [Instr.mapUpdate,Sem.run_bind,run_underlying ht,Result.andThen_ok,run_getObj_map hC,hck,hfk,Option.bind_some,he,Option.map_some,hesi,Option.getD_some,Instr.keyThatStays,hbits,if_true,Sem.run_pure,run_setObj_map hC]
  refine ⟨_,_,I,m,by rw [Sem.run_bind,hrun]; rfl,After.mapped H hid hL hC hM' ?_,.inr ⟨rfl,rfl⟩⟩
  rw [qbQ]
  refine ⟨by simp [hsz],fun j kv hj=>?_⟩
  simp only [List.getElem?_set] at hj
  by_cases hij:i = j
  ·subst hij
   rw [if_pos rfl] at hj
   split at hj
   ·simp at hj; subst hj
    refine ⟨{ e with key:=u,val:=y' },?_,hsame ▸ g1,hy0⟩
    rw [Array.getElem?_toList,Array.getElem?_modify]; simp [hesi]
   ·cases hj
  ·rw [if_neg hij] at hj
   obtain ⟨e',he',g1',g2'⟩:=h2 j kv hj
   refine ⟨e',?_,g1',g2'⟩
   rw [Array.getElem?_toList,Array.getElem?_modify]; simp [hij]; simpa using he'
theorem qR0 (H:HeapAt w I m h) {t kt et:TypeId} {ks:Key} (ht:P.underlying t = some (.map kt et)) (hk:qr8 P kt = some ks) {id:Nat} {kvs kvs':List (AV × AV)} (hid:qad h id = some (.mp kvs))
  {v u:Value} (hr:Rel w I (.mref id) m v) {x:AV} (hx:Rel w I x m u) (hkey:isKey ks x = true) (hf:qGa ks kvs x = some kvs') (ts:List TypeId) (ty:TypeId) :
  Does P w I m h nx (do pure (.value (<- Builtin.delete_ (t :: ts).toArray ty #[v,u]))) unit (qbu h id (.mp kvs')):=by
 obtain ⟨L,es,clock,kvs0,hM,hL,rfl,hC,hsz,hkv⟩:=qvu H hid hr
 obtain ⟨ri,hp,hri⟩:=hM.cut hf
 have hx0:=qBz hkey hx
 have hfk:=qeC (P:=P) hk hx0 hkey hkv hp
 have hck:=qdL (P:=P) hk hx hkey es.isEmpty
 obtain ⟨h1,h2⟩:=qbQ.1 hkv
 rcases hri with ⟨rfl,rfl⟩ | ⟨i,q,rfl,hik,hM'⟩
 ·have hrun:(Builtin.delete_ (t :: ts).toArray ty #[.map (some L.blk),u]).run P w = .ok (.tuple #[]) (World.setObj' w L.blk (.map es clock)):=by
   simp only [Builtin.delete_,List.getElem?_toArray,List.getElem?_cons_zero,List.getElem?_cons_succ,Sem.run_bind,run_underlying ht,Result.andThen_ok,run_getObj_map hC,hck,hfk,Option.bind_none,run_setObj_map hC,Sem.run_pure]
  exact ⟨_,_,I,m,by rw [Sem.run_bind,hrun]; rfl,After.mapped H hid hL hC hM hkv,.inl ⟨_,rfl,by simp [unit,Rel,qaw]⟩⟩
 ·have hi:i < kvs0.length:=(List.getElem?_eq_some_iff.1 hik).1
  obtain ⟨e,he,g1,g2⟩:=h2 i (x,q) hik
  have hrun:(Builtin.delete_ (t :: ts).toArray ty #[.map (some L.blk),u]).run P w = .ok (.tuple #[]) (World.setObj' w L.blk (.map (es.eraseIdxIfInBounds i) clock)):=by
   simp only [Builtin.delete_,List.getElem?_toArray,List.getElem?_cons_zero,List.getElem?_cons_succ,Sem.run_bind,run_underlying ht,Result.andThen_ok,run_getObj_map hC,hck,hfk,Option.bind_some,he,Option.map_some,run_setObj_map hC,Sem.run_pure]
  refine ⟨_,_,I,m,by rw [Sem.run_bind,hrun]; rfl,After.mapped H hid hL hC hM' ?_,.inl ⟨_,rfl,by simp [unit,Rel,qaw]⟩⟩
  have htl:(es.eraseIdxIfInBounds i).toList = es.toList.eraseIdx i:=by
   have:i < es.size:=by rw [hsz]; exact hi
   simp [Array.eraseIdxIfInBounds,this,Array.toList_eraseIdx]
  rw [qbQ,htl]
  refine ⟨by simp [List.length_eraseIdx,hsz],fun j kv hj=>?_⟩
  rw [List.getElem?_eraseIdx] at hj
  split at hj
  ·rename_i hlt
   obtain ⟨e',he',g1',g2'⟩:=h2 j kv hj
   exact ⟨e',by rw [List.getElem?_eraseIdx,if_pos hlt]; exact he',g1',g2'⟩
  ·rename_i hlt
   obtain ⟨e',he',g1',g2'⟩:=h2 (j + 1) kv hj
   exact ⟨e',by rw [List.getElem?_eraseIdx,if_neg hlt]; exact he',g1',g2'⟩
theorem qWQ (H:HeapAt w I m h) {t:TypeId} (ht:(∃ e,P.underlying t = some (.slice e)) \/ P.underlying t = some .string \/ ∃ k e,P.underlying t = some (.map k e)) {x:AV} {v:Value} (hr:Rel w I x m v) {n:Nat}
  (hx:(∃ s,P.underlying t = some .string /\ x = .str s /\ n = s.length) \/ ((∃ e,P.underlying t = some (.slice e)) /\ ((∃ q,x = .nils q /\ n = 0) \/ (∃ sz es,x = .view sz es /\ n = es.length) \/ ∃ id off lo sz es fz,x = .own id off lo /\ qad h id = some (.arr sz es fz) /\ n = qa9 es.length off lo)) \/
   ((∃ k e,P.underlying t = some (.map k e)) /\ ((x = .nilm /\ n = 0) \/ ∃ id kvs,x = .mref id /\ qad h id = some (.mp kvs) /\ n = kvs.length))) (ty:TypeId) :
  Gives P w I m (do pure (.value (<- Builtin.len_ #[t] ty #[v]))) (.int .i64 n):=by
 rcases hx with ⟨s,hu,rfl,rfl⟩ | ⟨⟨e,hu⟩,hx⟩ | ⟨⟨k,e,hu⟩,hx⟩
 ·simp only [Rel] at hr; subst hr
  exact qar (u:=.int .i64 s.length) (by simp [Builtin.len_,run_underlying hu,size_mk,goInt]) (by simp [Rel])
 ·rcases hx with ⟨q,rfl,rfl⟩ | ⟨sz,es,rfl,rfl⟩ | ⟨id,off,lo,sz,es,fz,rfl,hlk,rfl⟩
  ·simp only [Rel] at hr
   obtain ⟨b,cap,rfl,_⟩:=qd6 hr
   exact qar (u:=.int .i64 0) (by simp [Builtin.len_,run_underlying hu,goInt]) (by simp [Rel])
  ·simp only [Rel] at hr
   obtain ⟨ar,cap,rfl,_⟩:=hr
   exact qar (u:=.int .i64 es.length) (by simp [Builtin.len_,run_underlying hu,goInt]) (by simp [Rel])
  ·simp only [Rel] at hr
   obtain ⟨L,hL,o,cap,C,e',rfl,_⟩:=hr
   obtain ⟨L',hL',hat⟩:=H.at_ id _ hlk
   rw [hL] at hL'; cases hL'
   rw [hat.1]
   exact qar (u:=.int .i64 (qa9 es.length off lo)) (by simp [Builtin.len_,run_underlying hu,goInt]) (by simp [Rel])
 ·rcases hx with ⟨rfl,rfl⟩ | ⟨id,kvs,rfl,hid,rfl⟩
  ·simp only [Rel] at hr; subst hr
   exact qar (u:=.int .i64 0) (by simp [Builtin.len_,run_underlying hu,goInt]) (by simp [Rel])
  ·obtain ⟨L,es,clock,kvs0,hM,hL,rfl,hC,hsz0,_⟩:=qvu H hid hr
   have hsz:=hsz0.trans hM.len
   exact qar (u:=.int .i64 kvs.length) (by simp [Builtin.len_,run_underlying hu,run_getObj_map hC,goInt,hsz]) (by simp [Rel])
end
end Go.Eng
namespace Go.Eng
set_option linter.unusedSectionVars false
variable [Globs]
def qcj:IOp -> Bool
 | .call _ _=>true
 | .callv _ _=>true
 | .invk _ _ _=>true
 | _=>false
section
variable {P:Program} {w:World} {I:Imm} {m:Names} {h:Heap} {nx:Nat} {e:Env} {a:Act}
theorem qh5 (ht:qe0 w I m e a):∀ {ps:List (Nat × Operand)} {qs:List (Nat × Opd)},qpr ps = some qs -> qaw w I (qs.map fun p=>qau e p.2) m ((ps.map fun p=>(p.1,a.eval p.2)).map (·.2)) /\ qs.map (·.1) = (ps.map fun p=>(p.1,a.eval p.2)).map (·.1)
 | [],qs,h=>by simp [qpr] at h; subst h; simp [qaw]
 | (i,x) :: ps,qs,h=>by
  simp only [qpr] at h
  split at h
  ·rename_i y qs' h1 h2
   simp at h; subst h
   obtain ⟨h3,h4⟩:=qh5 ht h2
   simp only [List.map_cons,qaw]
   exact ⟨⟨_,_,rfl,qan ht h1,h3⟩,by simp [h4]⟩
  ·cases h
theorem qxs {x y:Opd} (h:qGy x y = true) {e:Env}:qau e x = qau e y:=by
 cases x <;> cases y <;> simp [qGy] at h
 subst h; rfl
theorem qNo {ev:Opd -> AV} {len:Option Nat} {lo hi:Option Opd} {num off l u:Nat} (hb:qdo (qa9 num off len) (num - off) (qa3 ev lo) (qa3 ev hi) = some (l,u)) :
  qUM len hi (u - l) = some (u - l) \/ qUM len hi (u - l) = none /\ len = none /\ u = num - off:=by
 cases len with
 | some n=>exact .inl rfl
 | none=>
  cases hi with
  | some h=>exact .inl rfl
  | none=>
   refine .inr ⟨rfl,rfl,?_⟩
   have h0:qa3 ev (none:Option Opd) = none:=rfl
   rw [h0] at hb
   generalize qa3 ev lo = q at hb
   simp only [qdo,qwZ,qcD] at hb
   cases q with
   | none=>simp [qN0] at hb; exact hb.2.symm
   | some v=>
    cases v <;> simp only [qN0,reduceCtorEq] at hb
    split at hb
    ·simp at hb; exact hb.2.symm
    ·cases hb
theorem qEH {v:Option AV} {r:Res} {h':Heap} {b:Bool} (hs:qr2 v h = some (r,h',b)):∃ x,v = some x /\ r = .ret x /\ h' = h:=by
 cases v with
 | none=>simp [qr2] at hs
 | some x=>simp [qr2] at hs; exact ⟨x,rfl,hs.1.symm,hs.2.1.symm⟩
theorem qGQ {v:AV} {r:Res} {h':Heap} {b:Bool} (hs:val v h = some (r,h',b)):r = .ret v /\ h' = h:=by
 simp [val] at hs; exact ⟨hs.1.symm,hs.2.1.symm⟩
def qbo (P:Program) (w:World) (I:Imm) (m:Names) (h:Heap) (nx:Nat) (s:Sem Next) (r:Res) (h':Heap):Prop:=
 match r with
 | .ret v=>Does P w I m h nx s v h'
 | .pan v=>h' = h /\ ∃ u,s.run P w = .halt (.panic u) w /\ Rel w I v m u
theorem qaC {v:AV} {r:Res} {h':Heap} {b:Bool} {s:Sem Next} (H:HeapAt w I m h) (hs:val v h = some (r,h',b)) (g:Gives P w I m s v):qbo P w I m h nx s r h':=by
 obtain ⟨rfl,rfl⟩:=qGQ hs
 exact g.does H
theorem qdv {v:Option AV} {r:Res} {h':Heap} {b:Bool} {s:Sem Next} (H:HeapAt w I m h) (hs:qr2 v h = some (r,h',b)) (g:∀ x,v = some x -> Gives P w I m s x):qbo P w I m h nx s r h':=by
 obtain ⟨x,hx,rfl,rfl⟩:=qEH hs
 exact (g x hx).does H
theorem qbq {v:AV} {r:Res} {h' h'':Heap} {b b':Bool} {s:Sem Next} (hs:some (Res.ret v,h',b) = some (r,h'',b')) (d:Does P w I m h nx s v h'):qbo P w I m h nx s r h'':=by
 simp only [Option.some.injEq,Prod.mk.injEq] at hs
 obtain ⟨rfl,rfl,_⟩:=hs
 exact d
theorem qbx {t e:TypeId} (h:qpC P t = some e):P.underlying t = some (.slice e):=by
 simp only [qpC] at h
 split at h
 ·rename_i e' he; simp at h; subst h; exact he
 ·cases h
section builtins
variable {IP:Prog} {call:qaL} {r:Res} {h':Heap} {b:Bool} {ty:TypeId} {consts:Array Bool}
theorem qV3 (ht:qe0 w I m e a) (H:HeapAt w I m h) {x:Operand} {t:TypeId} {io:IOp} (hc:qQR P x t = some io) (hs:opS IP call nx (qau e) h io = some (r,h',b)) :
  qbo P w I m h nx (builtin .len #[t] ty consts #[a.eval x]) r h':=by
 simp only [qQR] at hc
 split at hc
 ·rename_i d y hd hy
  simp only [Option.map_eq_some_iff] at hc
  obtain ⟨k,hk,rfl⟩:=hc
  have hr:=qan ht hy
  have hb:builtin .len #[t] ty consts #[a.eval x] = (do pure (.value (<- Builtin.len_ #[t] ty #[a.eval x]))):=rfl
  rw [hb]
  simp only [opS] at hs
  have G:=fun (n:Nat) hx=>qWQ (P:=P) H (t:=t) (by cases d <;> simp [qsP] at hk <;> first | exact .inl ⟨_,hd⟩ | exact .inr (.inl hd) | exact .inr (.inr ⟨_,_,hd⟩)) hr (n:=n) hx ty
  cases d <;> simp only [qsP,reduceCtorEq,Option.some.injEq] at hk <;> subst hk
  case string=>
   generalize hx:qau e y = z at *
   cases z <;> simp only [reduceCtorEq] at hs
   exact qaC H hs (G _ (.inl ⟨_,hd,rfl,rfl⟩))
  case slice et=>
   generalize hx:qau e y = z at *
   cases z <;> simp only [reduceCtorEq] at hs
   ·exact qaC H hs (G 0 (.inr (.inl ⟨⟨_,hd⟩,.inl ⟨_,rfl,rfl⟩⟩)))
   ·exact qaC H hs (G _ (.inr (.inl ⟨⟨_,hd⟩,.inr (.inl ⟨_,_,rfl,rfl⟩)⟩)))
   ·split at hs
    ·rename_i hlk
     exact qaC H hs (G _ (.inr (.inl ⟨⟨_,hd⟩,.inr (.inr ⟨_,_,_,_,_,_,rfl,hlk,rfl⟩)⟩)))
    ·cases hs
  case map kt et=>
   generalize hx:qau e y = z at *
   cases z <;> simp only [reduceCtorEq] at hs
   ·exact qaC H hs (G 0 (.inr (.inr ⟨⟨_,_,hd⟩,.inl ⟨rfl,rfl⟩⟩)))
   ·split at hs
    ·rename_i kvs hl
     exact qaC H hs (G _ (.inr (.inr ⟨⟨_,_,hd⟩,.inr ⟨_,_,rfl,hl,rfl⟩⟩)))
    ·cases hs
 ·cases hc
theorem qVZ (ht:qe0 w I m e a) (H:HeapAt w I m h) (hnx:m nx = none) {s x:Operand} {t u:TypeId} {io:IOp} (hc:qQN P s x t u = some io) (hs:opS IP call nx (qau e) h io = some (r,h',b)) :
  qbo P w I m h nx (builtin .append #[t,u] ty consts #[a.eval s,a.eval x]) r h':=by
 simp only [qQN] at hc
 split at hc
 ·rename_i et eu p q h1 h2 h3 h4
  split at hc
  ·rename_i sz by_ z h5 h6 h7
   split at hc
   ·rename_i hcond
    obtain ⟨c1,c2,c3,c4⟩:=hcond
    simp at hc; subst hc
    simp only [opS] at hs
    split at hs
    ·rename_i src hsrc
     split at hs
     ·rename_i v h1' happ
      exact qbq hs (qWv H hnx (qbx h1) (qbx h2) h5 h6 h7 c1 c2 c3 c4 (qan ht h3) (qan ht h4) hsrc happ ty)
     ·cases hs
    ·cases hs
   ·cases hc
  ·cases hc
 ·cases hc
theorem qV2 (ht:qe0 w I m e a) (H:HeapAt w I m h) {mp k:Operand} {t:TypeId} {ts:List TypeId} {io:IOp} (hc:qQQ P mp k t = some io) (hs:opS IP call nx (qau e) h io = some (r,h',b)) :
  qbo P w I m h nx (builtin .delete (t :: ts).toArray ty consts #[a.eval mp,a.eval k]) r h':=by
 simp only [qQQ] at hc
 split at hc
 ·rename_i kt et p q h1 h2 h3
  simp only [Option.map_eq_some_iff] at hc
  obtain ⟨ks,hks,rfl⟩:=hc
  have hr:=qan ht h2
  have hk:=qan ht h3
  simp only [opS] at hs
  generalize hx:qau e p = z at *
  cases z <;> simp only [reduceCtorEq] at hs
  split at hs
  ·rename_i kvs hl
   split at hs
   ·rename_i kvs' hcut
    split at hcut
    ·rename_i hkey
     exact qbq hs (qR0 H h1 hks hl hr hk hkey hcut ts ty)
    ·cases hcut
   ·cases hs
  ·cases hs
 ·cases hc
theorem qV0 (ht:qe0 w I m e a) (H:HeapAt w I m h) {x:Operand} {t:TypeId} {io:IOp} (hc:qQO P x t = some io) (hs:opS IP call nx (qau e) h io = some (r,h',b)) :
  qbo P w I m h nx (builtin .clear #[t] ty consts #[a.eval x]) r h':=by
 simp only [qQO] at hc
 split at hc
 ·rename_i et y h1 h2
  split at hc
  ·rename_i sz z h3 h4
   split at hc
   ·rename_i hcond
    obtain ⟨c1,c2,c3⟩:=hcond
    simp at hc; subst hc
    have hr:=qan ht h2
    simp only [opS] at hs
    generalize hx:qau e y = q at *
    cases q <;> simp only [reduceCtorEq] at hs
    ·simp only [Rel] at hr
     refine qaC H hs (qar (u:=.tuple #[]) ?_ (by simp [unit,Rel,qaw]))
     obtain ⟨b,cap,hb,_⟩:=qd6 hr
     rw [hb]
     cases b <;> simp [Builtin.clear_,run_underlying (qbx h1)]
    ·split at hs
     ·rename_i sz' es hl
      split at hs
      ·rename_i hcc
       obtain ⟨rfl,hle⟩:=hcc
       exact qbq hs (qWx H (qbx h1) h3 h4 c1 c2 c3 hl hle rfl hr ty)
      ·cases hs
     ·cases hs
   ·cases hc
  ·cases hc
 ·cases hc
theorem qV1 (ht:qe0 w I m e a) (H:HeapAt w I m h) {x y:Operand} {t:TypeId} {ts:List TypeId} {io:IOp} (hc:qQP P x y t = some io) (hs:opS IP call nx (qau e) h io = some (r,h',b)) :
  qbo P w I m h nx (builtin .copy (t :: ts).toArray ty consts #[a.eval x,a.eval y]) r h':=by
 simp only [qQP] at hc
 split at hc
 ·rename_i et p q h1 h2 h3
  simp only [Option.map_eq_some_iff] at hc
  obtain ⟨sz,hsz,rfl⟩:=hc
  simp only [opS] at hs
  split at hs
  ·rename_i hcd
   exact qaC H hs (qWN (qbx h1) hsz (qan ht h2) (qan ht h3) hcd.1 hcd.2 ts ty)
  ·cases hs
 ·cases hc
theorem qsX (ht:qe0 w I m e a) (H:HeapAt w I m h) (hnx:m nx = none) {bi:Builtin} {args:List Operand} {ts:List TypeId} {io:IOp} (hc:qg0 P bi args ts = some io) (hs:opS IP call nx (qau e) h io = some (r,h',b)) :
  qbo P w I m h nx (builtin bi ts.toArray ty consts (args.map a.eval).toArray) r h':=by
 simp only [qg0] at hc
 split at hc
 ·rename_i hb; subst hb
  split at hc
  ·exact qV3 ht H hc hs
  ·cases hc
 ·split at hc
  ·rename_i hb; subst hb
   split at hc
   ·exact qVZ ht H hnx hc hs
   ·cases hc
  ·split at hc
   ·rename_i hb; subst hb
    split at hc
    ·exact qV2 ht H hc hs
    ·cases hc
   ·split at hc
    ·rename_i hb; subst hb
     split at hc
     ·exact qV0 ht H hc hs
     ·cases hc
    ·split at hc
     ·rename_i hb; subst hb
      simp only [Option.map_eq_some_iff] at hc
      obtain ⟨ys,hys,rfl⟩:=hc
      have hr:=qdc ht hys
      simp only [opS] at hs
      split at hs
      ·rename_i x xs hx
       exact qdv H hs fun z hz=>qWR hr hx hz _ _
      ·cases hs
     ·split at hc
      ·rename_i hb; subst hb
       simp only [Option.map_eq_some_iff] at hc
       obtain ⟨ys,hys,rfl⟩:=hc
       have hr:=qdc ht hys
       simp only [opS] at hs
       split at hs
       ·rename_i x xs hx
        exact qdv H hs fun z hz=>qWS hr hx hz _ _
       ·cases hs
      ·split at hc
       ·rename_i hb; subst hb
        split at hc
        ·rename_i x
         simp only [Option.map_eq_some_iff] at hc
         obtain ⟨y,hy,rfl⟩:=hc
         have hr:=qan ht hy
         simp only [opS] at hs
         generalize hx:qau e y = z at *
         cases z <;> simp only [reduceCtorEq,Option.some.injEq,Prod.mk.injEq] at hs
         obtain ⟨rfl,rfl,_⟩:=hs
         refine ⟨rfl,a.eval x,?_,hr⟩
         simp only [Rel] at hr
         obtain ⟨u,hu,_⟩:=hr
         simp [builtin,Instr.panic,hu]
        ·cases hc
       ·split at hc
        ·rename_i hb; subst hb
         split at hc
         ·exact qV1 ht H hc hs
         ·cases hc
        ·cases hc
end builtins
set_option maxHeartbeats 2000000 in
theorem qrb {t f:Nat} {y:Value} {name:String} (h:qPq P name t = some f) (n:Nat):(nilAhead (n + 1) t y name).run P w = .ok (some false) w:=by
 unfold qPq at h
 split at h
 ·rename_i i hi
  split at h
  ·rename_i mt hm
   have hti:(typeInfo t).run P w = .ok i w:=by simp [typeInfo,hi]
   split at h
   ·rename_i g e hp hfn hu
    cases h
    simp only [nilAhead,Sem.run_bind,hti,Result.andThen_ok,hm,hp,followBlind,Sem.run_pure,hfn]
   ·cases h
   ·rename_i g d hne hp hfn hu
    cases h
    simp only [nilAhead,Sem.run_bind,hti,Result.andThen_ok,hm,hp,followBlind,Sem.run_pure,hfn,run_underlying hu]
    cases d <;> first | rfl | exact absurd rfl (hne _)
   ·cases h
  ·cases h
 ·cases h
theorem qGh {IP:Prog} {call:qaL} (ht:qe0 w I m e a) (H:HeapAt w I m h) (hnx:m nx = none) {o:Oper} {io:IOp} {mn:Nat -> Option String} (hc:cOp P mn o.op = some io) (hnc:qcj io = false) {r:Res} {h':Heap} {b:Bool}
  (hs:opS IP call nx (qau e) h io = some (r,h',b)):qbo P w I m h nx (execOp a.eval o) r h':=by
 obtain ⟨dst,op,type,pos,after,guard⟩:=o
 simp only at hc
 cases op <;> simp only [cOp,reduceCtorEq] at hc <;> simp only [execOp]
 case move x=>
  simp only [Option.map_eq_some_iff] at hc
  obtain ⟨y,hy,rfl⟩:=hc
  exact qaC H hs ⟨_,rfl,qan ht hy⟩
 case panic x=>
  simp only [Option.map_eq_some_iff] at hc
  obtain ⟨y,hy,rfl⟩:=hc
  have hr:=qan ht hy
  simp only [opS] at hs
  generalize hx:qau e y = z at *
  cases z <;> simp only [reduceCtorEq,Option.some.injEq,Prod.mk.injEq] at hs
  obtain ⟨rfl,rfl,_⟩:=hs
  refine ⟨rfl,a.eval x,?_,hr⟩
  simp only [Rel] at hr
  obtain ⟨u,hu,_⟩:=hr
  simp [Instr.panic,hu]
 case assign x=>
  simp only [Option.map_eq_some_iff] at hc
  obtain ⟨y,hy,rfl⟩:=hc
  exact qaC H hs ⟨_,rfl,qan ht hy⟩
 case pick c x y=>
  split at hc
  ·rename_i c' x' y' h1 h2 h3
   simp at hc; subst hc
   have hr:=qan ht h1
   simp only [opS] at hs
   generalize hx:qau e c' = z at *
   cases z <;> simp only [reduceCtorEq] at hs
   rename_i t
   simp only [Rel] at hr
   refine qaC H hs ⟨if t then a.eval x else a.eval y,by simp [hr,asBool],?_⟩
   cases t
   ·simpa using qan ht h3
   ·simpa using qan ht h2
  ·cases hc
 case alloc t=>
  split at hc
  ·rename_i z hz
   split at hc
   ·rename_i hok
    simp at hc; subst hc
    exact qbq hs (qNp H hnx hz hok)
   ·cases hc
  ·cases hc
 case box t x=>
  split at hc
  ·rename_i n y h1 h2
   simp at hc; subst hc
   simp only [opS] at hs
   split at hs
   ·rename_i hcond
    exact qbq hs (qWw H hnx (qan ht h2) hcond.2)
   ·cases hs
  ·cases hc
 case build t ps=>
  split at hc
  ·rename_i z fs hz hu
   split at hc
   ·rename_i hcond
    simp only [Option.map_eq_some_iff] at hc
    obtain ⟨qs,hqs,rfl⟩:=hc
    simp only [opS] at hs
    split at hs
    ·rename_i cs hcs
     exact qaC H hs (qly ht hz hcond.2 hu hcond.1 hqs hcs)
    ·cases hs
   ·cases hc
  ·rename_i z k et hz hu
   split at hc
   ·rename_i n hn
    split at hc
    ·rename_i hag
     simp only [Option.map_eq_some_iff] at hc
     obtain ⟨qs,hqs,rfl⟩:=hc
     simp only [opS] at hs
     split at hs
     ·rename_i cs hcs
      exact qaC H hs (qnp ht hz hag hu hn hqs hcs)
     ·cases hs
    ·cases hc
   ·cases hc
  ·cases hc
 case buildSlice t n ps=>
  split at hc
  ·rename_i et het
   split at hc
   ·rename_i sz z qs h1 h2 h3
    split at hc
    ·rename_i hcond
     obtain ⟨c1,c2,c3,c4⟩:=hcond
     simp at hc; subst hc
     simp only [opS] at hs
     split at hs
     ·rename_i hz
      obtain ⟨rfl,hz2⟩:=hz
      have hqs:=(qh5 ht h3).1
      have hps:(ps.map fun x=>(x.1,a.eval x.2)).toList = []:=by
       have:=qaH hqs
       simp only [List.length_map] at this
       have h0:ps.toList.length = 0:=by first | omega | (rw [hz2] at this; simpa using this)
       rw [Array.toList_map,List.length_eq_zero_iff.1 h0]; rfl
      have hm:(ps.map fun (i,x)=>(i,a.eval x)) = ps.map fun x=>(x.1,a.eval x.2):=rfl
      rw [hm]
      exact qbq hs (qzG H hnx (qbx het) h1 hps)
     split at hs
     ·rename_i vs h1' hst
      split at hs
      ·rename_i es hf
       obtain ⟨g1,g2⟩:=qh5 ht h3
       have hm:(ps.map fun (i,x)=>(i,a.eval x)) = ps.map fun x=>(x.1,a.eval x.2):=rfl
       have hd:=qFs H hnx (qbx het) h1 h2 c2 c3 c4 c1 (ps:=ps.map fun x=>(x.1,a.eval x.2)) (by simpa using g1) hst (es:=es) (by
        have:=g2
        rw [this] at hf
        simpa using hf)
       rw [hm]
       exact qbq hs hd
      ·cases hs
     ·cases hs
    ·cases hc
   ·cases hc
  ·cases hc
 case load t x=>
  split at hc
  ·rename_i n ag y h1 h2 h3
   split at hc
   ·rename_i hcond
    simp at hc; subst hc
    simp only [opS] at hs
    split at hs
    ·rename_i cs hcs
     obtain ⟨bb,oo,hv,hcells⟩:=qg2 H (qan ht h3) hcs
     refine qdv H hs fun z hz=>?_
     obtain ⟨u,hu,hr⟩:=qhd (P:=P) h1 h2 hcond hcells hz
     exact qar (u:=u) (by simp [Instr.loadAt,hv,Instr.sureAddr,hu]) hr
    ·cases hs
   ·cases hc
  ·cases hc
 case store t x v=>
  split at hc
  ·rename_i n x' v' h1 h2 h3
   simp at hc; subst hc
   have hx:=qan ht h2
   have hv:=qan ht h3
   simp only [opS] at hs
   split at hs
   ·rename_i hh hst
    generalize hz:qau e x' = z at *
    cases z <;> simp only [qEm,reduceCtorEq] at hst
    rename_i id idx off
    split at hst
    ·rename_i cs hl
     split at hst
     ·rename_i hcond
      obtain ⟨rfl,c2,c3,c4⟩:=hcond
      simp at hst; subst hst
      exact qbq hs (qsq H h1 hl hx hv c2 c3 c4)
     ·cases hst
    ·rename_i sz es hl
     split at hst
     ·rename_i y h1' hy
      split at hst
      ·rename_i sz1 es1 e0 hl1 he
       split at hst
       ·rename_i hcond
        obtain ⟨c1,c2,c3⟩:=hcond
        simp at hst; subst hst
        exact qbq hs (qsp H h1 hl hx hv hy hl1 he c1 c2 c3)
       ·cases hst
      ·cases hst
     ·cases hst
    ·cases hst
   ·cases hs
  ·cases hc
 case nilCheck x=>
  have plain:∀ y,qch x = some y -> io = .nilck y -> qbo P w I m h nx (execOp a.eval ⟨dst,.nilCheck x,type,pos,after,guard⟩) r h':=by
   intro y hy he
   subst he
   have hr:=qan ht hy
   simp only [opS] at hs
   split at hs
   ·rename_i hn
    generalize hz:qau e y = z at *
    refine qaC H hs ⟨a.eval x,?_,hr⟩
    simp only [execOp]
    cases z <;> simp only [isNil,reduceCtorEq] at hn <;> simp only [Rel] at hr
    ·obtain ⟨_,_,hv,_⟩:=hr; rw [hv]; rfl
    ·obtain ⟨_,_,hv⟩:=hr; rw [hv]; rfl
    ·obtain ⟨_,hv,_⟩:=hr
     rename_i f cap vs hrel
     cases f with
     | func n=>rw [hv]; rfl
     | meth s=>cases hn
    ·obtain ⟨_,hv,_⟩:=hr; rw [hv]; rfl
   ·cases hs
  cases x with
  | tmp t=>
   simp only [qPf] at hc
   split at hc
   ·rename_i s hmn
    cases hc
    simp only [opS] at hs
    split at hs
    ·rename_i s' t' v hv
     split at hs
     ·rename_i hcond
      obtain ⟨rfl,htb⟩:=hcond
      obtain ⟨f,hf⟩:=Option.isSome_iff_exists.1 htb
      have hr:Rel w I (qau e (.t t)) m (a.eval (.tmp t)):=qan ht rfl
      rw [hv] at hr
      refine qaC H hs ⟨a.eval (.tmp t),?_,hr⟩
      simp only [Rel,qaw] at hr
      obtain ⟨vs,he,_,_,rfl,⟨y,rfl,_⟩,rfl⟩:=hr
      rw [he]
      simp only [fnV,List.getElem?_toArray,List.getElem?_cons_zero]
      have:=qrb (P:=P) (w:=w) (y:=y) (qnB P hf) (P.types.size + Made.depth - 1)
      rw [show P.types.size + Made.depth - 1 + 1 = P.types.size + Made.depth by simp only [Made.depth]; omega] at this
      simp [this]
     ·cases hs
    ·cases hs
   ·cases hc
    exact plain _ rfl rfl
  | const v=>
   simp only [qPf,Option.map_eq_some_iff] at hc
   obtain ⟨y,hy,rfl⟩:=hc
   exact plain y hy rfl
  | func f=>
   simp only [qPf,Option.map_eq_some_iff] at hc
   obtain ⟨y,hy,rfl⟩:=hc
   exact plain y hy rfl
  | global g=>
   simp only [qPf,Option.map_eq_some_iff] at hc
   obtain ⟨y,hy,rfl⟩:=hc
   exact plain y hy rfl
 case binOp op t x y yt=>
  simp only [qUI] at hc
  split at hc
  ·rename_i x' y' h1 h2
   have hx:=qan ht h1
   have hy:=qan ht h2
   have plain:io = .bin op x' y' -> qbo P w I m h nx (do let __do_lift <- (do eqGuard op t x y (a.eval x) (a.eval y); Go.binOp op t (a.eval x) (a.eval y)); pure (Next.value __do_lift)) r h':=by
    intro he; subst he
    simp only [opS] at hs
    refine qdv H hs fun z hz=>?_
    obtain ⟨u,hu,hr⟩:=qzl (P:=P) (t:=t) hx hy hz x y
    exact qar hu hr
   have eqv:∀ (neg:Bool),op = (if neg then .neq else .eql) -> cEq P neg op t x y x' y' = some io -> qbo P w I m h nx (do let __do_lift <- (do eqGuard op t x y (a.eval x) (a.eval y); Go.binOp op t (a.eval x) (a.eval y)); pure (Next.value __do_lift)) r h':=by
    intro neg hop hc'
    simp only [cEq] at hc'
    split at hc'
    ·cases hc'
    ·rename_i d hu
     split at hc'
     ·simp at hc'; exact plain hc'.symm
     ·simp at hc'; exact plain hc'.symm
     ·simp at hc'; subst hc'
      simp only [opS] at hs
      split at hs
      ·rename_i bb hk
       generalize qau e x' = p at *
       generalize qau e y' = q at *
       have hk':eqK .b p q = some bb:=by cases p <;> cases q <;> exact hk
       cases p <;> cases q <;> simp only [eqK,reduceCtorEq,Option.some.injEq] at hk'
       simp only [Rel] at hx hy
       refine qaC H hs (qar (u:=.bool (if neg then !bb else bb)) ?_ (by simp [Rel]))
       rw [hx,hy,eqGuard_at_bool]
       subst hop; subst hk'
       cases neg <;> simp [Go.binOp,Op.equal,Op.maxDepth,run_equalIn_bool' w 9999 t _ _ hu]
      ·cases hs
     ·split at hc'
      ·rename_i ks hks
       split at hc'
       ·cases hc'
       ·rename_i hg
        simp at hc'; subst hc'
        simp only [opS] at hs
        split at hs
        ·rename_i bb hk
         have hE:=qkl (P:=P) hks hx hy hk 10000 (by omega)
         obtain ⟨d,hd,hcc⟩:=qmr hks
         rw [hu] at hd; cases hd
         have hks1:ks.1 = true:=by
          rcases hcc with ⟨h,_⟩ | ⟨h,hh⟩
          ·exact h
          ·rcases hh with ⟨_,h⟩ | ⟨_,_,h⟩ | ⟨_,h⟩ <;> cases h
         obtain ⟨xs,ys,g1,g2,_⟩:=qc8 hk
         have hxa:∃ us,a.eval x = .agg us:=by
          rcases g1 with ⟨_,g⟩ | ⟨g,_⟩
          ·rw [g] at hx; simp only [Rel] at hx; obtain ⟨us,hu,_⟩:=hx; exact ⟨_,hu⟩
          ·rw [hks1] at g; cases g
         have hya:∃ us,a.eval y = .agg us:=by
          rcases g2 with ⟨_,g⟩ | ⟨g,_⟩
          ·rw [g] at hy; simp only [Rel] at hy; obtain ⟨us,hu,_⟩:=hy; exact ⟨_,hu⟩
          ·rw [hks1] at g; cases g
         obtain ⟨us,hus⟩:=hxa
         obtain ⟨vs,hvs⟩:=hya
         rw [hus,hvs] at hE ⊢
         refine qaC H hs (qar (u:=.bool (if neg then !bb else bb)) ?_ (by simp [Rel]))
         rw [Sem.run_bind,run_eqGuard_agg w op t x y us vs (by simpa using hg),Result.andThen_ok]
         subst hop
         cases neg
         ·simp only [Bool.false_eq_true,if_false]; rw [run_eql_struct,hE]; rfl
         ·simp only [if_true]; rw [run_neq_struct,hE]; rfl
        ·cases hs
      ·cases hc'
     ·split at hc'
      ·rename_i hcn
       simp only [Option.map_eq_some_iff] at hc'
       obtain ⟨k,hk,rfl⟩:=hc'
       simp only [opS] at hs
       split at hs
       ·rename_i p q hp hq
        split at hs
        ·rename_i hpq
         obtain ⟨hrun,hna⟩:=qCt (P:=P) (neg:=neg) hu hk hx hy hp hq hpq
         refine qaC H hs (qar (u:=.bool (if neg then !(p && q) else p && q)) ?_ (by simp [Rel]))
         rw [Sem.run_bind,qA8 hna hcn,Result.andThen_ok,hop]
         exact hrun
        ·cases hs
       ·cases hs
      ·cases hc'
   split at hc
   ·rename_i hop
    exact eqv false (by simp [hop]) hc
   ·split at hc
    ·rename_i hop
     exact eqv true (by simp [hop]) hc
    ·simp at hc; exact plain hc.symm
  ·cases hc
 case unOp op t x=>
  simp only [Option.map_eq_some_iff] at hc
  obtain ⟨y,hy,rfl⟩:=hc
  simp only [opS] at hs
  refine qdv H hs fun z hz=>?_
  obtain ⟨u,hu,hr⟩:=qGO (P:=P) (qan ht hy) hz
  exact qar hu hr
 case convert s d x=>
  split at hc
  ·rename_i k1 k y hs1 hd1 hy
   simp at hc; subst hc
   have hr:=qan ht hy
   simp only [opS] at hs
   generalize hz:qau e y = z at *
   cases z <;> simp only [reduceCtorEq] at hs
   simp only [Rel] at hr
   refine qaC H hs (qar (u:=.int k (k.wrap _)) ?_ (by simp only [Rel]; rfl))
   rw [hr]
   simp [convert,run_underlying hs1,run_underlying hd1,Conv.intToInt]
  ·rename_i y hs1 hd1 hy
   simp at hc; subst hc
   have hr:=qan ht hy
   simp only [opS] at hs
   generalize hz:qau e y = z at *
   cases z <;> simp only [reduceCtorEq] at hs
   refine qaC H hs (qar (u:=a.eval x) ?_ hr)
   simp only [Rel] at hr
   rw [hr]
   simp [convert,run_underlying hs1,run_underlying hd1]
  ·cases hc
 case makeInterface t x=>
  split at hc
  ·cases hc
  ·rename_i d y hni hd hy
   simp at hc; subst hc
   refine qaC H hs (qar (u:=.iface t (a.eval x)) ?_ (by simp only [Rel]; exact ⟨_,rfl,qan ht hy⟩))
   cases d <;> simp_all [Instr.makeInterface,run_underlying hd]
  ·cases hc
 case makeFunc fn first cap=>
  simp only [qUJ] at hc
  split at hc
  ·rename_i s
   split at hc
   ·rename_i x hfi hca
    simp only [Option.map_eq_some_iff] at hc
    obtain ⟨y,hy,rfl⟩:=hc
    have h1:first = #[x]:=Array.ext' hfi
    have h2:cap = #[]:=Array.ext' hca
    subst h1; subst h2
    refine qaC H hs (qar (u:=.func (.method s) #[a.eval x] #[]) (by simp [Instr.makeFunc]) ?_)
    simp only [Rel,qaw]
    exact ⟨[a.eval x],rfl,_,_,rfl,qan ht hy,rfl⟩
   ·cases hc
  ·rename_i f
   split at hc
   ·rename_i h0
    simp only [Option.map_eq_some_iff] at hc
    obtain ⟨ys,hys,rfl⟩:=hc
    have hf0:first = #[]:=by
     apply Array.ext'
     exact List.eq_nil_of_length_eq_zero h0
    subst hf0
    refine qaC H hs (qar (u:=.func (.func f) #[] (cap.map a.eval)) (by simp [Instr.makeFunc]) ?_)
    simp only [Rel]
    exact ⟨cap.toList.map a.eval,by congr 1; apply Array.ext'; simp,qdc ht hys⟩
   ·cases hc
  ·cases hc
 case makeMap t r0=>
  have fin:io = .mkm -> (Instr.makeMap t (r0.map a.eval)).run P w = .ok (.map (some w.heap.size)) (w.alloc (.map #[] 0)) -> qbo P w I m h nx (do let __do_lift <- Instr.makeMap t (r0.map a.eval); pure (Next.value __do_lift)) r h':=by
   intro he hrun
   subst he
   simp only [opS] at hs
   obtain ⟨w',I',m',rfl,ha,hr⟩:=qWy H hnx
   exact qbq hs ⟨_,_,I',m',by rw [Sem.run_bind,hrun]; rfl,ha,.inl ⟨_,rfl,hr⟩⟩
  cases r0 with
  | none=>
   simp [qQS] at hc
   exact fin hc.symm (by simp [Instr.makeMap])
  | some o=>
   cases o <;> simp only [qQS,reduceCtorEq] at hc
   rename_i v
   cases v <;> simp only [reduceCtorEq] at hc
   split at hc
   ·rename_i kt et hu
    simp at hc
    exact fin hc.symm (by simp [Instr.makeMap,run_underlying hu,Act.eval,asInt,asIntOf])
   ·cases hc
 case makeSlice t l c=>
  split at hc
  ·rename_i et p q h1 h2 h3
   split at hc
   ·rename_i sz by_ z g1 g2 g3
    split at hc
    ·rename_i hcond
     obtain ⟨c1,c2,c3⟩:=hcond
     simp at hc; subst hc
     have hl:=qan ht h2
     have hcc:=qan ht h3
     simp only [opS] at hs
     split at hs
     ·rename_i hx hy
      rw [hx] at hl; rw [hy] at hcc
      simp only [Rel] at hl hcc
      split at hs
      ·rename_i hcd
       obtain ⟨d1,d2,d3,d4⟩:=hcd
       rw [hl,hcc]
       refine qbq hs (qWz H hnx (qbx h1) g1 g2 g3 c1 c2 c3 d1 d2 d3 d4 ?_)
       split
       ·rename_i hso
        refine .inr ⟨rfl,?_⟩
        have:=qxs hso (e:=e)
        rw [hx,hy] at this
        cases this; rfl
       ·exact .inl rfl
      ·cases hs
     ·cases hs
    ·cases hc
   ·cases hc
  ·cases hc
 case slice t x lo hi mx=>
  simp only [qUL] at hc
  split at hc
  ·simp only [qMR] at hc
   split at hc
   ·rename_i et y l u q hu hy hl hh hq
    simp only [Option.map_eq_some_iff] at hc
    obtain ⟨n,hn,rfl⟩:=hc
    have hr:=qan ht hy
    have hlo:=qfP ht hl
    have hhi:=qfP ht hh
    have hmx:=qan ht hq
    simp only [opS] at hs
    split at hs
    ·rename_i kl lv ku uv km mv h1 h2 h3
     simp only [qa3,h1] at hlo
     simp only [qa3,h2] at hhi
     rw [h3] at hmx
     cases lo with
     | none=>simp [qna] at hlo
     | some lo=>
      cases hi with
      | none=>simp [qna] at hhi
      | some hi=>
       simp only [Option.map_some,qna,Rel] at hlo hhi hmx
       split at hs
       ·rename_i hc3
        obtain ⟨c1,c2,c3⟩:=hc3
        have G:=fun hz=>qSn (P:=P) H hu hn hr (kl:=kl) (ku:=ku) (km:=km) c1 c2 c3 hz
        simp only [Option.map_some,hlo,hhi,hmx]
        generalize qau e y = q at *
        cases q <;> simp only [reduceCtorEq] at hs
        ·split at hs
         ·rename_i hle
          exact qaC H hs (G (.inl ⟨_,_,rfl,hle⟩))
         ·cases hs
        ·split at hs
         ·rename_i hlk
          split at hs
          ·rename_i hle
           exact qaC H hs (G (.inr ⟨_,_,_,_,_,_,rfl,hlk,hle⟩))
          ·cases hs
         ·cases hs
       ·cases hs
    ·cases hs
   ·cases hc
  ·split at hc
   ·rename_i et y l u hu hy hl hh
    simp only [Option.map_eq_some_iff] at hc
    obtain ⟨n,hn,rfl⟩:=hc
    have hr:=qan ht hy
    have hlo:=qfP ht hl
    have hhi:=qfP ht hh
    simp only [opS] at hs
    have G:=fun z hz=>qWT (P:=P) H hu hn hr hlo hhi (z:=z) hz
    generalize qau e y = q at *
    cases q <;> simp only [reduceCtorEq] at hs
    ·split at hs
     ·rename_i pp hb
      exact qaC H hs (G _ (.inl ⟨_,rfl,rfl,pp,hb⟩))
     ·cases hs
    ·split at hs
     ·rename_i l' u' hb
      split at hs
      ·rename_i hsz; subst hsz
       exact qaC H hs (G _ (.inr (.inl ⟨_,_,_,rfl,hb,rfl⟩)))
      ·cases hs
     ·cases hs
    ·split at hs
     ·rename_i sz' es fz hlk
      split at hs
      ·rename_i l' u' hb
       split at hs
       ·rename_i hcd
        obtain ⟨rfl,hle⟩:=hcd
        refine qaC H hs (G _ (.inr (.inr ⟨_,_,_,_,_,_,_,_,rfl,hlk,hb,hle,?_,rfl⟩)))
        exact qNo hb
       ·cases hs
      ·cases hs
     ·cases hs
   ·rename_i y l u hu hy hl hh
    simp at hc; subst hc
    have hr:=qan ht hy
    have hlo:=qfP ht hl
    have hhi:=qfP ht hh
    simp only [opS] at hs
    generalize qau e y = q at *
    cases q <;> simp only [reduceCtorEq] at hs
    split at hs
    ·rename_i l' u' hb
     exact qaC H hs (qSo hu hr hlo hhi hb)
    ·cases hs
   ·rename_i n et y hu hy hl hh
    simp only [Option.map_eq_some_iff] at hc
    obtain ⟨sz,hn,rfl⟩:=hc
    have hr:=qan ht hy
    have hlo:lo = none:=by
     cases lo with
     | none=>rfl
     | some lo=>simp only [qFn] at hl; split at hl <;> simp at hl
    have hhi:hi = none:=by
     cases hi with
     | none=>rfl
     | some hi=>simp only [qFn] at hh; split at hh <;> simp at hh
    subst hlo; subst hhi
    simp only [opS] at hs
    generalize qau e y = q at *
    cases q <;> simp only [reduceCtorEq] at hs
    split at hs
    ·rename_i hlk
     split at hs
     ·rename_i hcd
      obtain ⟨⟨rfl,rfl⟩,c2,c3,c4⟩:=hcd
      exact qbq hs (qRZ H hnx hu hn hlk hr c2 c3 c4)
     ·cases hs
    ·cases hs
   ·cases hc
 case fieldAddr s x f=>
  split at hc
  ·rename_i fs y hu hy
   split at hc
   ·rename_i fd hf
    split at hc
    ·rename_i n hn
     split at hc
     ·cases hc
     ·rename_i hn0
      simp at hc; subst hc
      have hr:=qan ht hy
      simp only [opS] at hs
      have G:=fun z hz=>qNL (P:=P) H hu hf hn hn0 hr (z:=z) hz
      generalize qau e y = q at *
      cases q <;> simp only [reduceCtorEq] at hs
      ·split at hs
       ·rename_i hle
        exact qaC H hs (G _ (.inl ⟨_,rfl,hle,rfl⟩))
       ·cases hs
      ·exact qaC H hs (G _ (.inr ⟨_,_,_,rfl,rfl⟩))
    ·cases hc
   ·cases hc
  ·cases hc
 case field s x f=>
  split at hc
  ·rename_i fs y hu hy
   split at hc
   ·rename_i fd hf
    split at hc
    ·rename_i n ag hn ha
     split at hc
     ·rename_i h1
      simp at hc; subst hc
      have hr:=qan ht hy
      simp only [opS] at hs
      generalize qau e y = q at *
      cases q <;> simp only [reduceCtorEq] at hs
      split at hs
      ·exact qdv H hs fun z hz=>qWP hu hf hn ha h1 hr hz
      ·cases hs
     ·cases hc
    ·cases hc
   ·cases hc
  ·cases hc
 case indexAddr t x i=>
  split at hc
  ·rename_i et y j hu hy hj
   simp only [Option.map_eq_some_iff] at hc
   obtain ⟨n,hn,rfl⟩:=hc
   have hr:=qvP ht H hy
   have hi:=qan ht hj
   simp only [opS] at hs
   split at hs
   ·rename_i h1 h2
    rw [h1] at hr; rw [h2] at hi
    simp only [Rel] at hi
    rw [hi]
    split at hs
    ·rename_i e0 he
     split at hs
     ·rename_i hsz; subst hsz
      exact qaC H hs (qA6 H hu hn hr (.inl ⟨_,_,rfl,he,rfl⟩))
     ·cases hs
    ·cases hs
   ·rename_i h1 h2
    rw [h1] at hr; rw [h2] at hi
    simp only [Rel] at hi
    rw [hi]
    split at hs
    ·rename_i sz' es fz hl
     split at hs
     ·rename_i hcd
      obtain ⟨rfl,d1,d2,d3⟩:=hcd
      exact qaC H hs (qA6 H hu hn hr (.inr ⟨_,_,_,_,_,rfl,hl,d1,d2,d3,by rw [qNR]⟩))
     ·cases hs
    ·cases hs
   ·cases hs
  ·rename_i k et y j hu hy hj
   simp only [Option.map_eq_some_iff] at hc
   obtain ⟨n,hn,rfl⟩:=hc
   have hr:=qvP ht H hy
   have hi:=qan ht hj
   simp only [opS] at hs
   split at hs
   ·rename_i h2
    rw [h2] at hi
    simp only [Rel] at hi
    rw [hi]
    split at hs
    ·rename_i hcd
     obtain ⟨d1,d2⟩:=hcd
     split at hs
     ·rename_i h1
      rw [h1] at hr
      split at hs
      ·rename_i hle
       exact qaC H hs (qA4 hu hn hr d1 d2 (.inl ⟨_,rfl,hle,rfl⟩))
      ·cases hs
     ·rename_i h1
      rw [h1] at hr
      exact qaC H hs (qA4 hu hn hr d1 d2 (.inr ⟨_,_,_,rfl,rfl⟩))
     ·cases hs
    ·cases hs
   ·cases hs
  ·cases hc
 case index t x i=>
  split at hc
  ·rename_i y j hu hy hj
   simp at hc; subst hc
   have hr:=qan ht hy
   have hi:=qan ht hj
   simp only [opS] at hs
   split at hs
   ·rename_i h1 h2
    rw [h1] at hr; rw [h2] at hi
    simp only [Rel] at hi
    rw [hi]
    split at hs
    ·rename_i b0 hb
     exact qaC H hs (qSm hu hr hb)
    ·cases hs
   ·cases hs
  ·rename_i k et y j hu hy hj
   split at hc
   ·rename_i n ag hn ha
    split at hc
    ·rename_i h1
     simp at hc; subst hc
     have hr:=qan ht hy
     have hi:=qan ht hj
     simp only [opS] at hs
     split at hs
     ·rename_i g1 g2
      rw [g1] at hr; rw [g2] at hi
      simp only [Rel] at hi
      rw [hi]
      split at hs
      ·rename_i hcd
       exact qdv H hs fun z hz=>qSl hu hn ha h1 hr hcd.1 hcd.2.1 hz
      ·cases hs
     ·cases hs
    ·cases hc
   ·cases hc
  ·cases hc
 case lookup t mp k ok=>
  split at hc
  ·rename_i kt et p q hu hp hq
   split at hc
   ·rename_i z hz
    simp only [Option.map_eq_some_iff] at hc
    obtain ⟨ks,hks,rfl⟩:=hc
    have hr:=qan ht hp
    have hk:=qan ht hq
    simp only [opS] at hs
    generalize qau e p = x at *
    cases x <;> simp only [reduceCtorEq] at hs
    split at hs
    ·rename_i kvs hl
     split at hs
     ·rename_i v hv
      split at hv
      ·rename_i hkey
       exact qaC H hs (qJ0 H hu hks hz hl hr hk hkey hv (by simp))
      ·cases hv
     ·rename_i hv
      split at hv
      ·rename_i hkey
       exact qaC H hs (qJ0 H hu hks hz hl hr hk hkey hv (by simp))
      ·cases hv
     ·cases hs
    ·cases hs
   ·cases hc
  ·cases hc
 case mapUpdate t mp k v=>
  split at hc
  ·rename_i kt et p q s hu hp hq hsv
   simp only [Option.map_eq_some_iff] at hc
   obtain ⟨ks,hks,rfl⟩:=hc
   have hr:=qan ht hp
   have hk:=qan ht hq
   have hv:=qan ht hsv
   simp only [opS] at hs
   generalize qau e p = x at *
   cases x <;> simp only [reduceCtorEq] at hs
   split at hs
   ·rename_i kvs i1 i2 hl
    split at hs
    ·rename_i kvs' qbu
     split at qbu
     ·rename_i hkey
      exact qbq hs (qJP H hu hks hl hr hk (qfs _ hv) (by rw [qrf]; exact i2) hkey qbu)
     ·cases qbu
    ·cases hs
   ·cases hs
  ·cases hc
 case insert t mp k v=>
  split at hc
  ·rename_i kt et p q s hu hp hq hsv
   simp only [Option.map_eq_some_iff] at hc
   obtain ⟨ks,hks,rfl⟩:=hc
   have hr:=qan ht hp
   have hk:=qan ht hq
   have hv:=qan ht hsv
   simp only [opS] at hs
   generalize qau e p = x at *
   cases x <;> simp only [reduceCtorEq] at hs
   split at hs
   ·rename_i kvs i1 i2 hl
    split at hs
    ·rename_i kvs' qbu
     split at qbu
     ·rename_i hkey
      exact qbq hs (qJP H hu hks hl hr hk (qfs _ hv) (by rw [qrf]; exact i2) hkey qbu)
     ·cases qbu
    ·cases hs
   ·cases hs
  ·cases hc
 case typeAssert x xt t ok=>
  split at hc
  ·cases hc
  ·rename_i d z y hni hd hz hy
   simp at hc; subst hc
   have hr:=qan ht hy
   simp only [opS] at hs
   have G:=fun q hq=>qSp (P:=P) hd (fun ms he=>by subst he; exact hni _ rfl) hz (xt:=xt) (ok:=ok) hr (z:=q) hq
   generalize qau e y = q at *
   cases q <;> simp only [reduceCtorEq] at hs
   ·split at hs
    ·rename_i hok
     exact qaC H hs (G _ (.inr ⟨rfl,hok,rfl⟩))
    ·cases hs
   ·split at hs
    ·rename_i hut
     exact qaC H hs (G _ (.inl ⟨_,_,rfl,.inl ⟨hut,rfl⟩⟩))
    ·rename_i hut
     split at hs
     ·rename_i hok
      exact qaC H hs (G _ (.inl ⟨_,_,rfl,.inr ⟨hut,hok,rfl⟩⟩))
     ·cases hs
  ·cases hc
 case extract x i=>
  simp only [Option.map_eq_some_iff] at hc
  obtain ⟨y,hy,rfl⟩:=hc
  have hr:=qan ht hy
  simp only [opS] at hs
  generalize qau e y = q at *
  cases q <;> simp only [reduceCtorEq] at hs
  exact qdv H hs fun z hz=>qWO hr hz
 case call c=>
  obtain ⟨callee,args,argTypes⟩:=c
  cases callee with
  | value f=>
   simp only [qsk,qsl] at hc
   cases f <;> simp only [reduceCtorEq,Option.map_eq_some_iff] at hc <;> obtain ⟨_,_,rfl⟩:=hc <;> simp [qcj] at hnc
  | invoke r mth=>
   simp only [qsk,qV9] at hc
   split at hc
   ·cases hc; simp [qcj] at hnc
   ·cases hc
  | builtin bi=>
   have hexec:(do let d <- resolve a.eval ⟨.builtin bi,args,argTypes⟩ type; invoke d.target d.args:Sem Next) = builtin bi argTypes type (args.map fun | .const _=>true | _=>false) (args.map a.eval):=by
    simp only [resolve,invoke,pure_bind]; rfl
   have hmap:args.map a.eval = (args.toList.map a.eval).toArray:=by apply Array.ext'; simp
   rw [hexec,hmap]
   have h1:=qsX (ty:=type) (consts:=args.map fun | .const _=>true | _=>false) ht H hnx (by simpa [qsk] using hc) hs
   simpa only [Array.toArray_toList] using h1
end
end Go.Eng
namespace Go.Eng
set_option linter.unusedSectionVars false
variable [Globs]
section
variable {P:Program} {w:World} {I:Imm} {m:Names} {h:Heap} {nx:Nat}
mutual
theorem qdf {m':Names} {r:Nat -> Option Nat} (hr:∀ i j L,r i = some j -> m i = some L -> m' j = some L):∀ (x:AV) {v:Value},Rel w I x m v -> Rel w I (ren r x) m' v
 | .int ..,_,h=>by simpa [ren,Rel] using h
 | .bool ..,_,h=>by simpa [ren,Rel] using h
 | .str ..,_,h=>by simpa [ren,Rel] using h
 | .nilp,_,h=>by simpa [ren,Rel] using h
 | .nils _,_,h=>by simpa [ren,Rel] using h
 | .nilm,_,h=>by simpa [ren,Rel] using h
 | .nilf,_,h=>by simpa [ren,Rel] using h
 | .nili,_,h=>by simpa [ren,Rel] using h
 | .agg cs,_,h=>by
  simp only [ren,Rel] at h ⊢
  obtain ⟨vs,hv,h⟩:=h
  exact ⟨vs,hv,qea hr cs h⟩
 | .tup cs,_,h=>by
  simp only [ren,Rel] at h ⊢
  obtain ⟨vs,hv,h⟩:=h
  exact ⟨vs,hv,qea hr cs h⟩
 | .view ..,_,h=>by simpa only [ren,Rel] using h
 | .ptr ..,_,h=>by simpa only [ren,Rel] using h
 | .own id off len,_,h=>by
  simp only [ren]
  split
  ·rename_i j hj
   simp only [Rel] at h ⊢
   obtain ⟨L,hL,h⟩:=h
   exact ⟨L,hr _ _ _ hj hL,h⟩
  ·simp [Rel]
 | .ref id idx off,_,h=>by
  simp only [ren]
  split
  ·rename_i j hj
   simp only [Rel] at h ⊢
   obtain ⟨L,hL,h⟩:=h
   exact ⟨L,hr _ _ _ hj hL,h⟩
  ·simp [Rel]
 | .mref id,_,h=>by
  simp only [ren]
  split
  ·rename_i j hj
   simp only [Rel] at h ⊢
   obtain ⟨L,hL,h⟩:=h
   exact ⟨L,hr _ _ _ hj hL,h⟩
  ·simp [Rel]
 | .fn f cs,_,h=>by
  simp only [ren,Rel] at h ⊢
  obtain ⟨vs,hv,h⟩:=h
  exact ⟨vs,hv,qea hr cs h⟩
 | .iface t x,_,h=>by
  simp only [ren,Rel] at h ⊢
  obtain ⟨y,hv,h⟩:=h
  exact ⟨y,hv,qdf hr x h⟩
 | .junk,_,_=>by simp [ren,Rel]
theorem qea {m':Names} {r:Nat -> Option Nat} (hr:∀ i j L,r i = some j -> m i = some L -> m' j = some L):∀ (xs:List AV) {vs:List Value},qaw w I xs m vs -> qaw w I (ren.renL r xs) m' vs
 | [],_,h=>by simpa [ren.renL,qaw] using h
 | x :: xs,_,h=>by
  simp only [ren.renL,qaw] at h ⊢
  obtain ⟨v,vs',hv,h1,h2⟩:=h
  exact ⟨v,vs',hv,qdf hr x h1,qea hr xs h2⟩
end
theorem qiY (r:Nat -> Option Nat):∀ xs:List AV,(ren.renL r xs).length = xs.length
 | []=>rfl
 | x :: xs=>by simp [ren.renL,qiY r xs]
theorem qvR (r:Nat -> Option Nat):∀ (xs:List AV) (i:Nat) (c:AV),(ren.renL r xs)[i]? = some c -> ∃ d,xs[i]? = some d /\ c = ren r d
 | [],i,c,h=>by simp [ren.renL] at h
 | x :: xs,0,c,h=>by simp [ren.renL] at h; exact ⟨x,rfl,h.symm⟩
 | x :: xs,i + 1,c,h=>by simp [ren.renL] at h; simpa using qvR r xs i c h
theorem BlkAt.ren {m':Names} {r:Nat -> Option Nat} (hr:∀ i j L,r i = some j -> m i = some L -> m' j = some L) {L:Loc} {b:Blk} (h:BlkAt w I m L b):BlkAt w I m' L (qU6 r b):=by
 cases b with
 | box cs fz=>
  obtain ⟨h1,h2,C,e,hC,hsz,hcell,hfz⟩:=h
  refine ⟨h1,by simp [qiY,h2],C,e,hC,by simpa [qiY] using hsz,fun i c hc=>?_,by simpa [qiY] using hfz⟩
  obtain ⟨d,hd,rfl⟩:=qvR r cs i c hc
  obtain ⟨v,hv,hrel⟩:=hcell i d hd
  exact ⟨v,hv,qdf hr d hrel⟩
 | arr sz es fz=>exact h
 | mp kvs=>exact h
theorem qda:∀ (n:Nat) (h:Heap) (todo seen r:List Nat),qa8 n h todo seen = some r -> seen.Nodup -> r.Nodup
 | n,h,[],seen,r,hr,hs=>by
  have:seen = r:=by cases n <;> simpa [qa8] using hr
  subst this; exact hs
 | 0,h,_ :: _,seen,r,hr,_=>by simp [qa8] at hr
 | n + 1,h,i :: todo,seen,r,hr,hs=>by
  simp only [qa8] at hr
  by_cases hc:seen.contains i = true
  ·rw [if_pos hc] at hr; exact qda n h todo seen r hr hs
  ·rw [if_neg hc] at hr
   cases hl:qad h i with
   | none=>simp only [hl] at hr; exact qda n h todo seen r hr hs
   | some b=>
    simp only [hl] at hr
    refine qda n h _ _ r hr ?_
    rw [List.nodup_append]
    refine ⟨hs,by simp,fun a ha b hb=>?_⟩
    simp at hb; subst hb
    intro e; subst e
    exact hc (by simpa using ha)
theorem qb6:∀ {l:List Nat} {i j:Nat},place l i = some j -> l[j]? = some i
 | [],i,j,h=>by simp [place] at h
 | k :: l,i,j,h=>by
  simp only [place] at h
  split at h
  ·rename_i e; subst e; simp at h; subst h; rfl
  ·simp only [Option.map_eq_some_iff] at h
   obtain ⟨j',h,rfl⟩:=h
   simpa using qb6 h
theorem qkF:∀ {l:List Nat} {i j:Nat},l.Nodup -> l[j]? = some i -> place l i = some j
 | [],i,j,_,h=>by simp at h
 | k :: l,i,0,_,h=>by simp at h; subst h; simp [place]
 | k :: l,i,j + 1,hn,h=>by
  simp at h
  rw [List.nodup_cons] at hn
  have:i ≠ k:=fun e=>hn.1 (e ▸ List.mem_of_getElem? h)
  simp [place,this,qkF hn.2 h]
theorem qDs {l:List Nat} {i:Nat} (h:i ∈ l):∃ j,place l i = some j:=by
 induction l with
 | nil=>simp at h
 | cons k l ih=>
  simp only [place]
  by_cases e:i = k
  ·exact ⟨0,by simp [e]⟩
  ·obtain ⟨j,hj⟩:=ih (by simpa [e] using h)
   exact ⟨j + 1,by simp [e,hj]⟩
theorem qhV {r:Nat -> Option Nat}:∀ {h:Heap} {j:Nat} {b:Blk},qad (qft r h) j = some b -> ∃ i a,qad h i = some a /\ r i = some j /\ b = qU6 r a \/ False
 | [],j,b,h=>by simp [qft,qad] at h
 | (i,a) :: h,j,b,hj=>by
  simp only [qft] at hj
  split at hj
  ·rename_i k hk
   simp only [qad] at hj
   split at hj
   ·rename_i e; subst e
    simp at hj
    exact ⟨i,a,.inl ⟨by simp [qad],hk,hj.symm⟩⟩
   ·rename_i hne
    obtain ⟨i',a',h'⟩:=qhV hj
    rcases h' with ⟨h1,h2,h3⟩ | h'
    ·refine ⟨i',a',.inl ⟨?_,h2,h3⟩⟩
     simp only [qad]
     by_cases e:i' = i
     ·subst e; rw [hk] at h2; cases h2; exact absurd rfl hne
     ·simp [e,h1]
    ·exact h'.elim
  ·rename_i hk
   obtain ⟨i',a',h'⟩:=qhV hj
   rcases h' with ⟨h1,h2,h3⟩ | h'
   ·refine ⟨i',a',.inl ⟨?_,h2,h3⟩⟩
    simp only [qad]
    by_cases e:i' = i
    ·subst e; rw [hk] at h2; cases h2
    ·simp [e,h1]
   ·exact h'.elim
theorem qcE {r:Nat -> Option Nat} {h:Heap} {j:Nat} {b:Blk} (hj:qad (qft r h) j = some b):∃ i a,qad h i = some a /\ r i = some j /\ b = qU6 r a:=by
 obtain ⟨i,a,h' | h'⟩:=qhV hj
 ·exact ⟨i,a,h'⟩
 ·exact h'.elim
theorem HeapAt.ren {m':Names} {r:Nat -> Option Nat} (H:HeapAt w I m h) (hr:∀ i j L,r i = some j -> m i = some L -> m' j = some L) (hinj:∀ i i' j,r i = some j -> r i' = some j -> i = i'):HeapAt w I m' (qft r h):=by
 constructor
 ·intro j b hj
  obtain ⟨i,a,hi,hij,rfl⟩:=qcE hj
  obtain ⟨L,hL,hat⟩:=H.at_ i a hi
  exact ⟨L,hr _ _ _ hij hL,hat.ren hr⟩
 ·intro j j' b b' L L' hj hj' hL hL' he
  obtain ⟨i,a,hi,hij,rfl⟩:=qcE hj
  obtain ⟨i',a',hi',hij',rfl⟩:=qcE hj'
  obtain ⟨L1,hL1,_⟩:=H.at_ i a hi
  obtain ⟨L2,hL2,_⟩:=H.at_ i' a' hi'
  rw [hr _ _ _ hij hL1] at hL; cases hL
  rw [hr _ _ _ hij' hL2] at hL'; cases hL'
  have:=H.apart i i' a a' _ _ hi hi' hL1 hL2 he
  subst this
  rw [hij] at hij'; cases hij'; rfl
 ·exact H.old
 ·exact H.glob
structure Aft (w w':World) (I I':Imm) (m m':Names) (h h':Heap):Prop where
 stays:Stays w w' I
 imm:∀ b o,I b o -> I' b o
 names:∀ i L,m i = some L -> m' i = some L
 heap:HeapAt w' I' m' h'
 frame:∀ b,b < w.heap.size -> ¬ Owns m h b -> w'.heap[b]? = w.heap[b]?
 newI:∀ b o,I' b o -> I b o \/ Owns m h b \/ w.heap.size <= b
 owns:∀ b,Owns m' h' b -> Owns m h b \/ w.heap.size <= b
def Post (w:World) (I:Imm) (m:Names) (h:Heap) (r:Res) (h':Heap) (e:Ending) (w':World):Prop:=
 ∃ I' m',Aft w w' I I' m m' h h' /\ match r with
  | .ret v=>∃ u,e = .returned u /\ Rel w' I' v m' u
  | .pan v=>∃ u,e = .panicked [{ v:=u,recovered:=false }] /\ Rel w' I' v m' u
def qc0 (P:Program) (f:Nat):Prop:=∃ fn,P.funcs[f]? = some fn /\ (fn.name == "runtime.NumGoroutine") = false /\ fn.body.isNone = false
def Runs (P:Program) (f:Nat) (vs:Array Value) (w:World) (Q:Ending -> World -> Prop):Prop:=
 (qc0 P f /\ Calls P f vs w Q) \/ ∃ v,(callFunc f vs).run P w = .ok (.value v) w /\ Q (.returned v) w
theorem Runs.mono {P:Program} {f:Nat} {vs:Array Value} {w:World} {Q Q':Ending -> World -> Prop} (h:Runs P f vs w Q) (hq:∀ e w',Q e w' -> Q' e w'):Runs P f vs w Q':=by
 rcases h with ⟨h1,h2⟩ | ⟨v,h1,h2⟩
 ·exact .inl ⟨h1,h2.mono hq⟩
 ·exact .inr ⟨v,h1,hq _ _ h2⟩
def qcy (P:Program) (call:qaL):Prop:=∀ f args h r h',call f args h = some (r,h') ->
 ∀ (w:World) (I:Imm) (m:Names) (vs:List Value),HeapAt w I m h -> (∀ i,h.length <= i -> m i = none) -> qaw w I args m vs -> Runs P f vs.toArray w (Post w I m h r h')
mutual
theorem qh6 {I':Imm}:∀ (x:AV) {m:Names} {v:Value},shows x = false -> Rel w I x m v -> Rel w I' x m v
 | .int ..,_,_,_,h=>h
 | .bool ..,_,_,_,h=>h
 | .str ..,_,_,_,h=>h
 | .nilp,_,_,_,h=>h
 | .nils _,_,_,_,h=>h
 | .nilm,_,_,_,h=>h
 | .nilf,_,_,_,h=>h
 | .nili,_,_,_,h=>h
 | .agg cs,_,_,hs,h=>by
  simp only [Rel] at h ⊢
  obtain ⟨vs,hv,h⟩:=h
  exact ⟨vs,hv,qeK cs (by simpa [shows] using hs) h⟩
 | .tup cs,_,_,hs,h=>by
  simp only [Rel] at h ⊢
  obtain ⟨vs,hv,h⟩:=h
  exact ⟨vs,hv,qeK cs (by simpa [shows] using hs) h⟩
 | .view ..,_,_,hs,_=>by simp [shows] at hs
 | .ptr ..,_,_,hs,_=>by simp [shows] at hs
 | .own ..,_,_,_,h=>by simpa only [Rel] using h
 | .ref ..,_,_,_,h=>by simpa only [Rel] using h
 | .mref ..,_,_,_,h=>by simpa only [Rel] using h
 | .fn f cs,_,_,hs,h=>by
  simp only [Rel] at h ⊢
  obtain ⟨vs,hv,h⟩:=h
  exact ⟨vs,hv,qeK cs (by simpa [shows] using hs) h⟩
 | .iface t x,_,_,hs,h=>by
  simp only [Rel] at h ⊢
  obtain ⟨y,hv,h⟩:=h
  exact ⟨y,hv,qh6 x (by simpa [shows] using hs) h⟩
 | .junk,_,_,_,_=>by simp [Rel]
theorem qeK {I':Imm}:∀ (xs:List AV) {m:Names} {vs:List Value},shows.showsL xs = false -> qaw w I xs m vs -> qaw w I' xs m vs
 | [],_,_,_,h=>h
 | x :: xs,_,_,hs,h=>by
  simp only [shows.showsL,Bool.or_eq_false_iff] at hs
  simp only [qaw] at h ⊢
  obtain ⟨v,vs',hv,h1,h2⟩:=h
  exact ⟨v,vs',hv,qh6 x hs.1 h1,qeK xs hs.2 h2⟩
end
theorem qxq (H:HeapAt w I m h) {all:Bool} {x:AV} {v:Value} (hr:Rel w I x m v) {y:AV} {ids:List Nat} (hp:qPs h all x = some (y,ids)) {r:List Nat} (hsh:Shut h r) (hin:∀ i b,i ∈ ids -> qad h i = some b -> i ∈ r) :
  Rel w (shown I m h r) y m v:=by
 have same:∀ {z:AV},Rel w I z m v -> Rel w (shown I m h r) z m v:=fun hz=>qaA (Stays.refl w I) qa4 _ (fun _ _ h=>h) hz
 simp only [qPs] at hp
 split at hp
 ·simp at hp; obtain ⟨rfl,rfl⟩:=hp; exact same hr
 ·split at hp
  ·simp at hp; obtain ⟨rfl,rfl⟩:=hp; exact same (qfs _ hr)
  ·split at hp
   ·rename_i q hq
    simp at hp; obtain ⟨rfl,rfl⟩:=hp
    exact qrp (qfS H hsh _ _ hin hq hr)
   ·cases hp
theorem qkI (H:HeapAt w I m h) {all:Bool}:∀ {xs:List AV} {vs:List Value},qaw w I xs m vs -> ∀ {ys:List AV} {ids:List Nat},qnO h all xs = some (ys,ids) -> ∀ {r:List Nat},Shut h r -> (∀ i b,i ∈ ids -> qad h i = some b -> i ∈ r) ->
  qaw w (shown I m h r) ys m vs
 | [],vs,hr,ys,ids,hp,r,_,_=>by
  simp [qnO] at hp; obtain ⟨rfl,rfl⟩:=hp
  simpa [qaw] using hr
 | x :: xs,vs,hr,ys,ids,hp,r,hsh,hin=>by
  simp only [qnO] at hp
  split at hp
  ·rename_i y a ys' b h1 h2
   simp at hp; obtain ⟨rfl,rfl⟩:=hp
   simp only [qaw] at hr ⊢
   obtain ⟨v,vs',rfl,hv,hr⟩:=hr
   exact ⟨v,vs',rfl,qxq H hv h1 hsh fun i b hi hb=>hin i b (by simp [hi]) hb,qkI H hr h2 hsh fun i b hi hb=>hin i b (by simp [hi]) hb⟩
  ·cases hp
theorem qEo {h:Heap}:∀ {l:List Nat},(∀ i,i ∈ l -> ∃ b,qad h i = some b) -> (sub h l).length = l.length
 | [],_=>rfl
 | i :: l,ha=>by
  obtain ⟨b,hb⟩:=ha i (by simp)
  simp [sub,hb,qEo (l:=l) fun j hj=>ha j (by simp [hj])]
theorem qvQ {r:Nat -> Option Nat}:∀ {h:Heap},(∀ p ∈ h,(r p.1).isSome = true) -> (qft r h).length = h.length
 | [],_=>rfl
 | (i,b) :: h,ha=>by
  have h1:=ha (i,b) (by simp)
  obtain ⟨j,hj⟩:=Option.isSome_iff_exists.1 h1
  simp only [qft,hj,List.length_cons,qvQ (h:=h) fun p hp=>ha p (by simp [hp])]
theorem qtg {h:Heap}:∀ {l:List Nat} {p:Nat × Blk},p ∈ sub h l -> p.1 ∈ l
 | [],p,hp=>by simp [sub] at hp
 | i :: l,p,hp=>by
  simp only [sub] at hp
  split at hp
  ·rcases List.mem_cons.1 hp with rfl | hp
   ·simp
   ·simp [qtg hp]
  ·simp [qtg hp]
end
end Go.Eng
namespace Go.Eng
set_option linter.unusedSectionVars false
variable [Globs]
section
variable {P:Program} {w:World} {I:Imm} {m:Names} {h:Heap} {nx:Nat}
def qVN (w:World) (I:Imm) (m:Names) (h:Heap) (nx:Nat) (r:Res) (h':Heap) (e:Ending) (w':World):Prop:=
 ∃ I' m',After w w' I I' m m' h h' nx /\ match r with
  | .ret v=>∃ u,e = .returned u /\ Rel w' I' v m' u
  | .pan v=>∃ u,e = .panicked [{ v:=u,recovered:=false }] /\ Rel w' I' v m' u
theorem qe1 {moved:List Nat} {nx j i:Nat} (h:back moved nx j = some i):(moved[j]? = some i) \/ (moved.length <= j /\ j < moved.length + 16 /\ i = nx + (j - moved.length)):=by
 simp only [back] at h
 split at h
 ·rename_i k hk
  simp at h; subst h; exact .inl hk
 ·rename_i hk
  split at h
  ·simp at h
   exact .inr ⟨by simpa using hk,by assumption,h.symm⟩
  ·cases h
def qkx (m mc:Names) (k nx:Nat):Names:=fun i=>if nx <= i /\ i < nx + 16 then mc (k + (i - nx)) else m i
theorem qFw {a b:List Nat} (h:qE2 a b = true) {i:Nat} (ha:i ∈ a):i ∉ b:=by
 simp only [qE2,List.all_eq_true] at h
 have:=h i ha
 simpa using this
set_option maxHeartbeats 1000000 in
theorem qsm {IP:Prog} {call:qaL} (hcall:qcy P call) (H:HeapAt w I m h) (hnx:∀ i,nx <= i -> i < nx + 16 -> m i = none) {args:List AV} {vs:List Value} (hr:qaw w I args m vs) {f:Nat} {r:Res} {h':Heap} {b:Bool}
  (hc:qe4 IP call h nx f args = some (r,h',b)):Runs P f vs.toArray w (qVN w I m h nx r h'):=by
 simp only [qe4] at hc
 split at hc
 ·cases hc
 ·rename_i args' roots hprep
  split at hc
  ·rename_i moved shwn hmv hsh
   split at hc
   ·rename_i hdisj
    split at hc
    ·cases hc
    ·rename_i r0 h0 hcl
     split at hc
     ·rename_i hall
      simp only [Option.some.injEq,Prod.mk.injEq] at hc
      obtain ⟨rfl,rfl,_⟩:=hc
      obtain ⟨hms,hmt,hmk⟩:=qfN hmv
      obtain ⟨hss,hst,hsk⟩:=qfN hsh
      have hnd:moved.Nodup:=qda _ _ _ _ _ hmv (by simp)
      have hgo:=hcall _ _ _ _ _ hcl
      let mc:Names:=fun j=>(moved[j]?).bind m
      let Ic:Imm:=shown I m h shwn
      have hpl:∀ i j L,place moved i = some j -> m i = some L -> mc j = some L:=by
       intro i j L hp hL
       simp only [mc,qb6 hp,Option.bind_some,hL]
      have hargs:qaw w Ic (ren.renL (place moved) args') mc vs:=
       qea hpl args' (qkI H hr hprep hss hst)
      have hsub:HeapAt w I m (sub h moved):=H.sub' fun i b hi=>by
       rw [qa6] at hi
       split at hi
       ·exact hi
       ·cases hi
      have hIc:∀ b o,I b o -> Ic b o:=qa4
      have hmvI:∀ i b L,i ∈ moved -> qad h i = some b -> m i = some L -> ∀ o,Ic L.blk o -> I L.blk o:=by
       intro i b L hi hb hL o ho
       rcases ho with ho | ⟨j,blk,L',hj,hlj,hLj,he,_⟩
       ·exact ho
       ·have:=H.apart i j b blk L L' hb hlj hL hLj he.symm
        subst this
        exact absurd hj (qFw hdisj hi)
      have hIold:∀ b o,Ic b o -> b < w.heap.size:=fun b o ho=>(After.showing (nx:=nx) H (r:=shwn)).heap.old b o ho
      have hsubI:HeapAt w Ic m (sub h moved):=by
       constructor
       ·intro i b hi
        have hi':=hi
        rw [qa6] at hi'
        split at hi'
        ·rename_i hmem
         obtain ⟨L,hL,hat⟩:=H.at_ i b hi'
         exact ⟨L,hL,hat.keep (Stays.refl w I) hIc (fun _ _ h=>h) rfl (hmvI i b L hmem hi' hL)⟩
        ·cases hi'
       ·exact hsub.apart
       ·exact hIold
       ·exact H.glob.mono (Stays.refl w I) hIc
      have hinj:∀ i i' j,place moved i = some j -> place moved i' = some j -> i = i':=fun i i' j h1 h2=>by
       have:=qb6 h1; rw [qb6 h2] at this; cases this; rfl
      have hheap:HeapAt w Ic mc (qft (place moved) (sub h moved)):=hsubI.ren hpl hinj
      have hlen:(qft (place moved) (sub h moved)).length = moved.length:=by
       rw [qvQ fun p hp=>by
        obtain ⟨j,hj⟩:=qDs (qtg hp); simp [hj],qEo hmk]
      have hdom:∀ i,(qft (place moved) (sub h moved)).length <= i -> mc i = none:=fun i hi=>by
       rw [hlen] at hi
       simp only [mc]
       rw [List.getElem?_eq_none hi]; rfl
      have hcalls:=hgo w Ic mc vs hheap hdom hargs
      have hOwn:∀ bk,Owns mc (qft (place moved) (sub h moved)) bk -> ∃ i a L,i ∈ moved /\ qad h i = some a /\ m i = some L /\ L.blk = bk:=by
       rintro bk ⟨j,a,L,hj,hL,rfl⟩
       obtain ⟨i,a',hi,hij,rfl⟩:=qcE hj
       rw [qa6] at hi
       split at hi
       ·rename_i hmem
        obtain ⟨L',hL',_⟩:=H.at_ i a' hi
        have:=hpl i j L' hij hL'
        rw [this] at hL; cases hL
        exact ⟨i,a',_,hmem,hi,hL',rfl⟩
       ·cases hi
      have hOwn':∀ bk,Owns mc (qft (place moved) (sub h moved)) bk -> Owns m h bk:=fun bk ho=>by
       obtain ⟨i,a,L,_,h1,h2,h3⟩:=hOwn bk ho; exact ⟨i,a,L,h1,h2,h3⟩
      refine hcalls.mono ?_
      rintro e w' ⟨I1,m1,aft,hres⟩
      let k:=moved.length
      let m':Names:=qkx m m1 k nx
      have hm'in:∀ i,¬ (nx <= i /\ i < nx + 16) -> m' i = m i:=fun i hi=>by simp only [m',qkx,if_neg hi]
      have hm'new:∀ d,d < 16 -> m' (nx + d) = m1 (k + d):=fun d hd=>by
       simp only [m',qkx]
       rw [if_pos ⟨by omega,by omega⟩,show nx + d - nx = d by omega]
      have hm'le:∀ i L,m i = some L -> m' i = some L:=fun i L hi=>by
       rw [hm'in i fun hn=>by rw [hnx i hn.1 hn.2] at hi; cases hi]; exact hi
      have hback:∀ j i L,back moved nx j = some i -> m1 j = some L -> m' i = some L:=by
       intro j i L hb hL
       rcases qe1 hb with hj | ⟨h1,h2,rfl⟩
       ·obtain ⟨a,ha⟩:=hmk i (List.mem_of_getElem? hj)
        obtain ⟨L0,hL0,_⟩:=H.at_ i a ha
        have:mc j = some L0:=by simp only [mc,hj,Option.bind_some,hL0]
        have:=aft.names j L0 this
        rw [hL] at this; cases this
        exact hm'le i L hL0
       ·rw [hm'new _ (by omega),show k + (j - k) = j by omega]; exact hL
      have hbinj:∀ j j' i,back moved nx j = some i -> back moved nx j' = some i -> j = j':=by
       intro j j' i h1 h2
       have notnew:∀ q,moved[q]? = some i -> ¬ (nx <= i /\ i < nx + 16):=fun q hq hn=>by
        obtain ⟨a,ha⟩:=hmk i (List.mem_of_getElem? hq)
        obtain ⟨L0,hL0,_⟩:=H.at_ i a ha
        rw [hnx i hn.1 hn.2] at hL0; cases hL0
       rcases qe1 h1 with g1 | ⟨g1,g2,g3⟩ <;> rcases qe1 h2 with g4 | ⟨g4,g5,g6⟩
       ·have p1:=qkF hnd g1
        have p2:=qkF hnd g4
        rw [p1] at p2; cases p2; rfl
       ·exact absurd ⟨by omega,by omega⟩ (notnew j g1)
       ·exact absurd ⟨by omega,by omega⟩ (notnew j' g4)
       ·omega
      let touched:Bool:=!shwn.isEmpty && (shows (qGu r0) || !h0.isEmpty)
      let I':Imm:=if touched = true \/ shwn = [] then I1 else I
      have hII':∀ b o,I b o -> I' b o:=fun b o hi=>by
       simp only [I']; split
       ·exact aft.imm b o (hIc b o hi)
       ·exact hi
      have hI'1:∀ b o,I' b o -> I1 b o:=fun b o hi=>by
       simp only [I'] at hi; split at hi
       ·exact hi
       ·exact aft.imm b o (hIc b o hi)
      have hstay:Stays w w' I:=aft.stays.sub hIc
      have hnewI:∀ b o,I' b o -> I b o \/ Owns m h b \/ w.heap.size <= b:=fun b o hi=>by
       rcases aft.newI b o (hI'1 b o hi) with h1 | h1 | h1
       ·rcases h1 with h1 | ⟨j,blk,L',hj,hlj,hLj,rfl,_⟩
        ·exact .inl h1
        ·exact .inr (.inl ⟨j,blk,L',hlj,hLj,rfl⟩)
       ·exact .inr (.inl (hOwn' b h1))
       ·exact .inr (.inr h1)
      have hresult:∀ u,Rel w' I1 (qGu r0) m1 u -> Rel w' I' (ren (back moved nx) (qGu r0)) m' u:=fun u hu=>by
       have h1:=qdf hback (qGu r0) hu
       by_cases ht:touched = true \/ shwn = []
       ·simp only [I',if_pos ht]; exact h1
       ·have hns:shows (qGu r0) = false:=by
         have h2:¬ touched = true:=fun h=>ht (.inl h)
         have h3:shwn.isEmpty = false:=by
          cases hq:shwn with
          | nil=>exact absurd (.inr hq) ht
          | cons _ _=>rfl
         simp only [touched,h3,Bool.not_false,Bool.true_and,Bool.or_eq_true,not_or] at h2
         simpa using h2.1
        have h4:=qdf hback (qGu r0) (qh6 (I':=I) (qGu r0) hns hu)
        simp only [I',if_neg ht]; exact h4
      have hret:HeapAt w' I' m' (qft (back moved nx) h0):=by
       by_cases ht:touched = true \/ shwn = []
       ·have:I' = I1:=by simp only [I',if_pos ht]
        rw [this]; exact aft.heap.ren hback hbinj
       ·have hh0:h0 = []:=by
         have h2:¬ touched = true:=fun h=>ht (.inl h)
         have h3:shwn.isEmpty = false:=by
          cases hq:shwn with
          | nil=>exact absurd (.inr hq) ht
          | cons _ _=>rfl
         simp only [touched,h3,Bool.not_false,Bool.true_and,Bool.or_eq_true,not_or] at h2
         have:=h2.2
         cases h0 with
         | nil=>rfl
         | cons _ _=>simp at this
        subst hh0
        exact ⟨fun i b hi=>by simp [qft,qad] at hi,fun i j a b L L' hi=>by simp [qft,qad] at hi,fun b o hi=>Nat.lt_of_lt_of_le (H.old b o (by simp only [I',if_neg ht] at hi; exact hi)) aft.stays.size,H.glob.mono hstay hII'⟩
      have hretOwn:∀ bk,Owns m' (qft (back moved nx) h0) bk -> (∃ i a L,i ∈ moved /\ qad h i = some a /\ m i = some L /\ L.blk = bk) \/ w.heap.size <= bk:=by
       rintro bk ⟨i,a,L,hi,hL,rfl⟩
       obtain ⟨j,a',hj,hji,rfl⟩:=qcE hi
       obtain ⟨L',hL',_⟩:=aft.heap.at_ j a' hj
       have:=hback j i L' hji hL'
       rw [this] at hL; cases hL
       rcases aft.owns _ ⟨j,a',_,hj,hL',rfl⟩ with h1 | h1
       ·exact .inl (hOwn _ h1)
       ·exact .inr h1
      have hstayed:∀ i a,qad (qaM h moved) i = some a -> i ∉ moved /\ qad h i = some a:=fun i a hi=>by
       rw [qaZ] at hi
       split at hi
       ·cases hi
       ·rename_i hn; exact ⟨hn,hi⟩
      have hkeepH:∀ i a L,i ∉ moved -> qad h i = some a -> m i = some L -> w'.heap[L.blk]? = w.heap[L.blk]?:=fun i a L hn hi hL=>by
       obtain ⟨L0,hL0,hat⟩:=H.at_ i a hi
       rw [hL] at hL0; cases hL0
       refine aft.frame _ hat.lt fun ho=>?_
       obtain ⟨j,a',L',hj,hlj,hLj,he⟩:=hOwn _ ho
       exact hn (H.apart i j a a' L L' hi hlj hL hLj he.symm ▸ hj)
      have hnotI:∀ i a L,i ∉ moved -> i ∉ shwn -> qad h i = some a -> m i = some L -> ∀ o,I' L.blk o -> I L.blk o:=fun i a L hn hn2 hi hL o ho=>by
       obtain ⟨L0,hL0,hat⟩:=H.at_ i a hi
       rw [hL] at hL0; cases hL0
       rcases aft.newI _ _ (hI'1 _ _ ho) with h1 | h1 | h1
       ·rcases h1 with h1 | ⟨j,blk,L',hj,hlj,hLj,he,_⟩
        ·exact h1
        ·exact absurd (H.apart i j a blk L L' hi hlj hL hLj he.symm ▸ hj) hn2
       ·obtain ⟨j,a',L',hj,hlj,hLj,he⟩:=hOwn _ h1
        exact absurd (H.apart i j a a' L L' hi hlj hL hLj he.symm ▸ hj) hn
       ·have:=hat.lt; omega
      have hold:HeapAt w' I' m' (if touched = true then freeze (qaM h moved) shwn else qaM h moved):=by
       have hlk:∀ i b,qad (if touched = true then freeze (qaM h moved) shwn else qaM h moved) i = some b -> ∃ a,i ∉ moved /\ qad h i = some a /\ ((b = a /\ (touched = true -> i ∉ shwn)) \/ (b = qgy a /\ i ∈ shwn /\ touched = true)):=by
        intro i b hi
        split at hi
        ·rename_i ht
         rw [qbz] at hi
         split at hi
         ·rename_i hs
          simp only [Option.map_eq_some_iff] at hi
          obtain ⟨a,ha,rfl⟩:=hi
          obtain ⟨h1,h2⟩:=hstayed i a ha
          exact ⟨a,h1,h2,.inr ⟨rfl,hs,ht⟩⟩
         ·rename_i hs
          obtain ⟨h1,h2⟩:=hstayed i b hi
          exact ⟨b,h1,h2,.inl ⟨rfl,fun _=>hs⟩⟩
        ·rename_i ht
         obtain ⟨h1,h2⟩:=hstayed i b hi
         exact ⟨b,h1,h2,.inl ⟨rfl,fun h=>absurd h ht⟩⟩
       constructor
       ·intro i b hi
        obtain ⟨a,hn,ha,hb⟩:=hlk i b hi
        obtain ⟨L,hL,hat⟩:=H.at_ i a ha
        refine ⟨L,hm'le i L hL,?_⟩
        rcases hb with ⟨rfl,hs⟩ | ⟨rfl,hs,ht⟩
        ·refine hat.keep hstay hII' hm'le (hkeepH i b L hn ha hL) fun o ho=>?_
         by_cases hmem:i ∈ shwn
         ·have hnt:¬ touched = true:=fun h=>hs h hmem
          have hne:¬ (touched = true \/ shwn = []):=fun h=>by
           rcases h with h | h
           ·exact hnt h
           ·rw [h] at hmem; simp at hmem
          simp only [I',if_neg hne] at ho; exact ho
         ·exact hnotI i b L hn hmem ha hL o ho
        ·have hsh1:∀ q,q < known a -> I' L.blk (L.base + q):=fun q hq=>by
          simp only [I',if_pos (Or.inl ht)]
          exact aft.imm _ _ (.inr ⟨i,a,L,hs,ha,hL,rfl,by omega,by omega⟩)
         have hkh:=hkeepH i a L hn ha hL
         cases a with
         | box cs fz=>
          obtain ⟨h1,h2,C,e,hC,hsz,hcell,_⟩:=hat
          exact ⟨h1,h2,C,e,hkh.trans hC,hsz,fun i c hc=>by
           obtain ⟨v,hv,hrel⟩:=hcell i c hc
           exact ⟨v,hv,qaA hstay hII' c hm'le hrel⟩,by simp only [if_true]; exact fun i hi=>hsh1 i hi⟩
         | arr sz es fz=>
          obtain ⟨h1,h2,h3,C,e,hC,hsz,hcell,_⟩:=hat
          exact ⟨h1,h2,h3,C,e,hkh.trans hC,hsz,fun i c hc=>by
           obtain ⟨v,hv,hk,hrel⟩:=hcell i c hc
           exact ⟨v,hv,hk,qaA hstay hII' c (fun _ _ h=>h) hrel⟩,by simp only [if_true]; exact fun i hi=>hsh1 i hi⟩
         | mp kvs=>
          obtain ⟨es,clock,kvs0,hM,hC,hsz,hcell⟩:=hat
          exact ⟨es,clock,kvs0,hM,hkh.trans hC,hsz,fun i kv hkv=>by
           obtain ⟨x,hx,h1,h2⟩:=hcell i kv hkv
           exact ⟨x,hx,qaA hstay hII' _ (fun _ _ h=>h) h1,qaA hstay hII' _ (fun _ _ h=>h) h2⟩⟩
       ·intro i j b b' L L' hi hj hL hL' he
        obtain ⟨a,_,ha,_⟩:=hlk i b hi
        obtain ⟨a',_,ha',_⟩:=hlk j b' hj
        obtain ⟨L1,hL1,_⟩:=H.at_ i a ha
        obtain ⟨L2,hL2,_⟩:=H.at_ j a' ha'
        rw [hm'le i L1 hL1] at hL; cases hL
        rw [hm'le j L2 hL2] at hL'; cases hL'
        exact H.apart i j a a' _ _ ha ha' hL1 hL2 he
       ·exact hret.old
       ·exact hret.glob
      have hlkold:∀ i b,qad (if touched = true then freeze (qaM h moved) shwn else qaM h moved) i = some b -> ∃ a,i ∉ moved /\ qad h i = some a:=by
       intro i b hi
       split at hi
       ·rw [qbz] at hi
        split at hi
        ·simp only [Option.map_eq_some_iff] at hi
         obtain ⟨a,ha,_⟩:=hi
         exact ⟨a,hstayed i a ha⟩
        ·exact ⟨b,hstayed i b hi⟩
       ·exact ⟨b,hstayed i b hi⟩
      have holdOwn:∀ i b,qad (if touched = true then freeze (qaM h moved) shwn else qaM h moved) i = some b -> ∃ a L,i ∉ moved /\ qad h i = some a /\ m i = some L /\ m' i = some L /\ L.blk < w.heap.size:=fun i b hi=>by
       obtain ⟨a,hn,ha⟩:=hlkold i b hi
       obtain ⟨L,hL,hat⟩:=H.at_ i a ha
       exact ⟨a,L,hn,ha,hL,hm'le i L hL,hat.lt⟩
      have hfull:HeapAt w' I' m' (qft (back moved nx) h0 ++ (if touched = true then freeze (qaM h moved) shwn else qaM h moved)):=by
       have hlk:∀ i b,qad (qft (back moved nx) h0 ++ (if touched = true then freeze (qaM h moved) shwn else qaM h moved)) i = some b -> qad (qft (back moved nx) h0) i = some b \/ qad (if touched = true then freeze (qaM h moved) shwn else qaM h moved) i = some b:=by
        intro i b hi
        rw [qaN] at hi
        split at hi
        ·rename_i q hq; simp at hi; subst hi; exact .inl hq
        ·exact .inr hi
       constructor
       ·intro i b hi
        rcases hlk i b hi with hi | hi
        ·exact hret.at_ i b hi
        ·exact hold.at_ i b hi
       ·intro i j a b L L' hi hj hL hL' he
        have cross:∀ i j a b L L',qad (qft (back moved nx) h0) i = some a -> qad (if touched = true then freeze (qaM h moved) shwn else qaM h moved) j = some b -> m' i = some L -> m' j = some L' -> L.blk = L'.blk -> False:=by
         intro i j a b L L' hi hj hL hL' he
         obtain ⟨a',L2,hn,ha',hL2,hL2',hlt⟩:=holdOwn j b hj
         rw [hL2'] at hL'; cases hL'
         rcases hretOwn L.blk ⟨i,a,L,hi,hL,rfl⟩ with ⟨q,aq,Lq,hq,hlq,hLq,hbq⟩ | hge
         ·exact hn (H.apart q j aq a' Lq _ hlq ha' hLq hL2 (by rw [hbq,he]) ▸ hq)
         ·omega
        rcases hlk i a hi with hi | hi <;> rcases hlk j b hj with hj | hj
        ·exact hret.apart i j a b L L' hi hj hL hL' he
        ·exact (cross i j a b L L' hi hj hL hL' he).elim
        ·exact (cross j i b a L' L hj hi hL' hL he.symm).elim
        ·exact hold.apart i j a b L L' hi hj hL hL' he
       ·exact hret.old
       ·exact hret.glob
      have hafter:After w w' I I' m m' h (qft (back moved nx) h0 ++ (if touched = true then freeze (qaM h moved) shwn else qaM h moved)) nx:=by
       refine ⟨hstay,hII',hm'le,fun i h1 h2=>?_,hfull,fun bk hbk hno=>aft.frame bk hbk fun ho=>hno (hOwn' bk ho),hnewI,fun bk ho=>?_,fun i b hi=>?_⟩
       ·by_cases hn:nx <= i /\ i < nx + 16
        ·exact hn
        ·rw [hm'in i hn] at h2; exact absurd h1 h2
       ·obtain ⟨i,a,L,hi,hL,rfl⟩:=ho
        rw [qaN] at hi
        split at hi
        ·rename_i q hq
         rcases hretOwn L.blk ⟨i,q,L,hq,hL,rfl⟩ with ⟨j,aj,Lj,_,hlj,hLj,hbj⟩ | hge
         ·exact .inl ⟨j,aj,Lj,hlj,hLj,hbj⟩
         ·exact .inr hge
        ·obtain ⟨a',L2,hn,ha',hL2,hL2',hlt⟩:=holdOwn i a hi
         rw [hL2'] at hL; cases hL
         exact .inl ⟨i,a',_,ha',hL2,rfl⟩
       ·rw [qaN] at hi
        split at hi
        ·rename_i q hq
         obtain ⟨j,a',hj,hji,rfl⟩:=qcE hq
         rcases qe1 hji with hj' | ⟨h1,h2,rfl⟩
         ·exact .inl (hmk i (List.mem_of_getElem? hj'))
         ·exact .inr (hnx _ (by omega) (by omega))
        ·obtain ⟨a',_,ha'⟩:=hlkold i b hi
         exact .inl ⟨a',ha'⟩
      refine ⟨I',m',hafter,?_⟩
      cases r0 with
      | ret v=>
       obtain ⟨u,he,hu⟩:=hres
       exact ⟨u,he,hresult u hu⟩
      | pan v=>
       obtain ⟨u,he,hu⟩:=hres
       exact ⟨u,he,hresult u hu⟩
     ·cases hc
   ·cases hc
  ·cases hc
end
end Go.Eng
namespace Go.Eng
set_option linter.unusedSectionVars false
variable [Globs]
section
variable {P:Program} {w:World} {I:Imm} {m:Names} {h:Heap} {nx:Nat} {e:Env} {a:Act}
theorem qry {f:Nat} (hf:qc0 P f) (args:Array Value):(callFunc f args).run P w = .ok (.enter f args) w:=by
 obtain ⟨fn,h1,h2,h3⟩:=hf
 simp only [callFunc,Sem.run_bind,run_program,Result.andThen_ok,h1,h2,h3,Bool.false_eq_true,if_false,Sem.run_pure]
theorem qbJ {α:Type} {x:Option α} {g:α -> IOp} (hg:∀ y,qcj (g y) = false) {io:IOp} (h:x.map g = some io):qcj io = false:=by
 simp only [Option.map_eq_some_iff] at h
 obtain ⟨y,_,rfl⟩:=h
 exact hg y
theorem qSS {x:Operand} {t:TypeId} {io:IOp} (h:qQR P x t = some io):qcj io = false:=by
 simp only [qQR] at h
 split at h
 ·exact qbJ (fun _=>rfl) h
 ·cases h
theorem qSM {s x:Operand} {t u:TypeId} {io:IOp} (h:qQN P s x t u = some io):qcj io = false:=by
 simp only [qQN] at h
 split at h
 ·split at h
  ·split at h
   ·cases h; rfl
   ·cases h
  ·cases h
 ·cases h
theorem qSQ {x k:Operand} {t:TypeId} {io:IOp} (h:qQQ P x k t = some io):qcj io = false:=by
 simp only [qQQ] at h
 split at h
 ·exact qbJ (fun _=>rfl) h
 ·cases h
theorem qSO {x:Operand} {t:TypeId} {io:IOp} (h:qQO P x t = some io):qcj io = false:=by
 simp only [qQO] at h
 split at h
 ·split at h
  ·split at h
   ·cases h; rfl
   ·cases h
  ·cases h
 ·cases h
theorem qSP {x y:Operand} {t:TypeId} {io:IOp} (h:qQP P x y t = some io):qcj io = false:=by
 simp only [qQP] at h
 split at h
 ·exact qbJ (fun _=>rfl) h
 ·cases h
theorem qxf {bi:Builtin} {args:List Operand} {ts:List TypeId} {io:IOp} (h:qg0 P bi args ts = some io):qcj io = false:=by
 simp only [qg0] at h
 split at h
 ·split at h
  ·exact qSS h
  ·cases h
 ·split at h
  ·split at h
   ·exact qSM h
   ·cases h
  ·split at h
   ·split at h
    ·exact qSQ h
    ·cases h
   ·split at h
    ·split at h
     ·exact qSO h
     ·cases h
    ·split at h
     ·exact qbJ (fun _=>rfl) h
     ·split at h
      ·exact qbJ (fun _=>rfl) h
      ·split at h
       ·split at h
        ·exact qbJ (fun _=>rfl) h
        ·cases h
       ·split at h
        ·split at h
         ·exact qSP h
         ·cases h
        ·cases h
theorem qSR {neg:Bool} {op:BinOp} {t:TypeId} {x y:Operand} {a b:Opd} {io:IOp} (h:cEq P neg op t x y a b = some io):qcj io = false:=by
 simp only [cEq] at h
 split at h
 ·cases h
 ·split at h
  ·cases h; rfl
  ·cases h; rfl
  ·cases h; rfl
  ·split at h
   ·split at h
    ·cases h
    ·cases h; rfl
   ·cases h
  ·split at h
   ·exact qbJ (fun _=>rfl) h
   ·cases h
theorem qSN {op:BinOp} {t:TypeId} {x y:Operand} {io:IOp} (h:qUI P op t x y = some io):qcj io = false:=by
 simp only [qUI] at h
 split at h
 ·split at h
  ·exact qSR h
  ·split at h
   ·exact qSR h
   ·cases h; rfl
 ·cases h
theorem qST {fn:Fn} {a b:List Operand} {io:IOp} (h:qUJ fn a b = some io):qcj io = false:=by
 simp only [qUJ] at h
 split at h
 ·split at h
  ·exact qbJ (fun _=>rfl) h
  ·cases h
 ·split at h
  ·exact qbJ (fun _=>rfl) h
  ·cases h
 ·cases h
theorem qSU {t:TypeId} {r:Option Operand} {io:IOp} (h:qQS P t r = some io):qcj io = false:=by
 cases r with
 | none=>cases h; rfl
 | some o=>
  cases o with
  | const v=>
   cases v with
   | int k n=>
    simp only [qQS] at h
    split at h
    ·cases h; rfl
    ·cases h
   | _=>cases h
  | _=>cases h
theorem qSV {t:TypeId} {x:Operand} {lo hi mx:Option Operand} {io:IOp} (h:qUL P t x lo hi mx = some io):qcj io = false:=by
 simp only [qUL] at h
 split at h
 ·simp only [qMR] at h
  split at h
  ·exact qbJ (fun _=>rfl) h
  ·cases h
 ·split at h
  ·exact qbJ (fun _=>rfl) h
  ·cases h; rfl
  ·exact qbJ (fun _=>rfl) h
  ·cases h
theorem qXc {mn:Nat -> Option String} {op:Op} (hop:∀ c,op ≠ .call c) {io:IOp} (h:cOp P mn op = some io):qcj io = false:=by
  cases op <;> simp only [cOp,reduceCtorEq] at h
  case call c=>exact absurd rfl (hop c)
  case binOp=>exact qSN h
  case makeFunc=>exact qST h
  case makeMap=>exact qSU h
  case slice=>exact qSV h
  case move=>exact qbJ (fun _=>rfl) h
  case assign=>exact qbJ (fun _=>rfl) h
  case panic=>exact qbJ (fun _=>rfl) h
  case nilCheck x=>
    cases x <;> simp only [qPf] at h
    · split at h <;> cases h <;> rfl
    all_goals exact qbJ (fun _=>rfl) h
  case unOp=>exact qbJ (fun _=>rfl) h
  case extract=>exact qbJ (fun _=>rfl) h
  all_goals
    split at h
    all_goals
      first
        | (cases h; done)
        | (cases h; rfl)
        | exact qbJ (fun _=>rfl) h
        | (split at h
           all_goals
             first
               | (cases h; done)
               | (cases h; rfl)
               | exact qbJ (fun _=>rfl) h
               | (split at h
                  all_goals
                    first
                      | (cases h; done)
                      | (cases h; rfl)
                      | exact qbJ (fun _=>rfl) h
                      | (split at h <;> first | (cases h; done) | (cases h; rfl) | exact qbJ (fun _=>rfl) h)))
theorem qw8 {t f:Nat} {y:Value} {name:String} (h:qPq P name t = some f) (n:Nat):(method (n + 1) t y name).run P w = .ok (f,y) w:=by
 unfold qPq at h
 split at h
 ·rename_i i hi
  split at h
  ·rename_i mt hm
   have hti:(typeInfo t).run P w = .ok i w:=by simp [typeInfo,hi]
   split at h
   ·rename_i g e hp hfn hu
    cases h
    simp only [method,Sem.run_bind,hti,Result.andThen_ok,hm,hp,follow,Sem.run_pure,hfn,receiverAt,run_underlying hu,Place.get]
   ·cases h
   ·rename_i g d hne hp hfn hu
    cases h
    simp only [method,Sem.run_bind,hti,Result.andThen_ok,hm,hp,follow,Sem.run_pure,hfn,receiverAt,run_underlying hu,Place.get]
   ·cases h
  ·cases h
 ·cases h
theorem qYS {IP:Prog} {call:qaL} (hcall:qcy P call) (ht:qe0 w I m e a) (H:HeapAt w I m h) (hnx:∀ i,nx <= i -> i < nx + 16 -> m i = none) {o:Oper} {io:IOp} {mn:Nat -> Option String} (hc:cOp P mn o.op = some io) {r:Res} {h':Heap} {b:Bool}
  (hs:opS IP call nx (qau e) h io = some (r,h',b)) {next:Act -> World -> Prop} {Q:Exit -> Act -> World -> Prop}
  (hret:∀ v u w' I' m',r = .ret v -> After w w' I I' m m' h h' nx -> Rel w' I' v m' u -> next (a.put o.dst u) w')
  (hpan:∀ v u w' I' m',r = .pan v -> After w w' I I' m m' h h' nx -> Rel w' I' v m' u -> Q (.panic [{ v:=u,recovered:=false }]) a w'):o.wp P a w next Q:=by
 have hcalls:∀ (f:Nat) (args:List AV) (vs:List Value),qaw w I args m vs -> qe4 IP call h nx f args = some (r,h',b) -> (execOp a.eval o).run P w = (callFunc f vs.toArray).run P w -> o.wp P a w next Q:=by
  intro f args vs hr hA hexec
  rcases qsm hcall H hnx hr hA with ⟨hent,hcl⟩ | ⟨u,hrun,I',m',haft,hres⟩
  rotate_left
  ·simp only [Oper.wp,hexec,hrun,Oper.upon]
   cases r with
   | ret v=>
    obtain ⟨u',he,hu⟩:=hres
    cases he
    exact hret v u w I' m' rfl haft hu
   | pan v=>
    obtain ⟨u',he,_⟩:=hres
    cases he
  simp only [Oper.wp,hexec,qry hent,Oper.upon]
  refine hcl.mono ?_
  rintro e' w' ⟨I',m',haft,hres⟩
  cases r with
  | ret v=>
   obtain ⟨u,rfl,hu⟩:=hres
   exact hret v u w' I' m' rfl haft hu
  | pan v=>
   obtain ⟨u,rfl,hu⟩:=hres
   exact hpan v u w' I' m' rfl haft hu
 by_cases hnc:qcj io = true
 ·
  obtain ⟨dst,op,type,pos,after,guard⟩:=o
  cases op
  case call c=>
   obtain ⟨callee,args,ts⟩:=c
   cases callee
   case invoke rv name=>
    simp only [cOp,qsk,qV9] at hc
    have hmap:args.map a.eval = (args.toList.map a.eval).toArray:=by apply Array.ext'; simp
    split at hc
    ·rename_i x ys hx hys
     cases hc
     simp only [opS] at hs
     split at hs
     ·rename_i t v hv
      split at hs
      ·rename_i f hf
       have hrr:=qan ht hx
       rw [hv] at hrr
       simp only [Rel] at hrr
       obtain ⟨y,hy,hrv⟩:=hrr
       refine hcalls f _ (y :: args.toList.map a.eval) (by simp only [qaw]; exact ⟨_,_,rfl,hrv,qdc ht hys⟩) hs ?_
       have hm:=qw8 (P:=P) (w:=w) (y:=y) (qnB P hf) (P.types.size + Made.depth - 1)
       simp only [execOp,resolve,Sem.run_bind,Sem.run_pure,Result.andThen_ok,invoke]
       rw [hmap,hy]
       simp only [List.append_toArray,List.cons_append,List.nil_append,List.getElem?_toArray,List.getElem?_cons_zero,callMethod,Sem.run_bind,run_program,Result.andThen_ok]
       rw [show P.types.size + Made.depth = P.types.size + Made.depth - 1 + 1 by simp only [Made.depth]; omega,hm]
       simp
       rw [List.take_of_length_le (by simp)]
      ·cases hs
     ·cases hs
    ·cases hc
   case builtin bi=>
    have:=qxf (by simpa [cOp,qsk] using hc)
    rw [this] at hnc; cases hnc
   case value f=>
    simp only [cOp,qsk,qsl] at hc
    have hmap:args.map a.eval = (args.toList.map a.eval).toArray:=by apply Array.ext'; simp
    cases f <;> simp only [reduceCtorEq,Option.map_eq_some_iff] at hc
    case tmp t=>
     obtain ⟨ys,hys,rfl⟩:=hc
     simp only [opS] at hs
     split at hs
     ·rename_i f cap hf
      have hfr:=ht t
      simp only [qau] at hf
      rw [hf] at hfr
      simp only [Rel] at hfr
      obtain ⟨cs,hcs,hrc⟩:=hfr
      refine hcalls f _ (args.toList.map a.eval ++ cs) (qcv (qdc ht hys) hrc) hs ?_
      have hev:a.eval (.tmp t) = .func (.func f) #[] cs.toArray:=hcs
      simp only [execOp,resolve,Deferred.ofValue,hev,Sem.run_bind,Sem.run_pure,Result.andThen_ok,invoke]
      rw [hmap]
      simp
     ·cases hs
    case func f=>
     obtain ⟨ys,hys,rfl⟩:=hc
     simp only [opS] at hs
     refine hcalls f _ (args.toList.map a.eval) (qmN (qdc ht hys)) hs ?_
     have hev:a.eval (.func f) = .func (.func f) #[] #[]:=rfl
     simp only [execOp,resolve,Deferred.ofValue,hev,Sem.run_bind,Sem.run_pure,Result.andThen_ok,invoke]
     rw [hmap]
     simp
  all_goals
   have:=qXc (fun c h=>by cases h) hc
   rw [this] at hnc; cases hnc
 ·have hout:=qGh (P:=P) ht H (hnx nx (Nat.le_refl _) (by omega)) hc (by simpa using hnc) hs
  cases r with
  | ret v=>
   obtain ⟨n,w',I',m',hrun,haft,hn⟩:=hout
   simp only [Oper.wp,hrun]
   rcases hn with ⟨u,rfl,hu⟩ | ⟨rfl,rfl⟩
   ·exact hret v u w' I' m' rfl haft hu
   ·exact hret unit undef w' I' m' rfl haft (by simp [unit,undef,Rel,qaw])
  | pan v=>
   obtain ⟨rfl,u,hrun,hu⟩:=hout
   simp only [Oper.wp,hrun]
   exact hpan v u w I m rfl (After.same H) hu
end
end Go.Eng
namespace Go.Eng
set_option linter.unusedSectionVars false
variable [Globs]
section
variable {P:Program} {w:World} {I:Imm} {m:Names} {h:Heap} {nx:Nat} {e:Env} {a:Act}
theorem HeapAt.congr {h':Heap} (H:HeapAt w I m h) (hs:∀ i,qad h' i = qad h i):HeapAt w I m h':=
 H.sub' fun i b hi=>by rw [<- hs i]; exact hi
theorem Owns.congr {h':Heap} {b:Nat} (hs:∀ i,qad h' i = qad h i):Owns m h' b ↔ Owns m h b:=by
 constructor
 ·rintro ⟨i,a,L,hi,hL,rfl⟩; exact ⟨i,a,L,by rw [<- hs i]; exact hi,hL,rfl⟩
 ·rintro ⟨i,a,L,hi,hL,rfl⟩; exact ⟨i,a,L,by rw [hs i]; exact hi,hL,rfl⟩
theorem Aft.refl (H:HeapAt w I m h):Aft w w I I m m h h:=
 ⟨Stays.refl w I,fun _ _ h=>h,fun _ _ h=>h,H,fun _ _ _=>rfl,fun _ _ h=>.inl h,fun _ h=>.inl h⟩
theorem Aft.trans {w1 w2:World} {I1 I2:Imm} {m1 m2:Names} {h1 h2:Heap} (a:Aft w w1 I I1 m m1 h h1) (b:Aft w1 w2 I1 I2 m1 m2 h1 h2):Aft w w2 I I2 m m2 h h2 where
 stays:=a.stays.trans b.stays a.imm
 imm:=fun _ _ h=>b.imm _ _ (a.imm _ _ h)
 names:=fun _ _ h=>b.names _ _ (a.names _ _ h)
 heap:=b.heap
 frame:=fun k hk hno=>by
  have h1':¬ Owns m1 h1 k:=fun ho=>by
   rcases a.owns k ho with ho | hge
   ·exact hno ho
   ·omega
  exact (b.frame k (Nat.lt_of_lt_of_le hk a.stays.size) h1').trans (a.frame k hk hno)
 newI:=fun k o hi=>by
  rcases b.newI k o hi with hi | ho | hge
  ·exact a.newI k o hi
  ·rcases a.owns k ho with ho | hge
   ·exact .inr (.inl ho)
   ·exact .inr (.inr hge)
  ·exact .inr (.inr (Nat.le_trans a.stays.size hge))
 owns:=fun k ho=>by
  rcases b.owns k ho with ho | hge
  ·exact a.owns k ho
  ·exact .inr (Nat.le_trans a.stays.size hge)
theorem Aft.congr {w':World} {I':Imm} {m':Names} {h1 h2:Heap} (a:Aft w w' I I' m m' h h1) (hs:∀ i,qad h2 i = qad h1 i):Aft w w' I I' m m' h h2:=
 ⟨a.stays,a.imm,a.names,a.heap.congr hs,a.frame,a.newI,fun b ho=>a.owns b ((Owns.congr hs).1 ho)⟩
theorem After.lift {w':World} {I':Imm} {m':Names} {r:List Nat} {h1:Heap} (H:HeapAt w I m h) (a:After w w' I I' m m' (sub h r) h1 nx):Aft w w' I I' m m' h (h1 ++ qaM h r):=by
 have hown:∀ b,Owns m (sub h r) b -> ∃ i x L,i ∈ r /\ qad h i = some x /\ m i = some L /\ L.blk = b:=by
  rintro b ⟨i,x,L,hi,hL,rfl⟩
  rw [qa6] at hi
  split at hi
  ·exact ⟨i,x,L,by assumption,hi,hL,rfl⟩
  ·cases hi
 have hown':∀ b,Owns m (sub h r) b -> Owns m h b:=fun b ho=>by
  obtain ⟨i,x,L,_,h1,h2,h3⟩:=hown b ho; exact ⟨i,x,L,h1,h2,h3⟩
 have hrest:∀ i x,qad (qaM h r) i = some x -> i ∉ r /\ qad h i = some x:=fun i x hi=>by
  rw [qaZ] at hi
  split at hi
  ·cases hi
  ·exact ⟨by assumption,hi⟩
 have hnot:∀ i x L,i ∉ r -> qad h i = some x -> m i = some L -> ¬ Owns m (sub h r) L.blk:=fun i x L hn hi hL ho=>by
  obtain ⟨j,y,L',hj,hlj,hLj,he⟩:=hown _ ho
  exact hn (H.apart i j x y L L' hi hlj hL hLj he.symm ▸ hj)
 have hlk:∀ i b,qad (h1 ++ qaM h r) i = some b -> qad h1 i = some b \/ (qad h1 i = none /\ qad (qaM h r) i = some b):=by
  intro i b hi
  rw [qaN] at hi
  split at hi
  ·rename_i q hq; simp at hi; subst hi; exact .inl hq
  ·rename_i hq; exact .inr ⟨hq,hi⟩
 refine ⟨a.stays,a.imm,a.names,⟨fun i b hi=>?_,fun i j x y L L' hi hj hL hL' he=>?_,a.heap.old,a.heap.glob⟩,fun b hb hno=>a.frame b hb fun ho=>hno (hown' b ho),fun b o hi=>?_,fun b ho=>?_⟩
 ·rcases hlk i b hi with hi | ⟨_,hi⟩
  ·exact a.heap.at_ i b hi
  ·obtain ⟨hn,hi⟩:=hrest i b hi
   obtain ⟨L,hL,hat⟩:=H.at_ i b hi
   refine ⟨L,a.names i L hL,hat.keep a.stays a.imm a.names (a.frame _ hat.lt (hnot i b L hn hi hL)) fun o ho=>?_⟩
   rcases a.newI _ _ ho with h1 | h1 | h1
   ·exact h1
   ·exact absurd h1 (hnot i b L hn hi hL)
   ·have:=hat.lt; omega
 ·have cross:∀ i j x y L L',qad h1 i = some x -> qad (qaM h r) j = some y -> m' i = some L -> m' j = some L' -> L.blk = L'.blk -> False:=by
   intro i j x y L L' hi hj hL hL' he
   obtain ⟨hn,hj⟩:=hrest j y hj
   obtain ⟨L2,hL2,hat⟩:=H.at_ j y hj
   have:=a.names j L2 hL2
   rw [this] at hL'; cases hL'
   rcases a.owns L.blk ⟨i,x,L,hi,hL,rfl⟩ with ho | hge
   ·exact hnot j y _ hn hj hL2 (he ▸ ho)
   ·have:=hat.lt; omega
  rcases hlk i x hi with hi | ⟨_,hi⟩ <;> rcases hlk j y hj with hj | ⟨_,hj⟩
  ·exact a.heap.apart i j x y L L' hi hj hL hL' he
  ·exact (cross i j x y L L' hi hj hL hL' he).elim
  ·exact (cross j i y x L' L hj hi hL' hL he.symm).elim
  ·obtain ⟨_,hi⟩:=hrest i x hi
   obtain ⟨_,hj⟩:=hrest j y hj
   obtain ⟨L1,hL1,_⟩:=H.at_ i x hi
   obtain ⟨L2,hL2,_⟩:=H.at_ j y hj
   rw [a.names i L1 hL1] at hL; cases hL
   rw [a.names j L2 hL2] at hL'; cases hL'
   exact H.apart i j x y _ _ hi hj hL1 hL2 he
 ·rcases a.newI b o hi with h1 | h1 | h1
  ·exact .inl h1
  ·exact .inr (.inl (hown' b h1))
  ·exact .inr (.inr h1)
 ·obtain ⟨i,x,L,hi,hL,rfl⟩:=ho
  rcases hlk i x hi with hi | ⟨_,hi⟩
  ·rcases a.owns _ ⟨i,x,L,hi,hL,rfl⟩ with h1 | h1
   ·exact .inl (hown' _ h1)
   ·exact .inr h1
  ·obtain ⟨_,hi⟩:=hrest i x hi
   obtain ⟨L1,hL1,_⟩:=H.at_ i x hi
   rw [a.names i L1 hL1] at hL; cases hL
   exact .inl ⟨i,x,_,hi,hL1,rfl⟩
theorem qd4 (r:List Nat):∀ (h:Heap) (j:Nat),qad (news r h) j = if j ∈ r then none else qad h j
 | [],j=>by simp [news,qad]
 | (i,b) :: h,j=>by
  simp only [news]
  by_cases hc:r.contains i = true
  ·rw [if_pos hc,qd4 r h j]
   have:i ∈ r:=by simpa using hc
   by_cases hj:j ∈ r
   ·simp [hj]
   ·have:j ≠ i:=fun e=>hj (e ▸ this)
    simp [hj,qad,this]
  ·rw [if_neg hc]
   have hn:i ∉ r:=by simpa using hc
   simp only [qad,qd4 r h j]
   by_cases e:j = i
   ·subst e; simp [hn]
   ·simp [e]
theorem quiet {IP:Prog} {call:qaL} {io:IOp} {r:Res} {h':Heap} (hfree:∀ i,nx <= i -> i < nx + 16 -> qad h i = none) (hs:opS IP call nx (qau e) h io = some (r,h',false)):∀ i b,qad h i = some b -> qad h' i = some b:=by
  have put:∀ b',h' = qbu h nx b' -> ∀ i b,qad h i = some b -> qad h' i = some b:=by
    intro b' he i b hi
    subst he
    rw [qaP]
    have:i ≠ nx:=fun e=>by rw [e,hfree nx (Nat.le_refl _) (by omega)] at hi; cases hi
    simp [this,hi]
  have same:h' = h -> ∀ i b,qad h i = some b -> qad h' i = some b:=fun he i b hi=>he ▸ hi
  have hval:∀ {v:AV} {b:Bool},val v h = some (r,h',b) -> h' = h:=fun hv=>by simp [val] at hv; exact hv.2.1.symm
  have hvalO:∀ {v:Option AV} {b:Bool},qr2 v h = some (r,h',b) -> h' = h:=fun hv=>by
    rename_i v b; cases v <;> simp [qr2] at hv; exact hv.2.1.symm
  have hcall:∀ f args,qe4 IP call h nx f args = some (r,h',false) -> ∀ i b,qad h i = some b -> qad h' i = some b:=by
    intro f args hc i b hi
    simp only [qe4] at hc
    split at hc
    · cases hc
    · split at hc
      · rename_i moved shwn hmv hsh
        split at hc
        · split at hc
          · cases hc
          · rename_i r0 h0 hcl
            split at hc
            · rename_i hall
              simp only [Option.some.injEq,Prod.mk.injEq,Bool.or_eq_false_iff] at hc
              obtain ⟨_,rfl,hm,ht⟩:=hc
              have hmn:moved = []:=by simpa using hm
              subst hmn
              rw [qaN]
              have hnone:qad (qft (back [] nx) h0) i = none:=by
                cases hq:qad (qft (back [] nx) h0) i with
                | none=>rfl
                | some q=>
                  obtain ⟨j,a',_,hji,_⟩:=qcE hq
                  rcases qe1 hji with hj' | ⟨h1,h2,h3⟩
                  · simp at hj'
                  · simp at h2 h3
                    rw [hfree i (by omega) (by omega)] at hi; cases hi
              rw [hnone]
              simp only [ht,Bool.false_eq_true,if_false,qaM]
              exact hi
            · cases hc
        · cases hc
      · cases hc
  cases io <;> simp only [opS] at hs
  case call f args=>exact hcall _ _ hs
  case callv fv args=>
    split at hs
    · exact hcall _ _ hs
    · cases hs
  case invk tbl x args=>
    split at hs
    · split at hs
      · exact hcall _ _ hs
      · cases hs
    · cases hs
  case alloc=>simp at hs; exact put _ hs.2.symm
  case box=>
    split at hs
    · simp at hs; exact put _ hs.2.symm
    · cases hs
  case mkm=>simp at hs; exact put _ hs.2.symm
  case slc3=>
    repeat' (split at hs)
    all_goals first | (cases hs; done) | exact same (hval hs)
  case mks=>
    split at hs
    · split at hs
      · simp at hs; exact put _ hs.2.symm
      · cases hs
    · cases hs
  all_goals
    first
      | exact same (hval hs)
      | exact same (hvalO hs)
      | (split at hs
         all_goals
           first
             | (cases hs; done)
             | exact same (hval hs)
             | exact same (hvalO hs)
             | (simp at hs; done)
             | (split at hs
                all_goals
                  first
                    | (cases hs; done)
                    | exact same (hval hs)
                    | exact same (hvalO hs)
                    | (simp at hs; done)
                    | (split at hs
                       all_goals
                         first
                           | (cases hs; done)
                           | exact same (hval hs)
                           | exact same (hvalO hs)
                           | (simp at hs; done)
                           | (split at hs <;> first | (cases hs; done) | exact same (hval hs) | exact same (hvalO hs) | (simp at hs; done)))))
theorem qMw {w':World} {I':Imm} {m':Names} (ht:qe0 w' I' m' e a) {v:AV} {u:Value} (hu:Rel w' I' v m' u) {dst:Option Nat} (hd:∀ d,dst = some d -> d < a.tmps.size):qe0 w' I' m' (qs3 e dst v) (a.put dst u):=by
 cases dst with
 | none=>exact ht
 | some d=>
  have hlt:=hd d rfl
  intro t
  simp only [qs3,qbe,Act.put]
  by_cases ht':t = d
  ·subst ht'
   simp [hlt,hu]
  ·rw [if_neg ht']
   have:=ht t
   simpa [Array.getElem?_setIfInBounds,Ne.symm ht'] using this
theorem qtj {w':World} {I':Imm} {m':Names} (ht:qe0 w I m e a) (s:Stays w w' I) (hI:∀ b o,I b o -> I' b o) (hm:∀ i L,m i = some L -> m' i = some L):qe0 w' I' m' e a:=
 fun t=>qaA s hI _ hm (ht t)
end
end Go.Eng
namespace Go.Eng
set_option linter.unusedSectionVars false
class Dfs where
 ds:List Deferred
variable [Globs] [Dfs]
section
variable {P:Program} {hint:Nat -> Nat} {w:World} {I:Imm} {m:Names} {h:Heap} {nx:Nat} {e:Env} {a:Act}
structure Fr (k:Nat) (w w':World) (I I':Imm) (m m':Names) (h h':Heap):Prop where
 stays:Stays w w' I
 imm:∀ b o,I b o -> I' b o
 names:∀ i L,i < k -> m i = some L -> m' i = some L
 frame:∀ b,b < w.heap.size -> ¬ Owns m h b -> w'.heap[b]? = w.heap[b]?
 newI:∀ b o,I' b o -> I b o \/ Owns m h b \/ w.heap.size <= b
 owns:∀ b,Owns m' h' b -> Owns m h b \/ w.heap.size <= b
theorem Fr.refl (k:Nat):Fr k w w I I m m h h:=
 ⟨Stays.refl w I,fun _ _ h=>h,fun _ _ _ h=>h,fun _ _ _=>rfl,fun _ _ h=>.inl h,fun _ h=>.inl h⟩
theorem Aft.fr {w':World} {I':Imm} {m':Names} {h':Heap} (a:Aft w w' I I' m m' h h') (k:Nat):Fr k w w' I I' m m' h h':=
 ⟨a.stays,a.imm,fun i L _ h=>a.names i L h,a.frame,a.newI,a.owns⟩
theorem Fr.trans {k:Nat} {w1 w2:World} {I1 I2:Imm} {m1 m2:Names} {h1 h2:Heap} (a:Fr k w w1 I I1 m m1 h h1) (b:Fr k w1 w2 I1 I2 m1 m2 h1 h2):Fr k w w2 I I2 m m2 h h2 where
 stays:=a.stays.trans b.stays a.imm
 imm:=fun _ _ h=>b.imm _ _ (a.imm _ _ h)
 names:=fun _ _ hk h=>b.names _ _ hk (a.names _ _ hk h)
 frame:=fun k hk hno=>by
  have h1':¬ Owns m1 h1 k:=fun ho=>by
   rcases a.owns k ho with ho | hge
   ·exact hno ho
   ·omega
  exact (b.frame k (Nat.lt_of_lt_of_le hk a.stays.size) h1').trans (a.frame k hk hno)
 newI:=fun k o hi=>by
  rcases b.newI k o hi with hi | ho | hge
  ·exact a.newI k o hi
  ·rcases a.owns k ho with ho | hge
   ·exact .inr (.inl ho)
   ·exact .inr (.inr hge)
  ·exact .inr (.inr (Nat.le_trans a.stays.size hge))
 owns:=fun k ho=>by
  rcases b.owns k ho with ho | hge
  ·exact a.owns k ho
  ·exact .inr (Nat.le_trans a.stays.size hge)
structure Fits (w:World) (I:Imm) (m:Names) (e:Env) (h:Heap) (nx n:Nat) (a:Act):Prop where
 tm:qe0 w I m e a
 hp:HeapAt w I m h
 nx:∀ i,nx <= i -> m i = none
 sz:n <= a.tmps.size
 df:a.defers = Dfs.ds
def qps (ops:Array Oper):Option (Nat × Bool) -> Option (Option (Nat × Bool))
 | none=>some none
 | some (j,want)=>match (ops[j]?).bind (·.dst) with
  | some d=>some (some (d,want))
  | none=>none
def q1B (n:Nat):Option Nat -> Bool
 | none=>true
 | some d=>decide (d < n)
def retag (hint:Nat -> Nat) (dst:Option Nat):IOp -> IOp
 | .mov (.c (.nils q))=>.mov (.c (.nils ⟨match dst with | some d=>hint d | none=>q.sz,q.kd⟩))
 | op=>op
theorem qD6 {IP:Prog} {call:qaL} {dst:Option Nat} {ev:Opd -> AV} (hev:∀ v,ev (.c v) = v) {op:IOp} {nx:Nat} {h:Heap} {x:Res} {out:Heap} {b:Bool} (hx:opS IP call nx ev h (retag hint dst op) = some (x,out,b)) :
  ∃ x0,opS IP call nx ev h op = some (x0,out,b) /\ (x = x0 \/ ∃ j k,x = .ret (.nils j) /\ x0 = .ret (.nils k) /\ j.kd = k.kd):=by
 unfold retag at hx
 split at hx
 ·rename_i k
  simp only [opS,val,hev,Option.some.injEq,Prod.mk.injEq] at hx ⊢
  obtain ⟨rfl,rfl,rfl⟩:=hx
  exact ⟨_,⟨rfl,rfl,rfl⟩,.inr ⟨_,_,rfl,rfl,rfl⟩⟩
 ·exact ⟨x,hx,.inl rfl⟩
def qUX (ops:Array Oper) (t:Nat):Option String:=match ops.toList.find? (fun o=>o.dst == some t) with
 | some o=>match o.op with
  | .makeFunc (.method s) _ _=>some s
  | _=>none
 | none=>none
def qoj:IOp:=.pan (.c .junk)
def qwj (P:Program) (hint:Nat -> Nat) (n:Nat) (ops:Array Oper) (o:Oper):Option IOper:=
 if q1B n o.dst then match qps ops o.guard with
  | some g=>some ⟨o.dst,retag hint o.dst ((cOp P (qUX ops) o.op).getD qoj),g⟩
  | none=>none
 else none
def qe2 (P:Program) (hint:Nat -> Nat) (n:Nat) (ops:Array Oper):List Oper -> Option (List IOper)
 | []=>some []
 | o :: os=>match qwj P hint n ops o,qe2 P hint n ops os with
  | some x,some xs=>some (x :: xs)
  | _,_=>none
theorem qwk {n:Nat} {ops:Array Oper} {o:Oper} {io:IOper} (h:qwj P hint n ops o = some io) :
  io.dst = o.dst /\ (∀ d,o.dst = some d -> d < n) /\ (∃ op,(cOp P (qUX ops) o.op = some op \/ op = qoj) /\ io.op = retag hint o.dst op) /\ qps ops o.guard = some io.guard:=by
 simp only [qwj] at h
 split at h
 ·rename_i hd
  split at h
  ·rename_i g h2
   cases h
   refine ⟨rfl,fun d he=>?_,⟨_,?_,rfl⟩,h2⟩
   rotate_left
   ·cases cOp P (qUX ops) o.op with
    | none=>exact .inr rfl
    | some op=>exact .inl rfl
   rw [he] at hd
   simpa [q1B] using hd
  ·cases h
 ·cases h
theorem qbD {n:Nat} {ops:Array Oper}:∀ {os:List Oper} {ios:List IOper},qe2 P hint n ops os = some ios -> ios.length = os.length
 | [],ios,h=>by simp [qe2] at h; subst h; rfl
 | o :: os,ios,h=>by
  simp only [qe2] at h
  split at h
  ·rename_i x xs h1 h2
   cases h
   simp [qbD h2]
  ·cases h
theorem qdX {n:Nat} {ops:Array Oper}:∀ {os:List Oper} {ios:List IOper},qe2 P hint n ops os = some ios -> ∀ (i:Nat) (o:Oper),os[i]? = some o -> ∃ io,ios[i]? = some io /\ qwj P hint n ops o = some io
 | [],ios,_,i,o,ho=>by simp at ho
 | o :: os,ios,h,i,o',ho=>by
  simp only [qe2] at h
  split at h
  ·rename_i x xs h1 h2
   cases h
   cases i with
   | zero=>simp at ho; subst ho; exact ⟨x,rfl,h1⟩
   | succ i=>simpa using qdX h2 i o' (by simpa using ho)
  ·cases h
theorem qlj (ht:qe0 w I m e a) {ops:Array Oper} {o:Oper} {g:Option (Nat × Bool)} (hg:qps ops o.guard = some g) {b:Bool} (hw:qfB e g = some b):Region.wanted o (yielded ops a.tmps) = b:=by
 cases hog:o.guard with
 | none=>
  rw [hog] at hg
  simp [qps] at hg; subst hg
  simp [qfB] at hw; subst hw
  simp [Region.wanted,hog]
 | some jw=>
  obtain ⟨j,want⟩:=jw
  rw [hog] at hg
  simp only [qps] at hg
  split at hg
  ·rename_i d hd
   cases hg
   have hr:=ht d
   simp only [qfB] at hw
   split at hw
   ·rename_i t htt
    rw [htt] at hr
    simp only [Rel] at hr
    have hs:a.tmps[d]? = some (.bool t):=by
     cases hq:a.tmps[d]? with
     | none=>simp [hq,undef] at hr
     | some v=>simp [hq] at hr; rw [hr]
    simp at hw; subst hw
    simp [Region.wanted,hog,yielded,hd,hs]
   ·rename_i htt
    rw [htt] at hr
    simp only [Rel,qaw] at hr
    obtain ⟨vs,hv,hvs⟩:=hr
    subst hvs
    simp at hw; subst hw
    have hy:yielded ops a.tmps j = none:=by
     simp only [yielded,hd,Option.bind_some]
     cases hq:a.tmps[d]? with
     | none=>rfl
     | some v=>simp [hq] at hv; subst hv; rfl
    simp [Region.wanted,hog,hy]
   ·cases hw
  ·cases hg
end
end Go.Eng
namespace Go.Eng
set_option linter.unusedSectionVars false
variable [Globs] [Dfs]
section
variable {P:Program} {hint:Nat -> Nat} {w:World} {I:Imm} {m:Names} {h:Heap} {nx:Nat} {e:Env} {a:Act}
theorem Fits.hnone {n:Nat} (F:Fits w I m e h nx n a):∀ i,nx <= i -> qad h i = none:=by
 intro i hi
 cases hq:qad h i with
 | none=>rfl
 | some b=>
  obtain ⟨L,hL,_⟩:=F.hp.at_ i b hq
  rw [F.nx i hi] at hL; cases hL
theorem qvN (a:Act) (dst:Option Nat) (v:Value):(a.put dst v).tmps.size = a.tmps.size:=by
 cases dst <;> simp [Act.put]
theorem put_defers (a:Act) (dst:Option Nat) (v:Value):(a.put dst v).defers = a.defers:=by
 cases dst <;> simp [Act.put]
theorem qeN {IP:Prog} {call:qaL} (hcall:qcy P call) {n:Nat} (ht:qe0 w I m e a) (H:HeapAt w I m h) (hfree:∀ i,nx <= i -> i < nx + 16 -> m i = none) (hsz:n <= a.tmps.size) {ops:Array Oper} {o:Oper} {io:IOper} (hc:qwj P hint n ops o = some io) {s:Step} (hs:qbt IP call nx io e h = some s)
  {next:Act -> World -> Prop} {Q:Exit -> Act -> World -> Prop}
  (hret:∀ a' w' I' m',(∀ r v out,s ≠ .pan r v out) -> Aft w w' I I' m m' h (qaD h s) -> qe0 w' I' m' (qaY e io.dst s) a' -> (∀ i,m i = none -> m' i ≠ none -> nx <= i /\ i < nx + 16) -> a'.tmps.size = a.tmps.size -> a'.defers = a.defers -> next a' w')
  (hpan:∀ r v out u w' I' m',s = .pan r v out -> Aft w w' I I' m m' h (qaD h s) -> Rel w' I' v m' u -> Q (.panic [{ v:=u,recovered:=false }]) a w') :
  (Region.wanted o (yielded ops a.tmps) = true /\ o.wp P a w next Q) \/ (Region.wanted o (yielded ops a.tmps) = false /\ next (a.put o.dst undef) w):=by
 obtain ⟨hdst,hd,⟨op0,hop,hio⟩,hg⟩:=qwk hc
 have hnone:∀ i,nx <= i -> i < nx + 16 -> qad h i = none:=by
  intro i h1 h2
  cases hq:qad h i with
  | none=>rfl
  | some b=>
   obtain ⟨L,hL,_⟩:=H.at_ i b hq
   rw [hfree i h1 h2] at hL; cases hL
 simp only [qbt] at hs
 split at hs
 ·cases hs
 ·rename_i hw
  cases hs
  refine .inr ⟨qlj ht hg hw,hret _ _ I m (by simp) (Aft.refl H) ?_ (fun i h1 h2=>absurd h1 h2) (qvN _ _ _) (put_defers _ _ _)⟩
  simp only [qaY]
  rw [hdst]
  exact qMw ht (by simp [unit,undef,Rel,qaw]) fun d he=>Nat.lt_of_lt_of_le (hd d he) hsz
 ·rename_i hw
  refine .inl ⟨qlj ht hg hw,?_⟩
  split at hs
  ·cases hs
  ·rename_i r hr
   have H':HeapAt w I m (sub h r):=H.sub' fun i b hi=>by
    rw [qa6] at hi
    split at hi
    ·exact hi
    ·cases hi
   have hres:∀ (x:Res) (out:Heap) (b:Bool) , opS IP call nx (qau e) (sub h r) io.op = some (x,out,b) -> s = (match x with | .ret v=>.did r b v out | .pan v=>.pan r v out) -> o.wp P a w next Q:=by
    intro x out b hop' hsx
    have hop2:=hop'
    rw [hio] at hop2
    obtain ⟨x0,hop0,hxx⟩:=qD6 (fun _=>rfl) hop2
    have hop:cOp P (qUX ops) o.op = some op0:=by
     rcases hop with hop | hst
     ·exact hop
     ·subst hst; simp [qoj,opS,qau] at hop0
    refine qYS hcall ht H' hfree hop hop0 ?_ ?_
    ·rintro v0 u w' I' m' rfl ha hu0
     obtain ⟨v,hxv,hu⟩:∃ v,x = .ret v /\ Rel w' I' v m' u:=by
      rcases hxx with rfl | ⟨j,k,rfl,he,hkd⟩
      ·exact ⟨_,rfl,hu0⟩
      ·cases he
       exact ⟨_,rfl,by simp only [Rel] at hu0 ⊢; rw [hkd]; exact hu0⟩
     subst hxv
     have hA:=ha.lift H
     have heq:∀ i,qad (qaD h s) i = qad (out ++ qaM h r) i:=by
      intro i
      rw [hsx]
      simp only [qaD]
      cases b with
      | true=>simp
      | false=>
       simp only [Bool.false_eq_true,if_false,qaN,qd4,qaZ]
       by_cases hi:i ∈ r
       ·obtain ⟨_,_,hb⟩:=qfN hr
        obtain ⟨q,hq⟩:=hb i hi
        have hsub:qad (sub h r) i = some q:=by rw [qa6,if_pos hi,hq]
        have:=quiet (fun j h1 h2=>by
         rw [qa6]
         split
         ·exact hnone j h1 h2
         ·rfl) hop' i q hsub
        simp [hi,hq,this]
       ·simp [hi]
     refine hret _ _ I' m' (by rw [hsx]; simp) (hA.congr heq) ?_ ha.fresh (qvN _ _ _) (put_defers _ _ _)
     rw [hsx]
     simp only [qaY]
     rw [hdst]
     exact qMw (qtj ht ha.stays ha.imm ha.names) hu fun d he=>Nat.lt_of_lt_of_le (hd d he) hsz
    ·rintro v u w' I' m' rfl ha hu
     obtain rfl:x = .pan v:=by
      rcases hxx with rfl | ⟨j,k,rfl,he,_⟩
      ·rfl
      ·cases he
     refine hpan r v out u w' I' m' hsx ?_ hu
     rw [hsx]
     exact ha.lift H
   split at hs
   ·cases hs
   ·rename_i v out b hop'
    cases hs
    exact hres _ _ _ hop' rfl
   ·rename_i v out b hop'
    cases hs
    exact hres _ _ _ hop' rfl
theorem qxv {IP:Prog} {call:qaL} (hcall:qcy P call) {n:Nat} (F:Fits w I m e h nx n a) {ops:Array Oper} {o:Oper} {io:IOper} (hc:qwj P hint n ops o = some io) {s:Step} (hs:qbt IP call nx io e h = some s)
  {next:Act -> World -> Prop} {Q:Exit -> Act -> World -> Prop}
  (hret:∀ a' w' I' m',(∀ r v out,s ≠ .pan r v out) -> Aft w w' I I' m m' h (qaD h s) -> Fits w' I' m' (qaY e io.dst s) (qaD h s) (nx + 16) n a' -> next a' w')
  (hpan:∀ r v out u w' I' m',s = .pan r v out -> Aft w w' I I' m m' h (qaD h s) -> Rel w' I' v m' u -> Q (.panic [{ v:=u,recovered:=false }]) a w') :
  (Region.wanted o (yielded ops a.tmps) = true /\ o.wp P a w next Q) \/ (Region.wanted o (yielded ops a.tmps) = false /\ next (a.put o.dst undef) w):=by
 refine qeN hcall F.tm F.hp (fun i h1 _=>F.nx i h1) F.sz hc hs ?_ hpan
 intro a' w' I' m' hnp hA ht' hfr hsz hdf
 refine hret a' w' I' m' hnp hA ⟨ht',hA.heap,fun i hi=>?_,by rw [hsz]; exact F.sz,by rw [hdf]; exact F.df⟩
 cases hq:m' i with
 | none=>rfl
 | some L=>
  have:=hfr i (F.nx i (by omega)) (by rw [hq]; simp)
  omega
def qxG (id:Nat):Exit:=if id < 1000000 then .exit id else if id % 2 = 0 then .goto ((id - 1000000) / 2) else .exit id
theorem qsz {id:Nat} (h:id < 1000000):qxG id = .exit id:=by unfold qxG; rw [if_pos h]
theorem qpG (l:Nat):qxG (1000000 + 2 * l) = .goto l:=by
 unfold qxG
 rw [if_neg (by omega),if_pos (by omega)]
 congr 1; omega
theorem qz0 (id:Nat):qxG id ≠ .normal:=by unfold qxG; split <;> (try split) <;> simp
theorem qlP (id:Nat):(qxG id = .exit id) \/ (1000000 <= id /\ id % 2 = 0 /\ ∃ l,qxG id = .goto l /\ id = 1000000 + 2 * l):=by
 unfold qxG
 split
 ·exact .inl rfl
 ·split
  ·exact .inr ⟨by omega,by assumption,(id - 1000000) / 2,rfl,by omega⟩
  ·exact .inl rfl
def Ends (w:World) (I:Imm) (m:Names) (h:Heap) (k n:Nat) (x:X) (s:St) (e:Exit) (a:Act) (w':World):Prop:=
 ∃ I' m',Fr k w w' I I' m m' h s.hp /\ match x with
  | .normal=>e = .normal /\ Fits w' I' m' s.tm s.hp s.nx n a
  | .exit id=>e = qxG id /\ Fits w' I' m' s.tm s.hp s.nx n a
  | .ret=>e = .ret /\ Fits w' I' m' s.tm s.hp s.nx n a
  | .pan v=>a.defers = Dfs.ds /\ HeapAt w' I' m' s.hp /\ qe0 w' I' m' s.tm a /\ ∃ u,e = .panic [{ v:=u,recovered:=false }] /\ Rel w' I' v m' u
theorem Ends.after {k n:Nat} {w1:World} {I1:Imm} {m1:Names} {h1:Heap} {x:X} {s:St} {e:Exit} {a:Act} {w':World} (f:Fr k w w1 I I1 m m1 h h1) (E:Ends w1 I1 m1 h1 k n x s e a w'):Ends w I m h k n x s e a w':=by
 obtain ⟨I',m',f',hx⟩:=E
 exact ⟨I',m',f.trans f',hx⟩
theorem qk6 (c d t:Nat):∀ e:Env,qbe (qcs c d e) t = qbe e t \/ qbe (qcs c d e) t = .junk
 | []=>.inl rfl
 | (j,v) :: e=>by
  simp only [qcs]
  split
  ·rename_i hb
   by_cases htj:t = j
   ·right
    subst htj
    have:∀ e:Env,qbe (qcs c d e) t = .junk:=by
     intro e
     induction e with
     | nil=>rfl
     | cons x e ih=>
      obtain ⟨j,v⟩:=x
      simp only [qcs]
      split
      ·exact ih
      ·rename_i hb'
       have hne:t ≠ j:=fun he=>by rw [he] at hb; rw [hb] at hb'; cases hb'
       simp only [qbe,if_neg hne,ih]
    exact this e
   ·have:=qk6 c d t e
    simp only [qbe,if_neg htj]; exact this
  ·by_cases htj:t = j
   ·left; simp [qbe,htj]
   ·have:=qk6 c d t e
    simp only [qbe,if_neg htj]; exact this
theorem qEt (o:IOper) (e:Env) (t:Nat):qbe (qf0 o e) t = qbe e t \/ qbe (qf0 o e) t = .junk:=by
 unfold qf0
 split
 ·exact qk6 _ _ _ _
 ·exact .inl rfl
theorem Fits.trim {w:World} {I:Imm} {m:Names} {e:Env} {h:Heap} {nx n:Nat} {a:Act} (F:Fits w I m e h nx n a) (o:IOper):Fits w I m (qf0 o e) h nx n a:=
 ⟨fun t=>by
  rcases qEt o e t with h | h
  ·rw [h]; exact F.tm t
  ·rw [h]; simp [Rel],F.hp,F.nx,F.sz,F.df⟩
theorem qrj {IP:Prog} {call:qaL} (hcall:qcy P call) {k n:Nat} {ops:Array Oper} {ios:List IOper} (hc:qe2 P hint n ops ops.toList = some ios) {Q:Exit -> Act -> World -> Prop} :
  ∀ (suf:List IOper) (i:Nat) (e:Env) (h:Heap) (w:World) (I:Imm) (m:Names) (a:Act) (log log':List Step) (x:X) (e':Env) (h':Heap) (nx:Nat),ios.drop i = suf -> Fits w I m e h nx n a ->
   qbK IP call suf e h nx log = some (x,e',h',log') -> (∀ e'' a' w',Ends w I m h k n x ⟨e',h',nx + 16 * suf.length,k⟩ e'' a' w' -> Q e'' a' w') ->
   wpOps P ops Q (List.range' i suf.length) a w
 | [],i,e,h,w,I,m,a,log,log',x,e',h',nx,hi,F,hr,hQ=>by
  simp [qbK] at hr
  obtain ⟨rfl,rfl,rfl,_⟩:=hr
  simp only [List.length_nil,List.range'_zero,wpOps]
  exact hQ _ _ _ ⟨I,m,Fr.refl k,rfl,by simpa using F⟩
 | io :: suf,i,e,h,w,I,m,a,log,log',x,e',h',nx,hi,F,hr,hQ=>by
  have hlen:=qbD hc
  have hios:ios[i]? = some io:=by
   have:=congrArg (·[0]?) hi
   simpa using this
  have hdrop:ios.drop (i + 1) = suf:=by
   have:=congrArg (List.drop 1) hi
   simpa using this
  have hlt:i < ops.size:=by
   have:=List.getElem?_eq_some_iff.1 hios
   obtain ⟨hl,_⟩:=this
   simpa [hlen] using hl
  have ho:ops[i]? = some ops[i]:=by simp [hlt]
  obtain ⟨io',hio',hco⟩:=qdX hc i ops[i] (by simp [hlt])
  rw [hios] at hio'; cases hio'
  simp only [List.length_cons,List.range'_succ,wpOps,ho]
  simp only [qbK] at hr
  cases hs:qbt IP call nx io e h with
  | none=>simp [hs] at hr
  | some s=>
   have key:=qxv hcall F hco hs (next:=wpOps P ops Q (List.range' (i + 1) suf.length)) (Q:=Q)
   have done:(Region.wanted ops[i] (yielded ops a.tmps) = true /\ (ops[i]).wp P a w (wpOps P ops Q (List.range' (i + 1) suf.length)) Q) \/ (Region.wanted ops[i] (yielded ops a.tmps) = false /\ wpOps P ops Q (List.range' (i + 1) suf.length) (a.put (ops[i]).dst undef) w):=by
    refine key ?_ ?_
    ·intro a' w' I' m' hnp hA F'
     have hr':qbK IP call suf (qf0 io (qaY e io.dst s)) (qaD h s) (nx + 16) (log ++ [s]) = some (x,e',h',log'):=by
      rw [hs] at hr
      cases s with
      | pan r v out=>exact absurd rfl (hnp r v out)
      | skip=>exact hr
      | did=>exact hr
     refine qrj (k:=k) hcall hc suf (i + 1) _ _ w' I' m' a' _ _ _ _ _ _ hdrop (F'.trim io) hr' fun e'' a'' w'' E=>hQ _ _ _ ?_
     have E':=E.after (hA.fr k)
     have he:nx + 16 + 16 * suf.length = nx + 16 * (io :: suf).length:=by simp; omega
     rw [he] at E'
     exact E'
    ·intro r v out u w' I' m' hsp hA hu
     subst hsp
     simp only [hs,Option.some.injEq,Prod.mk.injEq] at hr
     obtain ⟨rfl,rfl,rfl,_⟩:=hr
     exact hQ _ _ _ ⟨I',m',hA.fr k,F.df,hA.heap,qtj F.tm hA.stays hA.imm hA.names,u,rfl,hu⟩
   rcases done with ⟨h1,h2⟩ | ⟨h1,h2⟩
   ·rw [h1]; simp only [if_true]; exact .inl h2
   ·rw [h1]; simp only [Bool.false_eq_true,if_false]; exact h2
end
end Go.Eng
namespace Go.Eng
set_option linter.unusedSectionVars false
variable [Globs] [Dfs]
def qEv:Opd -> List Nat
 | .t n=>[n]
 | _=>[]
def looks (o:IOper):List Nat:=(qh3 o.op).flatMap qEv ++ (match o.guard with | none=>[] | some g=>[g.1])
def qnj (x y:IOper):Bool:=match x.dst with
 | some d=>!(looks y).contains d && (match y.dst with | some d'=>decide (d ≠ d') | none=>true)
 | none=>true
def qur (x y:IOper):Bool:=qnj x y && qnj y x
section
variable {IP:Prog} {call:qaL}
theorem qih {e e':Env} {o:Opd} (h:∀ t,t ∈ qEv o -> qbe e t = qbe e' t):qau e o = qau e' o:=by
 cases o with
 | t n=>exact h n (by simp [qEv])
 | _=>rfl
theorem qFI {ev ev':Opd -> AV} {ps:List (Nat × Nat × Opd)} (h:∀ x ∈ ps.map (fun p=>p.2.2),ev x = ev' x):(ps.map fun p=>(p.1,p.2.1,ev p.2.2)) = ps.map fun p=>(p.1,p.2.1,ev' p.2.2):=
 List.map_congr_left fun p hp=>by rw [h p.2.2 (List.mem_map.2 ⟨p,hp,rfl⟩)]
theorem qrh {nx:Nat} {ev ev':Opd -> AV} {h:Heap} {io:IOp} (hev:∀ x ∈ qh3 io,ev x = ev' x):opS IP call nx ev h io = opS IP call nx ev' h io:=by
 cases io
 case build z ps=>
  have:=qFI (ps:=ps) (ev:=ev) (ev':=ev') (by simpa [qh3] using hev)
  simp only [opS,this]
 case bslice sz z n ps=>
  have:(ps.map fun p=>ev p.2) = ps.map fun p=>ev' p.2:=List.map_congr_left fun p hp=>hev p.2 (by simp only [qh3]; exact List.mem_map.2 ⟨p,hp,rfl⟩)
  simp only [opS,this]
 case mkf f cap=>
  have:cap.map ev = cap.map ev':=List.map_congr_left fun x hx=>hev x (by simpa [qh3] using hx)
  simp only [opS,this]
 case mx xs=>
  have:xs.map ev = xs.map ev':=List.map_congr_left fun x hx=>hev x (by simpa [qh3] using hx)
  simp only [opS,this]
 case mn xs=>
  have:xs.map ev = xs.map ev':=List.map_congr_left fun x hx=>hev x (by simpa [qh3] using hx)
  simp only [opS,this]
 case call f xs=>
  have:xs.map ev = xs.map ev':=List.map_congr_left fun x hx=>hev x (by simpa [qh3] using hx)
  simp only [opS,this]
 case callv f xs=>
  have:xs.map ev = xs.map ev':=List.map_congr_left fun x hx=>hev x (by simp [qh3,hx])
  have h2:=hev f (by simp [qh3])
  simp only [opS,this,h2]
 case invk tbl f xs=>
  have:xs.map ev = xs.map ev':=List.map_congr_left fun x hx=>hev x (by simp [qh3,hx])
  have h2:=hev f (by simp [qh3])
  simp only [opS,this,h2]
 case slc sz x lo hi=>
  have h1:=hev x (by simp [qh3])
  have h2:qa3 ev lo = qa3 ev' lo:=by cases lo with
   | none=>rfl
   | some y=>simp [qa3,hev y (by simp [qh3,qxk])]
  have h3:qa3 ev hi = qa3 ev' hi:=by cases hi with
   | none=>rfl
   | some y=>simp [qa3,hev y (by simp [qh3,qxk])]
  simp only [opS,h1,h2,h3]
 case slcs x lo hi=>
  have h1:=hev x (by simp [qh3])
  have h2:qa3 ev lo = qa3 ev' lo:=by cases lo with
   | none=>rfl
   | some y=>simp [qa3,hev y (by simp [qh3,qxk])]
  have h3:qa3 ev hi = qa3 ev' hi:=by cases hi with
   | none=>rfl
   | some y=>simp [qa3,hev y (by simp [qh3,qxk])]
  simp only [opS,h1,h2,h3]
 all_goals
  simp only [qh3,List.mem_cons,List.not_mem_nil,or_false,forall_eq_or_imp,forall_eq] at hev
  simp only [opS,hev]
theorem qk3 {h h':Heap}:∀ {r:List Nat},(∀ q,q ∈ r -> qad h q = qad h' q) -> sub h r = sub h' r
 | [],_=>rfl
 | i :: r,hq=>by
  simp only [sub,hq i (by simp),qk3 (r:=r) fun q hm=>hq q (by simp [hm])]
theorem qhf {q:Nat} {b:Blk}:∀ {out:Heap},qad out q = some b -> ∃ p ∈ out,p.2 = b
 | [],hl=>by simp [qad] at hl
 | (j,c) :: out,hl=>by
  simp only [qad] at hl
  by_cases e:q = j
  ·rw [if_pos e] at hl
   exact ⟨(j,c),by simp,Option.some.inj hl⟩
  ·rw [if_neg e] at hl
   obtain ⟨p,hp,he⟩:=qhf hl
   exact ⟨p,by simp [hp],he⟩
theorem qeI {h h':Heap}:∀ (n:Nat) (todo seen r:List Nat),qa8 n h todo seen = some r -> (∀ q,q ∈ r -> qad h q = qad h' q) -> (∀ i b,i ∈ r -> qad h i = some b -> ∀ j,j ∈ qr7 b -> j ∈ r \/ (qad h j = none /\ qad h' j = none)) ->
  (∀ i,i ∈ todo -> i ∈ r \/ (qad h i = none /\ qad h' i = none)) -> (∀ i,i ∈ r -> ∃ b,qad h i = some b) -> qa8 n h' todo seen = some r
 | n,[],seen,r,hr,_,_,_,_=>by cases n <;> simpa [qa8] using hr
 | 0,_ :: _,seen,r,hr,_,_,_,_=>by simp [qa8] at hr
 | n + 1,i :: todo,seen,r,hr,hq,hcl,ht,hex=>by
  simp only [qa8] at hr ⊢
  by_cases hc:seen.contains i = true
  ·rw [if_pos hc] at hr ⊢
   exact qeI n _ _ _ hr hq hcl (fun j hj=>ht j (by simp [hj])) hex
  ·rw [if_neg hc] at hr ⊢
   rcases ht i (by simp) with hi | ⟨h1,h2⟩
   ·obtain ⟨b,hb⟩:=hex i hi
    rw [<- hq i hi,hb]
    rw [hb] at hr
    refine qeI n _ _ _ hr hq hcl (fun j hj=>?_) hex
    rcases List.mem_append.1 hj with hj | hj
    ·exact ht j (by simp [hj])
    ·exact hcl i b hi hb j hj
   ·rw [h1] at hr
    rw [h2]
    exact qeI n _ _ _ hr hq hcl (fun j hj=>ht j (by simp [hj])) hex
theorem qsS {h:Heap} {p:Nat × Blk}:∀ {r:List Nat},p ∈ sub h r -> ∃ i,i ∈ r /\ qad h i = some p.2
 | [],hp=>by simp [sub] at hp
 | i :: r,hp=>by
  simp only [sub] at hp
  split at hp
  ·rename_i b hb
   rcases List.mem_cons.1 hp with rfl | hp
   ·exact ⟨i,by simp,hb⟩
   ·obtain ⟨j,hj,h1⟩:=qsS hp; exact ⟨j,by simp [hj],h1⟩
  ·obtain ⟨j,hj,h1⟩:=qsS hp; exact ⟨j,by simp [hj],h1⟩
theorem qGb {h:Heap} {ids r:List Nat} {w:Bool} {v:AV} {out:Heap} {q:Nat} (hn:qad h q = none) (hq:q ∈ ids \/ ∃ i b,i ∈ r /\ qad h i = some b /\ q ∈ qr7 b):q ∈ lost h ids (.did r w v out):=by
 simp only [lost,List.mem_filter,List.mem_append,List.mem_flatMap,hn,Option.isNone_none,and_true]
 rcases hq with hq | ⟨i,b,hi,hb,hq⟩
 ·exact .inl hq
 ·obtain ⟨p,hp,he⟩:=qhf (show qad (sub h r) i = some b by rw [qa6,if_pos hi,hb])
  exact .inr ⟨p,hp,by rw [he]; exact hq⟩
theorem qiy (h:Heap) (ids:List Nat) (s:Step):reached (mark (lost h ids s) s) = reached s ++ lost h ids s:=by
 cases s with
 | did r w v out=>cases hl:lost h ids (.did r w v out) <;> simp [mark,reached]
 | skip=>simp [lost,mark,reached]
 | pan r v out=>simp [lost,mark,reached]
theorem qm8 (g:List Nat) (s:Step):wrote (mark g s) = wrote s:=by
 cases g <;> cases s <;> rfl
theorem qhk {h h':Heap} (hq:∀ q,qad h q = qad h' q):∀ (n:Nat) (todo seen:List Nat),qa8 n h todo seen = qa8 n h' todo seen
 | n,[],seen=>by cases n <;> simp [qa8]
 | 0,_ :: _,seen=>by simp [qa8]
 | n + 1,i :: todo,seen=>by
  simp only [qa8,hq i]
  split
  ·exact qhk hq n _ _
  ·split
   ·exact qhk hq n _ _
   ·exact qhk hq n _ _
theorem qli {e e':Env} {g:Option (Nat × Bool)} (h:∀ x,g = some x -> qbe e x.1 = qbe e' x.1):qfB e g = qfB e' g:=by
 cases g with
 | none=>rfl
 | some x=>simp only [qfB,h x rfl]
theorem qfn {o:IOper} {x:Opd} (hx:x ∈ qh3 o.op) {t:Nat} (ht:t ∈ qEv x):t ∈ looks o:=by
 simp only [looks,List.mem_append,List.mem_flatMap]
 exact .inl ⟨x,hx,ht⟩
theorem qfm {o:IOper} {x:Nat × Bool} (hx:o.guard = some x):x.1 ∈ looks o:=by
 simp [looks,hx]
theorem qBy {e e':Env} {o:IOper} (he:∀ t,t ∈ looks o -> qbe e t = qbe e' t):(qh3 o.op).map (qau e) = (qh3 o.op).map (qau e'):=
 List.map_congr_left fun x hx=>qih fun t ht=>he t (qfn hx ht)
theorem qrv {e e':Env} {o:IOper} (he:∀ t,t ∈ looks o -> qbe e t = qbe e' t):qxI e o.op = qxI e' o.op:=by
 have h:=qBy he
 unfold qxI
 split <;> first | rfl | rw [h]
theorem qgK {nx:Nat} {o:IOper} {e e':Env} {h h':Heap} {s:Step} (he:∀ t,t ∈ looks o -> qbe e t = qbe e' t) (hs:qbt IP call nx o e h = some s) (ht:tidy nx (qbA e o) h s = true) (hq:∀ q,q ∈ reached s ++ lost h (qbA e o) s -> qad h q = qad h' q) :
  qbt IP call nx o e' h' = some s /\ tidy nx (qbA e' o) h' s = true /\ lost h' (qbA e' o) s = lost h (qbA e o) s:=by
 have hw:qfB e o.guard = qfB e' o.guard:=qli fun x hx=>he x.1 (qfm hx)
 have hids:=qrv he
 have hids':qbA e o = qbA e' o:=hids
 rw [<- hids']
 simp only [qbt] at hs ⊢
 rw [<- hw,<- hids]
 split at hs
 ·cases hs
 ·cases hs; exact ⟨rfl,rfl,rfl⟩
 ·split at hs
  ·cases hs
  ·rename_i r hr
   have hshape:∃ w v out,s = .did r w v out:=by
    split at hs
    ·cases hs
    ·cases hs; exact ⟨_,_,_,rfl⟩
    ·cases hs; simp [tidy] at ht
   obtain ⟨w,v,out,rfl⟩:=hshape
   simp only [tidy,Bool.and_eq_true,whole,List.all_eq_true,qgx,Bool.or_eq_true,List.contains_iff_mem,Option.isNone_iff_eq_none] at ht
   obtain ⟨⟨hin,hcl⟩,hins⟩:=ht
   simp only [reached] at hq
   have hq1:∀ q,q ∈ r -> qad h q = qad h' q:=fun q hm=>hq q (by simp [hm])
   have hq2:∀ q,qad h q = none -> (q ∈ qbA e o \/ ∃ i b,i ∈ r /\ qad h i = some b /\ q ∈ qr7 b) -> qad h' q = none:=fun q hn hm=>by
    rw [<- hq q (List.mem_append.2 (.inr (qGb hn hm)))]; exact hn
   have hex:∀ i,i ∈ r -> ∃ b,qad h i = some b:=fun i hi=>by
    have:=hcl i hi
    split at this
    ·rename_i b hb; exact ⟨b,hb⟩
    ·cases this
   have hcl':∀ i b,i ∈ r -> qad h i = some b -> ∀ j,j ∈ qr7 b -> j ∈ r \/ (qad h j = none /\ qad h' j = none):=fun i b hi hb j hj=>by
    have:=hcl i hi
    rw [hb] at this
    simp only [List.all_eq_true,qgx,Bool.or_eq_true,List.contains_iff_mem,Option.isNone_iff_eq_none] at this
    rcases this j hj with h1 | h1
    ·exact .inl h1
    ·exact .inr ⟨h1,hq2 j h1 (.inr ⟨i,b,hi,hb,hj⟩)⟩
   have hin':∀ i,i ∈ qbA e o -> i ∈ r \/ (qad h i = none /\ qad h' i = none):=fun i hi=>by
    rcases hin i hi with h1 | h1
    ·exact .inl h1
    ·exact .inr ⟨h1,hq2 i h1 (.inl hi)⟩
   have hr':=qeI qbl _ [] r hr hq1 hcl' hin' hex
   have hsub:=qk3 (r:=r) hq1
   have hsame:∀ j,(j ∈ r \/ (qad h j = none /\ qad h' j = none)) -> qad h j = qad h' j:=fun j hj=>by
    rcases hj with h1 | ⟨h1,h2⟩
    ·exact hq1 j h1
    ·rw [h1,h2]
   rw [hr']
   simp only []
   rw [<- hsub,qrh (ev:=qau e') (ev':=qau e) fun x hx=>(qih fun t ht=>he t (qfn hx ht)).symm]
   refine ⟨hs,?_,?_⟩
   ·simp only [tidy,Bool.and_eq_true,whole,List.all_eq_true,qgx,Bool.or_eq_true,List.contains_iff_mem,Option.isNone_iff_eq_none]
    refine ⟨⟨fun i hi=>(hin' i hi).imp id fun h1=>h1.2,fun i hi=>?_⟩,hins⟩
    obtain ⟨b,hb⟩:=hex i hi
    rw [<- hq1 i hi,hb]
    simp only [List.all_eq_true,qgx,Bool.or_eq_true,List.contains_iff_mem,Option.isNone_iff_eq_none]
    exact fun j hj=>(hcl' i b hi hb j hj).imp id fun h1=>h1.2
   ·simp only [lost]
    rw [<- hsub]
    refine List.filter_congr fun j hj=>?_
    rw [hsame j]
    rcases List.mem_append.1 hj with hj | hj
    ·exact hin' j hj
    ·obtain ⟨p,hp,hj⟩:=List.mem_flatMap.1 hj
     obtain ⟨i,hi,hb⟩:=qsS hp
     exact hcl' i p.2 hi hb j hj
def RunsTo (IP:Prog) (call:qaL) (ios:List IOper) (log:List Step) (base:Nat):List Nat -> Env -> Heap -> Env -> Heap -> Prop
 | [],e,h,e',h'=>(∀ t,qbe e t = qbe e' t) /\ ∀ q,qad h q = qad h' q
 | i :: rem,e,h,e',h'=>∃ io s,ios[i]? = some io /\ (∃ s0,log[i]? = some s0 /\ reached s ++ lost h (qbA e io) s = reached s0 /\ wrote s = wrote s0) /\ qbt IP call (base + 16 * i) io e h = some s /\ tidy (base + 16 * i) (qbA e io) h s = true /\
   RunsTo IP call ios log base rem (qaY e io.dst s) (qaD h s) e' h'
theorem qpn {e e':Env} (he:∀ t,qbe e t = qbe e' t) (d:Option Nat) (s:Step):∀ t,qbe (qaY e d s) t = qbe (qaY e' d s) t:=by
 intro t
 cases s <;> cases d <;> simp [qaY,qs3,qbe,he]
theorem qil {h h':Heap} (hh:∀ q,qad h q = qad h' q) (s:Step):∀ q,qad (qaD h s) q = qad (qaD h' s) q:=by
 intro q
 cases s with
 | skip=>exact hh q
 | did r w v out=>cases w <;> simp [qaD,qaN,qaZ,hh q]
 | pan r v out=>simp [qaD,qaN,qaZ,hh q]
theorem RunsTo.congr {ios:List IOper} {log:List Step} {base:Nat}:∀ {rem:List Nat} {e1 e2:Env} {h1 h2:Heap} {e':Env} {h':Heap},(∀ t,qbe e1 t = qbe e2 t) -> (∀ q,qad h1 q = qad h2 q) -> RunsTo IP call ios log base rem e1 h1 e' h' -> RunsTo IP call ios log base rem e2 h2 e' h'
 | [],e1,e2,h1,h2,e',h',he,hh,hr=>⟨fun t=>(he t).symm.trans (hr.1 t),fun q=>(hh q).symm.trans (hr.2 q)⟩
 | i :: rem,e1,e2,h1,h2,e',h',he,hh,hr=>by
  obtain ⟨io,s,h3,h4,hs,ht,hr⟩:=hr
  obtain ⟨hs',ht',hl'⟩:=qgK (fun t _=>he t) hs ht (fun q _=>hh q)
  rw [<- hl'] at h4
  exact ⟨io,s,h3,h4,hs',ht',hr.congr (qpn he _ _) (qil hh _)⟩
theorem qiu {q:Nat} {b:Blk}:∀ {out:Heap},qad out q = some b -> ∃ p ∈ out,p.1 = q
 | [],hl=>by simp [qad] at hl
 | (j,c) :: out,hl=>by
  simp only [qad] at hl
  by_cases e:q = j
  ·exact ⟨(j,c),by simp,e.symm⟩
  ·rw [if_neg e] at hl
   obtain ⟨p,hp,he⟩:=qiu hl
   exact ⟨p,by simp [hp],he⟩
theorem qol {nx:Nat} {ids:List Nat} {h:Heap} {s:Step} (ht:tidy nx ids h s = true) {q:Nat} (hq:q ∈ reached s):∃ b,qad h q = some b:=by
 cases s with
 | skip=>simp [reached] at hq
 | pan r v out=>simp [tidy] at ht
 | did r w v out=>
  simp only [tidy,Bool.and_eq_true,whole,List.all_eq_true] at ht
  have:=ht.1.2 q hq
  split at this
  ·rename_i b hb; exact ⟨b,hb⟩
  ·cases this
theorem qc1 {nx:Nat} {ids:List Nat} {h:Heap} {s:Step} (ht:tidy nx ids h s = true) {q:Nat} (hq:q ∉ reached s \/ wrote s = false /\ ∃ b,qad h q = some b) (hnew:¬ (nx <= q /\ q < nx + 16)):qad (qaD h s) q = qad h q:=by
 cases s with
 | skip=>rfl
 | pan r v out=>simp [tidy] at ht
 | did r w v out=>
  simp only [tidy,Bool.and_eq_true,inside,List.all_eq_true] at ht
  have hout:q ∉ r -> qad out q = none:=by
   intro hqr
   cases hl:qad out q with
   | none=>rfl
   | some b=>
    obtain ⟨p,hp,he⟩:=qiu hl
    have:=ht.2 p hp
    rw [he] at this
    simp only [Bool.or_eq_true,List.contains_iff_mem,Bool.and_eq_true,decide_eq_true_eq] at this
    rcases this with h1 | h1
    ·exact absurd h1 hqr
    ·exact absurd h1 hnew
  simp only [reached,wrote] at hq
  cases w with
  | true=>
   have hqr:q ∉ r:=by simpa using hq
   simp [qaD,qaN,qaZ,hqr,hout hqr]
  | false=>
   simp only [qaD,Bool.false_eq_true,if_false,qaN,qd4]
   by_cases hqr:q ∈ r
   ·simp [hqr]
   ·simp [hqr,hout hqr]
structure Good (ios:List IOper) (log:List Step) (eF:Env) (base p i:Nat):Prop where
 apart:∀ x y,ios[p]? = some x -> ios[i]? = some y -> qur x y = true
 calm:∀ s s',log[p]? = some s -> log[i]? = some s' -> clash s s' = false \/ qny ios eF p i = true
 newp:∀ s,log[i]? = some s -> ∀ q,q ∈ reached s -> ¬ (base + 16 * p <= q /\ q < base + 16 * p + 16)
 newi:∀ s,log[p]? = some s -> ∀ q,q ∈ reached s -> ¬ (base + 16 * i <= q /\ q < base + 16 * i + 16)
 ne:p ≠ i
theorem qgh {x y:IOper} (h:qur x y = true):(∀ d,x.dst = some d -> d ∉ looks y /\ y.dst ≠ some d) /\ (∀ d,y.dst = some d -> d ∉ looks x):=by
 simp only [qur,Bool.and_eq_true,qnj] at h
 obtain ⟨h1,h2⟩:=h
 refine ⟨fun d hd=>?_,fun d hd=>?_⟩
 ·simp only [hd,Bool.and_eq_true] at h1
  refine ⟨by simpa using h1.1,fun he=>?_⟩
  simp [he] at h1
 ·simp only [hd,Bool.and_eq_true] at h2
  simpa using h2.1
theorem qbX {e:Env} {d:Option Nat} {s:Step} {t:Nat} (h:d ≠ some t):qbe (qaY e d s) t = qbe e t:=by
 cases s <;> cases d <;> simp_all [qaY,qs3,qbe]
 all_goals intro he; exact absurd he.symm h
theorem qNt {a b:List Nat} (h:qE2 a b = true) {q:Nat} (ha:q ∈ a) (hb:q ∈ b):False:=by
 simp only [qE2,List.all_eq_true] at h
 have:=h q ha
 simp [hb] at this
theorem qjA {h h':Heap} {s:Step} {q:Nat} (hq:qad h q = qad h' q):qad (qaD h s) q = qad (qaD h' s) q:=by
 cases s with
 | skip=>exact hq
 | did r w v out=>cases w <;> simp [qaD,qaN,qaZ,hq]
 | pan r v out=>simp [qaD,qaN,qaZ,hq]
theorem qsh {e e':Env} {d:Option Nat} {s:Step} {t:Nat} (hq:qbe e t = qbe e' t):qbe (qaY e d s) t = qbe (qaY e' d s) t:=by
 cases s <;> cases d <;> simp [qaY,qs3,qbe,hq]
theorem RunsTo.keepE {ios:List IOper} {log:List Step} {base n:Nat}:∀ {L:List Nat} {e:Env} {h:Heap} {e':Env} {h':Heap},RunsTo IP call ios log base L e h e' h' -> (∀ j ∈ L,∀ o,ios[j]? = some o -> o.dst ≠ some n) -> qbe e n = qbe e' n
 | [],e,h,e',h',hr,_=>hr.1 n
 | i :: L,e,h,e',h',hr,hn=>by
  obtain ⟨x,s,hx,_,_,_,hr⟩:=hr
  have:=hr.keepE fun j hj=>hn j (by simp [hj])
  rw [<- this,qbX (hn i (by simp) x hx)]
theorem qq9 {nx:Nat} {ks:Key} {m k v:Opd} {e:Env} {h:Heap} {s:Step} (hs:qbt IP call nx ⟨none,.mupd ks m k v,none⟩ e h = some s) :
  ∃ id kvs kvs1,qau e m = .mref id /\ idsA (qau e k) = [] /\ idsA (qau e v) = [] /\ qad h id = some (.mp kvs) /\ isKey ks (qau e k) = true /\ qxa ks kvs (qau e k) (nz (qau e v)) = some kvs1 /\ s = .did [id] true unit (qbu (sub h [id]) id (.mp kvs1)):=by
 simp only [qbt,qfB] at hs
 split at hs
 ·cases hs
 ·rename_i r hr
  split at hs
  ·cases hs
  ·rename_i v0 out b hop
   cases hs
   simp only [opS] at hop
   split at hop
   ·rename_i id hm
    split at hop
    ·rename_i kvs hk hv hl
     split at hop
     ·rename_i kvs1 hput'
      simp only [Option.some.injEq,Prod.mk.injEq,Res.ret.injEq] at hop
      obtain ⟨rfl,rfl,rfl⟩:=hop
      split at hput'
      ·rename_i hkey
       have hids:qxI e (IOp.mupd ks m k v) = [id]:=by
        simp [qxI,qh3,idsA.idsL,hm,hk,hv,idsA]
       rw [hids] at hr
       rw [qa6] at hl
       split at hl
       ·have hr2:qa8 qbl h [id] [] = some [id]:=by
         simp [qbl,qa8,hl,qr7]
        rw [hr2] at hr
        cases hr
        exact ⟨id,kvs,kvs1,hm,hk,hv,hl,hkey,hput',rfl⟩
       ·cases hl
      ·cases hput'
     ·cases hop
    ·cases hop
   ·cases hop
  ·rename_i v0 out b hop
   exfalso
   simp only [opS] at hop
   split at hop
   ·split at hop
    ·split at hop
     ·simp at hop
     ·cases hop
    ·cases hop
   ·cases hop
theorem qvy {nx:Nat} {ks:Key} {m k v:Opd} {e:Env} {h:Heap} {id:Nat} {kvs kvs1:List (AV × AV)} (hm:qau e m = .mref id) (hk:idsA (qau e k) = []) (hv:idsA (qau e v) = []) (hl:qad h id = some (.mp kvs)) (hkey:isKey ks (qau e k) = true) (hp:qxa ks kvs (qau e k) (nz (qau e v)) = some kvs1) :
  qbt IP call nx ⟨none,.mupd ks m k v,none⟩ e h = some (.did [id] true unit (qbu (sub h [id]) id (.mp kvs1))) /\ tidy nx (qbA e ⟨none,.mupd ks m k v,none⟩) h (.did [id] true unit (qbu (sub h [id]) id (.mp kvs1))) = true:=by
 have hids:qxI e (IOp.mupd ks m k v) = [id]:=by
  simp [qxI,qh3,idsA.idsL,hm,hk,hv,idsA]
 have hr2:qa8 qbl h [id] [] = some [id]:=by
  simp [qbl,qa8,hl,qr7]
 have hl2:qad (sub h [id]) id = some (.mp kvs):=by rw [qa6]; simp [hl]
 constructor
 ·simp only [qbt,qfB,hids,hr2,opS,hm,hk,hv,hl2,hkey,if_true,hp]
 ·simp only [tidy,qbA,hids,Bool.and_eq_true,whole,inside,List.all_eq_true]
  refine ⟨⟨by simp [qgx],by simp [hl,qr7]⟩,fun p hp=>?_⟩
  have:p.1 = id:=by
   simp only [qbu,List.mem_cons] at hp
   rcases hp with rfl | hp
   ·rfl
   ·simp [sub,hl,qqk] at hp
  simp [this]
theorem qhh {ks:Key} {m k v:Opd} {e:Env} {h:Heap} {id:Nat} {kvs:List (AV × AV)} {w:Bool} {x:AV} {out:Heap} (hm:qau e m = .mref id) (hk:idsA (qau e k) = []) (hv:idsA (qau e v) = []) (hl:qad h id = some (.mp kvs)) :
  lost h (qbA e ⟨none,.mupd ks m k v,none⟩) (.did [id] w x out) = []:=by
 have hids:qxI e (IOp.mupd ks m k v) = [id]:=by
  simp [qxI,qh3,idsA.idsL,hm,hk,hv,idsA]
 simp [lost,qbA,hids,sub,hl,qr7]
theorem qge (h:Heap) (id:Nat) (b:Blk) (q:Nat):qad (qaD h (.did [id] true unit (qbu (sub h [id]) id b))) q = if q = id then some b else qad h q:=by
 simp only [qaD,if_true,qaN,qaP,qa6,qaZ]
 by_cases hq:q = id
 ·simp [hq]
 ·simp [hq]
theorem RunsTo.swapM {ios:List IOper} {log:List Step} {base p i:Nat} {rem:List Nat} {e:Env} {h:Heap} {e':Env} {h':Heap} {ks:Key} {m k v m' k' v':Opd} (hp:ios[p]? = some ⟨none,.mupd ks m k v,none⟩) (hi:ios[i]? = some ⟨none,.mupd ks m' k' v',none⟩)
  (hint:qkh ks = true) (hne:qa7 ks (qau e k) (qau e k') = some false) (hne':qa7 ks (qau e k') (qau e k) = some false)
  (hcl:∀ s s',log[p]? = some s -> log[i]? = some s' -> clash s s' = true) (hr:RunsTo IP call ios log base (p :: i :: rem) e h e' h'):RunsTo IP call ios log base (i :: p :: rem) e h e' h':=by
 obtain ⟨x,s,hx,⟨t,hlt,hf1,hf2⟩,hs,hts,y,s',hy,⟨t',hlt',hf1',hf2'⟩,hs',hts',hr⟩:=hr
 rw [hp] at hx; cases hx
 rw [hi] at hy; cases hy
 obtain ⟨id,kvs,kvs1,a1,a2,a3,a4,a5,a6,rfl⟩:=qq9 hs
 have hE:qaY e none (Step.did [id] true unit (qbu (sub h [id]) id (.mp kvs1))) = e:=rfl
 rw [hE] at hs' hts' hf1'
 obtain ⟨id',kvs',kvs2,b1,b2,b3,b4,b5,b6,rfl⟩:=qq9 hs'
 rw [qhh a1 a2 a3 a4,List.append_nil] at hf1
 rw [qhh b1 b2 b3 b4,List.append_nil] at hf1'
 have hid:id' = id:=by
  have:=hcl t t' hlt hlt'
  simp only [clash,Bool.and_eq_true,Bool.not_eq_true'] at this
  have h2:=this.2
  rw [<- hf1,<- hf1'] at h2
  have h3:qE2 [id] [id'] = false:=h2
  simp only [qE2,List.all_eq_false] at h3
  obtain ⟨q,hq,h3⟩:=h3
  rw [List.mem_singleton] at hq
  subst hq
  simp at h3
  exact h3.symm
 subst hid
 rw [qge,if_pos rfl] at b4
 cases b4
 obtain ⟨kk,c1,c2⟩:=qeE hne hint
 simp only [qxa,hint,if_true] at a6 b6
 obtain ⟨kvs3,d1,d2⟩:=qxb c1 c2 hne hne' a6 b6
 have d1':qxa ks kvs (qau e k') (nz (qau e v')) = some kvs3:=by simp only [qxa,hint,if_true,d1]
 have d2':qxa ks kvs3 (qau e k) (nz (qau e v)) = some kvs2:=by simp only [qxa,hint,if_true,d2]
 obtain ⟨r1,r2⟩:=qvy (IP:=IP) (call:=call) (nx:=base + 16 * i) b1 b2 b3 a4 b5 d1'
 have hl3:qad (qaD h (.did [id'] true unit (qbu (sub h [id']) id' (.mp kvs3)))) id' = some (.mp kvs3):=by rw [qge,if_pos rfl]
 obtain ⟨r3,r4⟩:=qvy (IP:=IP) (call:=call) (nx:=base + 16 * p) a1 a2 a3 hl3 a5 d2'
 have l1:[id'] ++ lost h (qbA e ⟨none,.mupd ks m' k' v',none⟩) (.did [id'] true unit (qbu (sub h [id']) id' (.mp kvs3))) = reached t':=by rw [qhh b1 b2 b3 a4,List.append_nil]; exact hf1'
 have l2:[id'] ++ lost (qaD h (.did [id'] true unit (qbu (sub h [id']) id' (.mp kvs3)))) (qbA e ⟨none,.mupd ks m k v,none⟩) (.did [id'] true unit (qbu (sub (qaD h (.did [id'] true unit (qbu (sub h [id']) id' (.mp kvs3)))) [id']) id' (.mp kvs2))) = reached t:=by rw [qhh a1 a2 a3 hl3,List.append_nil]; exact hf1
 refine ⟨⟨none,.mupd ks m' k' v',none⟩,.did [id'] true unit (qbu (sub h [id']) id' (.mp kvs3)),hi,⟨t',hlt',l1,hf2'⟩,r1,r2,⟨none,.mupd ks m k v,none⟩,
  .did [id'] true unit (qbu (sub (qaD h (.did [id'] true unit (qbu (sub h [id']) id' (.mp kvs3)))) [id']) id' (.mp kvs2)),hp,⟨t,hlt,l2,hf2⟩,r3,r4,hr.congr (fun t=>rfl) fun q=>?_⟩
 simp only [qge]
 split <;> rfl
theorem RunsTo.swap {ios:List IOper} {log:List Step} {base p i:Nat} {rem:List Nat} {e:Env} {h:Heap} {e':Env} {h':Heap} (g:Good ios log e' base p i) (hkp:∀ ks m k v,ios[p]? = some ⟨none,.mupd ks m k v,none⟩ -> qw5 ios p k = true -> qau e k = qau e' k)
  (hki:∀ ks m k v,ios[i]? = some ⟨none,.mupd ks m k v,none⟩ -> qw5 ios i k = true -> qau e k = qau e' k) (hr:RunsTo IP call ios log base (p :: i :: rem) e h e' h') :
  RunsTo IP call ios log base (i :: p :: rem) e h e' h':=by
 have hr0:=hr
 obtain ⟨x,s,hx,⟨t,hls,hf1,hf2⟩,hs,hts,y,s',hy,⟨t',hls',hf1',hf2'⟩,hs',hts',hr⟩:=hr
 obtain ⟨ha1,ha2⟩:=qgh (g.apart x y hx hy)
 have hcc:clash t t' = ((wrote s || wrote s') && !qE2 (reached s ++ lost h (qbA e x) s) (reached s' ++ lost (qaD h s) (qbA (qaY e x.dst s) y) s')):=by simp only [clash,hf1,hf2,hf1',hf2']
 by_cases hclash:clash t t' = true
 ·
  have hmp:qny ios e' p i = true:=by
   rcases g.calm t t' hls hls' with h | h
   ·rw [hclash] at h; cases h
   ·exact h
  unfold qny at hmp
  split at hmp
  ·rename_i ks m k v ks' m' k' v' h1 h2
   simp only [Bool.and_eq_true,decide_eq_true_eq] at hmp
   obtain ⟨⟨⟨⟨⟨q1,rfl⟩,q2⟩,q3⟩,q4⟩,q5⟩:=hmp
   rw [<- hkp ks m k v h1 q2,<- hki ks m' k' v' h2 q3] at q4 q5
   refine RunsTo.swapM h1 h2 q1 ?_ ?_ (fun u u' hu hu'=>?_) hr0
   ·split at q4
    ·assumption
    ·cases q4
   ·split at q5
    ·assumption
    ·cases q5
   ·rw [hls] at hu; cases hu
    rw [hls'] at hu'; cases hu'
    exact hclash
  ·cases hmp
 have hcl:clash t t' = false:=by simpa using hclash
 rw [hcc] at hcl
 simp only [Bool.and_eq_false_iff,Bool.or_eq_false_iff] at hcl
 have hdj:∀ q,q ∈ reached s ++ lost h (qbA e x) s -> q ∈ reached s' ++ lost (qaD h s) (qbA (qaY e x.dst s) y) s' -> wrote s = false /\ wrote s' = false:=fun q h1 h2=>by
  rcases hcl with h3 | h3
  ·exact h3
  ·exact (qNt (by simpa using h3) h1 h2).elim
 have hnp:∀ q,q ∈ reached s' ++ lost (qaD h s) (qbA (qaY e x.dst s) y) s' -> ¬ (base + 16 * p <= q /\ q < base + 16 * p + 16):=fun q hq=>g.newp t' hls' q (hf1' ▸ hq)
 have hni:∀ q,q ∈ reached s ++ lost h (qbA e x) s -> ¬ (base + 16 * i <= q /\ q < base + 16 * i + 16):=fun q hq=>g.newi t hls q (hf1 ▸ hq)
 have hne:=g.ne
 have inA:∀ {q:Nat},q ∈ reached s -> q ∈ reached s ++ lost h (qbA e x) s:=fun hq=>List.mem_append.2 (.inl hq)
 have inB:∀ {q:Nat},q ∈ reached s' -> q ∈ reached s' ++ lost (qaD h s) (qbA (qaY e x.dst s) y) s':=fun hq=>List.mem_append.2 (.inl hq)
 have hkeep:∀ q,q ∈ reached s' ++ lost (qaD h s) (qbA (qaY e x.dst s) y) s' -> qad (qaD h s) q = qad h q:=by
  intro q hq
  refine qc1 hts ?_ (hnp q hq)
  by_cases hqs:q ∈ reached s
  ·exact .inr ⟨(hdj q (inA hqs) hq).1,qol hts hqs⟩
  ·exact .inl hqs
 obtain ⟨hs1,ht1,hl1⟩:=qgK (e':=e) (h':=h) (fun t ht=>qbX fun hd=>(ha1 t hd).1 ht) hs' hts' hkeep
 have hkeep2:∀ q,q ∈ reached s ++ lost h (qbA e x) s -> qad (qaD h s') q = qad h q:=by
  intro q hq
  refine qc1 ht1 ?_ (hni q hq)
  by_cases hqs:q ∈ reached s'
  ·exact .inr ⟨(hdj q hq (inB hqs)).2,qol ht1 hqs⟩
  ·exact .inl hqs
 obtain ⟨hs2,ht2,hl2⟩:=qgK (e':=qaY e y.dst s') (h':=qaD h s') (fun t ht=>(qbX fun hd=>ha2 t hd ht).symm) hs hts fun q hq=>(hkeep2 q hq).symm
 refine ⟨y,s',hy,⟨t',hls',by rw [hl1]; exact hf1',hf2'⟩,hs1,ht1,x,s,hx,⟨t,hls,by rw [hl2]; exact hf1,hf2⟩,hs2,ht2,hr.congr (fun t=>?_) fun q=>?_⟩
 ·by_cases h1:x.dst = some t
  ·have h2:=(ha1 t h1).2
   rw [qbX h2]
   cases s <;> simp [qaY,h1,qs3,qbe]
   ·simp [tidy] at hts
  ·rw [qbX h1 (e:=qaY e y.dst s')]
   exact qsh (qbX h1)
 ·by_cases h1:q ∈ reached s /\ wrote s = true \/ (base + 16 * p <= q /\ q < base + 16 * p + 16)
  ·
   have h2:q ∉ reached s':=by
    rcases h1 with ⟨h1,hw⟩ | h1
    ·intro hq
     have:=(hdj q (inA h1) (inB hq)).1
     rw [hw] at this; cases this
    ·exact fun hq=>hnp q (inB hq) h1
   have h3:¬ (base + 16 * i <= q /\ q < base + 16 * i + 16):=by
    rcases h1 with ⟨h1,_⟩ | h1
    ·exact hni q (inA h1)
    ·omega
   rw [qc1 hts' (.inl h2) h3]
   exact qjA (qc1 ht1 (.inl h2) h3).symm
  ·have h4:¬ (base + 16 * p <= q /\ q < base + 16 * p + 16):=fun h=>h1 (.inr h)
   have h5:q ∉ reached s \/ wrote s = false:=by
    by_cases hq:q ∈ reached s
    ·refine .inr ?_
     cases hw:wrote s with
     | false=>rfl
     | true=>exact absurd (.inl ⟨hq,hw⟩) h1
    ·exact .inl hq
   have hsame:∀ {g:Heap} {ids:List Nat} , tidy (base + 16 * p) ids g s = true -> qad (qaD g s) q = qad g q:=by
    intro g ids htg
    refine qc1 htg ?_ h4
    rcases h5 with h5 | h5
    ·exact .inl h5
    ·by_cases hq:q ∈ reached s
     ·exact .inr ⟨h5,qol htg hq⟩
     ·exact .inl hq
   rw [hsame ht2]
   exact qjA (hsame hts)
theorem qq0 {ios:List IOper} {i n:Nat} (h:qw5 ios i (.t n) = true) {j:Nat} (hj:i <= j) {o:IOper} (ho:ios[j]? = some o):o.dst ≠ some n:=by
 simp only [qw5,List.all_eq_true,Bool.not_eq_true',decide_eq_false_iff_not] at h
 refine h o (List.mem_of_getElem? (i:=j - i) ?_)
 rw [List.getElem?_drop,show i + (j - i) = j by omega]; exact ho
theorem RunsTo.front {ios:List IOper} {log:List Step} {base i:Nat} {post:List Nat} {e':Env} {h':Heap}:∀ {pre:List Nat} {e:Env} {h:Heap},(∀ p,p ∈ pre -> Good ios log e' base p i) -> (pre ++ i :: post).Pairwise (· < ·) -> RunsTo IP call ios log base (pre ++ i :: post) e h e' h' ->
  RunsTo IP call ios log base (i :: (pre ++ post)) e h e' h'
 | [],e,h,_,_,hr=>hr
 | p :: pre,e,h,hg,hw,hr=>by
  have hw0:=hw
  rw [List.cons_append,List.pairwise_cons] at hw
  obtain ⟨x,s,hx,hls,hs,hts,hr⟩:=hr
  have hfr:=hr.front (pre:=pre) (fun q hq=>hg q (by simp [hq])) hw.2
  have hfull:RunsTo IP call ios log base (p :: i :: (pre ++ post)) e h e' h':=⟨x,s,hx,hls,hs,hts,hfr⟩
  have hpi:p < i:=hw.1 i (by simp)
  refine RunsTo.swap (hg p (by simp)) (fun ks m k v h1 h2=>?_) (fun ks m k v h1 h2=>?_) hfull
  ·cases k with
   | t n=>
    simp only [qau]
    refine hfull.keepE fun j hj o ho=>qq0 h2 ?_ ho
    rcases List.mem_cons.1 hj with rfl | hj
    ·exact Nat.le_refl _
    ·exact Nat.le_of_lt (hw.1 j (by
      rcases List.mem_cons.1 hj with rfl | hj
      ·simp
      ·rcases List.mem_append.1 hj with hj | hj <;> simp [hj]))
   | _=>rfl
  ·cases k with
   | t n=>
    simp only [qau]
    have hpre:∀ j ∈ p :: pre,∀ o,ios[j]? = some o -> o.dst ≠ some n:=fun j hj o ho hd=>by
     have:=(qgh ((hg j hj).apart o _ ho h1)).1 n hd
     exact this.1 (by simp [looks,qh3,qEv])
    refine hfull.keepE fun j hj o ho=>?_
    rcases List.mem_cons.1 hj with rfl | hj
    ·exact hpre j (by simp) o ho
    ·rcases List.mem_cons.1 hj with rfl | hj
     ·rw [h1] at ho; cases ho; simp
     ·rcases List.mem_append.1 hj with hj | hj
      ·exact hpre j (by simp [hj]) o ho
      ·refine qq0 h2 (Nat.le_of_lt ?_) ho
       have:=(List.pairwise_append.1 hw0).2.1
       rw [List.pairwise_cons] at this
       exact this.1 j hj
   | _=>rfl
end
end Go.Eng
namespace Go.Eng
set_option linter.unusedSectionVars false
variable [Globs] [Dfs]
def nub:List Nat -> List Nat
 | []=>[]
 | x :: xs=>if (nub xs).contains x then nub xs else x :: nub xs
def qut:List Oper -> List (List Nat) -> List (List Nat)
 | [],acc=>acc
 | o :: os,acc=>qut os (acc ++ [nub ((o.after.toList.filter fun e=>Region.binds .any e).flatMap fun e=>e.on :: acc.getD e.on [])])
def qpp (ops:List Oper) (befs:List (List Nat)):Bool:=
 (List.range ops.length).all fun j=>match ops[j]? with
  | none=>true
  | some o=>
   ((befs.getD j []).all fun x=>o.after.toList.any fun e=>Region.binds .any e && (decide (x = e.on) || (befs.getD e.on []).contains x)) &&
   o.after.toList.all fun e=>!Region.binds .any e || decide (e.on < j)
def qdn (ios:List IOper) (befs:List (List Nat)):Bool:=
 (List.range ios.length).all fun j=>(List.range j).all fun i=>(befs.getD j []).contains i || match ios[i]?,ios[j]? with
  | some x,some y=>qur x y
  | _,_=>true
section
variable {P:Program} {hint:Nat -> Nat} {w:World} {I:Imm} {m:Names} {h:Heap} {nx:Nat} {e:Env} {a:Act} {IP:Prog} {call:qaL}
theorem qbv {ops:List Oper} {befs:List (List Nat)} (hb:qpp ops befs = true) {j:Nat} {o:Oper} (hj:ops[j]? = some o) :
  (∀ x,x ∈ befs.getD j [] -> ∃ e,e ∈ o.after.toList /\ Region.binds .any e = true /\ (x = e.on \/ x ∈ befs.getD e.on [])) /\ (∀ e,e ∈ o.after.toList -> Region.binds .any e = true -> e.on < j):=by
 simp only [qpp,List.all_eq_true,List.mem_range] at hb
 have hlt:j < ops.length:=(List.getElem?_eq_some_iff.1 hj).1
 have:=hb j hlt
 rw [hj] at this
 simp only [Bool.and_eq_true,List.all_eq_true,List.any_eq_true,Bool.or_eq_true,decide_eq_true_eq,List.contains_iff_mem,Bool.not_eq_true'] at this
 refine ⟨fun x hx=>?_,fun e he hbi=>?_⟩
 ·obtain ⟨e,he,h1,h2⟩:=this.1 x hx
  exact ⟨e,he,h1,h2⟩
 ·rcases this.2 e he with h1 | h1
  ·rw [hbi] at h1; cases h1
  ·exact h1
theorem qNO {ios:List IOper} {log:List Step} {befs:List (List Nat)} {base p i:Nat} (hap:qdn ios befs = true) {eF:Env} (hcalm:calm base befs ios eF log = true) (hlen:log.length = ios.length) (hpi:p < i) (hi:i < ios.length) (h1:p ∉ befs.getD i []) (h2:i ∉ befs.getD p []) :
  Good ios log eF base p i:=by
 simp only [qdn,List.all_eq_true,List.mem_range,Bool.or_eq_true,List.contains_iff_mem] at hap
 simp only [Eng.calm,List.all_eq_true,List.mem_range,Bool.or_eq_true,List.contains_iff_mem,Bool.and_eq_true,Bool.not_eq_true',decide_eq_true_eq] at hcalm
 have hnew:∀ (j k:Nat) s,log[j]? = some s -> k ∉ befs.getD j [] -> ∀ q,q ∈ reached s -> ¬ (base + 16 * k <= q /\ q < base + 16 * k + 16):=by
  intro j k s hj hk q hq hr
  have hlt:j < log.length:=(List.getElem?_eq_some_iff.1 hj).1
  have hd:log.getD j .skip = s:=by simp [List.getD_eq_getElem?_getD,hj]
  have:=(hcalm j hlt).2 q (by rw [hd]; exact hq)
  rcases this with h3 | h3
  ·omega
  ·have:(q - base) / 16 = k:=by omega
   rw [this] at h3
   exact hk h3
 refine ⟨fun x y hx hy=>?_,fun s s' hs hs'=>?_,fun s hs=>hnew i p s hs h1,fun s hs=>hnew p i s hs h2,by omega⟩
 ·rcases hap i hi p hpi with h3 | h3
  ·exact absurd h3 h1
  ·rw [hx,hy] at h3; exact h3
 ·rcases (hcalm i (by omega)).1 p hpi with (h3 | h3) | h3
  ·exact absurd h3 h1
  ·exact .inl (by simpa [List.getD_eq_getElem?_getD,hs,hs'] using h3)
  ·exact .inr h3
theorem qFO {ios:List IOper} {log:List Step} {befs:List (List Nat)} {base p i:Nat} (hap:qdn ios befs = true) {eF:Env} (hcalm:calm base befs ios eF log = true) (hpi:p < i) (hi:i < ios.length) (hil:i < log.length) (h1:p ∉ befs.getD i []) (h2:i ∉ befs.getD p []) :
  Good ios log eF base p i:=by
 simp only [qdn,List.all_eq_true,List.mem_range,Bool.or_eq_true,List.contains_iff_mem] at hap
 simp only [Eng.calm,List.all_eq_true,List.mem_range,Bool.or_eq_true,List.contains_iff_mem,Bool.and_eq_true,Bool.not_eq_true',decide_eq_true_eq] at hcalm
 have hnew:∀ (j k:Nat) s,log[j]? = some s -> k ∉ befs.getD j [] -> ∀ q,q ∈ reached s -> ¬ (base + 16 * k <= q /\ q < base + 16 * k + 16):=by
  intro j k s hj hk q hq hr
  have hlt:j < log.length:=(List.getElem?_eq_some_iff.1 hj).1
  have hd:log.getD j .skip = s:=by simp [List.getD_eq_getElem?_getD,hj]
  have:=(hcalm j hlt).2 q (by rw [hd]; exact hq)
  rcases this with h3 | h3
  ·omega
  ·have:(q - base) / 16 = k:=by omega
   rw [this] at h3
   exact hk h3
 refine ⟨fun x y hx hy=>?_,fun s s' hs hs'=>?_,fun s hs=>hnew i p s hs h1,fun s hs=>hnew p i s hs h2,by omega⟩
 ·rcases hap i hi p hpi with h3 | h3
  ·exact absurd h3 h1
  ·rw [hx,hy] at h3; exact h3
 ·rcases (hcalm i hil).1 p hpi with (h3 | h3) | h3
  ·exact absurd h3 h1
  ·exact .inl (by simpa [List.getD_eq_getElem?_getD,hs,hs'] using h3)
  ·exact .inr h3
theorem qhl {ios:List IOper} {base:Nat}:∀ (suf:List IOper) (i:Nat) (e:Env) (h:Heap) (log:List Step) (e':Env) (h':Heap) (log':List Step),ios.drop i = suf -> log.length = i -> qck IP call base i suf e h log = some (none,e',h',log') ->
  (∃ more,log' = log ++ more) /\ log'.length = i + suf.length /\ RunsTo IP call ios log' base (List.range' i suf.length) e h e' h'
 | [],i,e,h,log,e',h',log',_,hl,hr=>by
  simp [qck] at hr
  obtain ⟨rfl,rfl,rfl⟩:=hr
  exact ⟨⟨[],by simp⟩,by simpa using hl,fun _=>rfl,fun _=>rfl⟩
 | io :: suf,i,e,h,log,e',h',log',hd,hl,hr=>by
  have hios:ios[i]? = some io:=by
   have h0:=congrArg (·[0]?) hd
   simpa using h0
  have hdrop:ios.drop (i + 1) = suf:=by
   have h0:=congrArg (List.drop 1) hd
   simpa using h0
  simp only [qck] at hr
  split at hr
  ·cases hr
  ·rename_i s hs
   split at hr
   ·cases hr
   split at hr
   ·rename_i ht
    obtain ⟨⟨more,hm⟩,hlen,hrun⟩:=qhl suf (i + 1) _ _ _ _ _ _ hdrop (by simp [hl]) hr
    refine ⟨⟨mark (lost h (qbA e io) s) s :: more,by rw [hm]; simp⟩,by rw [hlen]; simp; omega,?_⟩
    simp only [List.length_cons,List.range'_succ]
    refine ⟨io,s,hios,⟨mark (lost h (qbA e io) s) s,?_,(qiy _ _ _).symm,(qm8 _ _).symm⟩,hs,ht,hrun⟩
    rw [hm,List.append_assoc,List.getElem?_append_right (by omega)]
    simp [hl]
   ·cases hr
theorem qxn {s:Step} {v:AV} (h:qOd s = some v):∃ r out,s = .pan r v out:=by
 cases s with
 | pan r v' out=>cases h; exact ⟨_,_,rfl⟩
 | _=>cases h
theorem qmO {ios:List IOper} {base:Nat}:∀ (suf:List IOper) (i:Nat) (e:Env) (h:Heap) (log:List Step) (v:AV) (e':Env) (h':Heap) (log':List Step),ios.drop i = suf -> log.length = i -> qck IP call base i suf e h log = some (some v,e',h',log') ->
  ∃ io r out hj,log'.length < i + suf.length /\ ios[log'.length]? = some io /\ qbt IP call (base + 16 * log'.length) io e' hj = some (.pan r v out) /\ h' = qaD hj (.pan r v out) /\ (i <= log'.length /\ ∃ more,log' = log ++ more) /\ RunsTo IP call ios log' base (List.range' i (log'.length - i)) e h e' hj
 | [],i,e,h,log,v,e',h',log',_,hl,hr=>by simp [qck] at hr
 | io :: suf,i,e,h,log,v,e',h',log',hd,hl,hr=>by
  have hios:ios[i]? = some io:=by
   have h0:=congrArg (·[0]?) hd
   simpa using h0
  have hdrop:ios.drop (i + 1) = suf:=by
   have h0:=congrArg (List.drop 1) hd
   simpa using h0
  simp only [qck] at hr
  split at hr
  ·cases hr
  ·rename_i s hs
   split at hr
   ·rename_i v' hp
    cases hr
    obtain ⟨r,out,rfl⟩:=qxn hp
    refine ⟨io,r,out,h,by rw [hl]; simp,by rw [hl]; exact hios,by rw [hl]; exact hs,rfl,⟨by omega,[],by simp⟩,?_⟩
    rw [hl,Nat.sub_self]
    exact ⟨fun _=>rfl,fun _=>rfl⟩
   split at hr
   ·rename_i ht
    obtain ⟨io2,r,out,hj,h1,h2,h3,h4,⟨h5,more,hm⟩,hrun⟩:=qmO suf (i + 1) _ _ _ _ _ _ _ hdrop (by simp [hl]) hr
    refine ⟨io2,r,out,hj,by simp only [List.length_cons]; omega,h2,h3,h4,⟨by omega,mark (lost h (qbA e io) s) s :: more,by rw [hm]; simp⟩,?_⟩
    have hx:log'.length - i = (log'.length - (i + 1)) + 1:=by omega
    rw [hx,List.range'_succ]
    refine ⟨io,s,hios,⟨mark (lost h (qbA e io) s) s,?_,(qiy _ _ _).symm,(qm8 _ _).symm⟩,hs,ht,hrun⟩
    rw [hm,List.append_assoc,List.getElem?_append_right (by omega)]
    simp [hl]
   ·cases hr
theorem qrR {nx:Nat} {ev:Opd -> AV} {h:Heap} {op:IOp} (hst:qm0 op = true) {r:Res} {out:Heap} {b:Bool} (hs:opS IP call nx ev h op = some (r,out,b)):(∃ v,r = .ret v) /\ out = h /\ b = false:=by
 cases op <;> simp only [qm0,Bool.false_eq_true] at hst
 all_goals
  simp only [opS,val,qr2] at hs
  repeat' split at hs
  all_goals first
   | (cases hs; done)
   | (cases hs; exact ⟨⟨_,rfl⟩,rfl,rfl⟩)
theorem qxw {nx:Nat} {o:IOper} {e:Env} {h:Heap} (hst:qm0 o.op = true) {s:Step} (hs:qbt IP call nx o e h = some s):∀ q,qad (qaD h s) q = qad h q:=by
 intro q
 simp only [qbt] at hs
 split at hs
 ·cases hs
 ·cases hs; rfl
 ·split at hs
  ·cases hs
  ·rename_i r hr
   split at hs
   ·cases hs
   ·rename_i v out b hop
    cases hs
    obtain ⟨_,rfl,rfl⟩:=qrR hst hop
    simp only [qaD,Bool.false_eq_true,if_false,qaN,qd4,qa6]
    by_cases hq:q ∈ r <;> simp [hq]
   ·rename_i v out b hop
    obtain ⟨⟨v',hv⟩,_⟩:=qrR hst hop
    cases hv
theorem qrS {ios:List IOper} {log:List Step} {base:Nat} {io:IOper}:∀ {rem:List Nat} {e:Env} {h:Heap} {e':Env} {h':Heap},(∀ j,j ∈ rem -> ∀ x,ios[j]? = some x -> qm0 x.op = true /\ ∀ d,x.dst = some d -> d ∉ looks io) -> RunsTo IP call ios log base rem e h e' h' ->
  (∀ t,t ∈ looks io -> qbe e' t = qbe e t) /\ ∀ q,qad h' q = qad h q
 | [],e,h,e',h',_,hr=>⟨fun t _=>(hr.1 t).symm,fun q=>(hr.2 q).symm⟩
 | j :: rem,e,h,e',h',hst,hr=>by
  obtain ⟨x,s,hx,_,hs,_,hr⟩:=hr
  obtain ⟨h1,h2⟩:=qrS (rem:=rem) (fun j hj=>hst j (by simp [hj])) hr
  obtain ⟨h3,h4⟩:=hst j (by simp) x hx
  refine ⟨fun t ht=>(h1 t ht).trans ?_,fun q=>(h2 q).trans (qxw h3 hs q)⟩
  exact qbX fun hd=>h4 t hd ht
theorem qEk {nx:Nat} {o:IOper} {e e':Env} {h h':Heap} (he:∀ t,t ∈ looks o -> qbe e t = qbe e' t) (hh:∀ q,qad h q = qad h' q):qbt IP call nx o e h = qbt IP call nx o e' h':=by
 have hw:qfB e o.guard = qfB e' o.guard:=qli fun x hx=>he x.1 (qfm hx)
 have hids:=qrv he
 simp only [qbt]
 rw [hw,hids,qhk hh]
 split
 ·rfl
 ·rfl
 ·split
  ·rfl
  ·rename_i r hr
   rw [qk3 (fun q _=>hh q),qrh (ev:=qau e) (ev':=qau e') fun x hx=>qih fun t ht=>he t (qfn hx ht)]
theorem mem_ready {md:Region.Mode} {ops:Array Oper} {listed:Array Bool} {i:Nat}:i ∈ Region.ready md ops listed ↔ i < ops.size /\ listed.getD i true = false /\ ∃ o,ops[i]? = some o /\ ∀ e,e ∈ o.after.toList -> Region.binds md e = true -> listed.getD e.on false = true:=by
 simp only [Region.ready,List.mem_filter,List.mem_range,Bool.and_eq_true,Bool.not_eq_true']
 constructor
 ·rintro ⟨h1,h2,h3⟩
  refine ⟨h1,h2,ops[i],by simp [h1],fun e he hb=>?_⟩
  simp only [h1,getElem?_pos,Option.map_some,Option.getD_some,Array.all_eq_true',Bool.or_eq_true,Bool.not_eq_true'] at h3
  rcases h3 e (by simpa using he) with h4 | h4
  ·rw [hb] at h4; cases h4
  ·exact h4
 ·rintro ⟨h1,h2,o,ho,h3⟩
  refine ⟨h1,h2,?_⟩
  rw [ho]
  simp only [Option.map_some,Option.getD_some,Array.all_eq_true',Bool.or_eq_true,Bool.not_eq_true']
  intro e he
  cases hb:Region.binds md e with
  | false=>exact .inl rfl
  | true=>exact .inr (h3 e (by simpa using he) hb)
theorem qfw:∀ {l:List Nat} {i:Nat},l.Pairwise (· < ·) -> i ∈ l -> ∃ pre post,l = pre ++ i :: post /\ (∀ p,p ∈ pre -> p < i) /\ (pre ++ post).Pairwise (· < ·) /\ ∀ j,j ∈ pre ++ post ↔ (j ∈ l /\ j ≠ i)
 | [],i,_,h=>by simp at h
 | x :: l,i,hs,h=>by
  rw [List.pairwise_cons] at hs
  by_cases e:i = x
  ·subst e
   refine ⟨[],l,rfl,by simp,by simpa using hs.2,fun j=>?_⟩
   simp only [List.nil_append,List.mem_cons]
   constructor
   ·exact fun hj=>⟨.inr hj,fun he=>by subst he; exact Nat.lt_irrefl _ (hs.1 _ hj)⟩
   ·rintro ⟨h1 | h1,h2⟩
    ·exact absurd h1 h2
    ·exact h1
  ·have hi:i ∈ l:=by simpa [e] using h
   obtain ⟨pre,post,rfl,hp,hs',hm⟩:=qfw hs.2 hi
   refine ⟨x :: pre,post,rfl,fun p hp'=>?_,?_,fun j=>?_⟩
   ·rcases List.mem_cons.1 hp' with rfl | hp'
    ·exact hs.1 i hi
    ·exact hp p hp'
   ·rw [List.cons_append,List.pairwise_cons]
    exact ⟨fun j hj=>hs.1 j ((hm j).1 hj).1,hs'⟩
   ·simp only [List.cons_append,List.mem_cons,hm j]
    constructor
    ·rintro (rfl | ⟨h1,h2⟩)
     ·exact ⟨.inl rfl,fun he=>e he.symm⟩
     ·exact ⟨.inr h1,h2⟩
    ·rintro ⟨h1 | h1,h2⟩
     ·exact .inl h1
     ·exact .inr ⟨h1,h2⟩
theorem qzf (hcall:qcy P call) {n:Nat} {ops:Array Oper} {ios:List IOper} (hc:qe2 P hint n ops ops.toList = some ios) {befs:List (List Nat)} (hb:qpp ops.toList befs = true) (hap:qdn ios befs = true)
  {log:List Step} {base:Nat} {e':Env} {h':Heap} (hcalm:calm base befs ios e' log = true) (hlen:log.length = ios.length) {Q:Exit -> Act -> World -> Prop} :
  ∀ (k:Nat) (rem:List Nat) (listed:Array Bool) (e:Env) (h:Heap) (w:World) (I:Imm) (m:Names) (a:Act),rem.length = k -> rem.Pairwise (· < ·) -> (∀ i,i ∈ rem -> i < ops.size) -> listed.size = ops.size -> (∀ i,i < ops.size -> (listed.getD i true = false ↔ i ∈ rem)) ->
   (∀ j,j < ops.size -> j ∉ rem -> ∀ x,x ∈ befs.getD j [] -> x ∉ rem) ->
   RunsTo IP call ios log base rem e h e' h' -> qe0 w I m e a -> HeapAt w I m h -> n <= a.tmps.size -> a.defers = Dfs.ds ->
   (∀ i,i ∈ rem -> ∀ q,base + 16 * i <= q -> q < base + 16 * i + 16 -> m q = none) -> (∀ q,base + 16 * ops.size <= q -> m q = none) ->
   (∀ a' w' I' m',Aft w w' I I' m m' h h' -> Fits w' I' m' e' h' (base + 16 * ops.size) n a' -> Q .normal a' w') -> wpAny P .any ops Q k listed a w:=by
 intro k
 induction k with
 | zero=>
  intro rem listed e h w I m a hk hs hr hls hl hcl hrun ht H hsz hdf hfree hfree' hQ
  have:rem = []:=List.length_eq_zero_iff.1 hk
  subst this
  refine ⟨?_,?_⟩
  ·rw [List.eq_nil_iff_forall_not_mem]
   intro i hi
   obtain ⟨h1,h2,_⟩:=mem_ready.1 hi
   simpa using (hl i h1).1 h2
  ·obtain ⟨he,hh⟩:=hrun
   have H':HeapAt w I m h':=H.congr fun q=>(hh q).symm
   exact hQ a w I m ((Aft.refl H).congr fun q=>(hh q).symm) ⟨fun t=>by rw [<- he t]; exact ht t,H',hfree',hsz,hdf⟩
 | succ k ih=>
  intro rem listed e h w I m a hk hs hr hls hl hcl hrun ht H hsz hdf hfree hfree' hQ
  have hget:∀ {j o},ops[j]? = some o -> ops.toList[j]? = some o:=fun h=>by rw [Array.getElem?_toList]; exact h
  refine ⟨fun hnil=>?_,fun i hi=>?_⟩
  ·
   cases rem with
   | nil=>simp at hk
   | cons i rem=>
    have hlt:=hr i (by simp)
    have hin:i ∈ Region.ready .any ops listed:=by
     refine mem_ready.2 ⟨hlt,(hl i hlt).2 (by simp),ops[i],by simp [hlt],fun ed hed hbi=>?_⟩
     have hon:=(qbv hb (hget (j:=i) (o:=ops[i]) (by simp [hlt]))).2 ed hed hbi
     have hnot:ed.on ∉ i :: rem:=by
      rw [List.pairwise_cons] at hs
      intro hm
      rcases List.mem_cons.1 hm with h1 | h1
      ·omega
      ·have:=hs.1 _ h1; omega
     have hlt2:ed.on < listed.size:=by omega
     have h3:listed.getD ed.on true ≠ false:=fun h=>hnot ((hl ed.on (by omega)).1 h)
     simp only [Array.getD_eq_getD_getElem?,hlt2,getElem?_pos,Option.getD_some] at h3 ⊢
     simpa using h3
    rw [hnil] at hin; cases hin
  ·obtain ⟨hlt,hli,o,ho,hready⟩:=mem_ready.1 hi
   have hmem:i ∈ rem:=(hl i hlt).1 hli
   obtain ⟨pre,post,rfl,hpre,hs',hm⟩:=qfw hs hmem
   have hspec:=qbv hb (hget ho)
   have hdone:∀ x,x ∈ befs.getD i [] -> x ∉ pre ++ i :: post:=by
    intro x hx
    obtain ⟨ed,hed,hbi,h1⟩:=hspec.1 x hx
    have hon:=hspec.2 ed hed hbi
    have hlo:=hready ed hed hbi
    have hnot:ed.on ∉ pre ++ i :: post:=fun hmm=>by
     have h2:=(hl ed.on (by omega)).2 hmm
     have hlt2:ed.on < listed.size:=by omega
     simp only [Array.getD_eq_getD_getElem?,hlt2,getElem?_pos,Option.getD_some] at h2 hlo
     rw [h2] at hlo; cases hlo
    rcases h1 with rfl | h1
    ·exact hnot
    ·exact hcl ed.on (by omega) hnot x h1
   have hsmall:∀ (j:Nat),j < ops.size -> ∀ x,x ∈ befs.getD j [] -> x < j:=by
    intro j
    induction j using Nat.strongRecOn with
    | _ j ihj=>
     intro hj x hx
     obtain ⟨ed,hed,hbi,h1⟩:=(qbv hb (hget (j:=j) (o:=ops[j]) (by simp [hj]))).1 x hx
     have hon:=(qbv hb (hget (j:=j) (o:=ops[j]) (by simp [hj]))).2 ed hed hbi
     rcases h1 with rfl | h1
     ·exact hon
     ·have:=ihj ed.on hon (by omega) x h1; omega
   have hil:i < ios.length:=by rw [qbD hc]; simpa using hlt
   have hgood:∀ p,p ∈ pre -> Good ios log e' base p i:=fun p hp=>
    qNO hap hcalm hlen (hpre p hp) hil (fun hx=>hdone p hx (by simp [hp])) fun hx=>by
     have:=hsmall p (by have:=hpre p hp; omega) i hx
     have:=hpre p hp
     omega
   obtain ⟨io,s,hio,hlog,hstep,htidy,hrun'⟩:=hrun.front hgood hs
   obtain ⟨io',hio',hco⟩:=qdX hc i o (hget ho)
   rw [hio] at hio'; cases hio'
   have hnp:∀ r v out,s ≠ .pan r v out:=fun r v out he=>by subst he; simp [tidy] at htidy
   have key:=qeN hcall ht H (fun q h1 h2=>hfree i hmem q h1 h2) hsz hco hstep (next:=wpAny P .any ops Q k (listed.setIfInBounds i true)) (Q:=Q) ?_ fun r v out u w' I' m' he=>absurd he (hnp r v out)
   ·simp only [wpOp,ho]
    rcases key with ⟨h1,h2⟩ | ⟨h1,h2⟩
    ·rw [h1]; simp only [if_true]; exact .inl h2
    ·rw [h1]; simp only [Bool.false_eq_true,if_false]; exact h2
   ·intro a' w' I' m' _ hA ht' hnew hsz' hdf'
    have hil2:i < listed.size:=by omega
    refine ih (pre ++ post) _ _ _ w' I' m' a' ?_ hs' (fun j hj=>hr j ((hm j).1 hj).1) (by simpa using hls) ?_ ?_ hrun' ht' hA.heap (by rw [hsz']; exact hsz) (by rw [hdf']; exact hdf) ?_ ?_ ?_
    ·simp at hk ⊢; omega
    ·intro j hj
     have hj2:j < listed.size:=by omega
     rw [hm j,<- hl j hj]
     simp only [Array.getD_eq_getD_getElem?,Array.getElem?_setIfInBounds]
     by_cases e1:i = j
     ·subst e1; simp [hil2]
     ·simp [e1,Ne.symm e1]
    ·intro j hj hnj x hx hxm
     rw [hm] at hnj hxm
     by_cases e1:j = i
     ·subst e1; exact hdone x hx hxm.1
     ·exact hcl j hj (fun hjm=>hnj ⟨hjm,e1⟩) x hx hxm.1
    ·intro j hj q h1 h2
     obtain ⟨hjm,hne⟩:=(hm j).1 hj
     cases hq:m' q with
     | none=>rfl
     | some L=>
      have:=hnew q (hfree j hjm q h1 h2) (by rw [hq]; simp)
      omega
    ·intro q h1
     cases hq:m' q with
     | none=>rfl
     | some L=>
      have:=hnew q (hfree' q h1) (by rw [hq]; simp)
      omega
    ·intro a'' w'' I'' m'' hA' F'
     exact hQ a'' w'' I'' m'' (hA.trans hA') F'
theorem qMK (hcall:qcy P call) {n:Nat} {ops:Array Oper} {ios:List IOper} (hc:qe2 P hint n ops ops.toList = some ios) {befs:List (List Nat)} (hb:qpp ops.toList befs = true) (hap:qdn ios befs = true)
  {log:List Step} {base:Nat} {e':Env} {hj:Heap} {io0:IOper} {r0:List Nat} {v0:AV} {out0:Heap} (hio:ios[log.length]? = some io0) (hcalm:calm base befs ios e' log = true) (hpb:qU1 befs ios log.length = true)
  (hst0:qbt IP call (base + 16 * log.length) io0 e' hj = some (.pan r0 v0 out0)) {Q:Exit -> Act -> World -> Prop} {y:Nat} :
  ∀ (k:Nat) (rem:List Nat) (listed:Array Bool) (e:Env) (h:Heap) (w:World) (I:Imm) (m:Names) (a:Act),rem.length = k -> rem.Pairwise (· < ·) -> (∀ i,i ∈ rem -> i < log.length) -> listed.size = ops.size -> (∀ i,i < ops.size -> (listed.getD i true = false ↔ (i ∈ rem \/ log.length <= i))) ->
   (∀ j,j < log.length -> j ∉ rem -> ∀ x,x ∈ befs.getD j [] -> x ∉ rem) ->
   RunsTo IP call ios log base rem e h e' hj -> qe0 w I m e a -> HeapAt w I m h -> n <= a.tmps.size -> a.defers = Dfs.ds ->
   (∀ i,(i ∈ rem \/ log.length <= i) -> ∀ q,base + 16 * i <= q -> q < base + 16 * i + 16 -> m q = none) ->
   (∀ a' w' I' m' u,Aft w w' I I' m m' h (qaD hj (.pan r0 v0 out0)) -> Rel w' I' v0 m' u -> a'.defers = Dfs.ds -> Q (.panic [{ v:=u,recovered:=false }]) a' w') -> wpAny P .any ops Q (k + 1 + y) listed a w:=by
 have hget:∀ {j o},ops[j]? = some o -> ops.toList[j]? = some o:=fun h=>by rw [Array.getElem?_toList]; exact h
 have hjp:log.length < ops.size:=by
  have:=(List.getElem?_eq_some_iff.1 hio).1
  have hl:=qbD hc
  rw [hl] at this
  simpa using this
 have hsmall:∀ (j:Nat),j < ops.size -> ∀ x,x ∈ befs.getD j [] -> x < j:=by
  intro j
  induction j using Nat.strongRecOn with
  | _ j ihj=>
   intro hj x hx
   obtain ⟨ed,hed,hbi,h1⟩:=(qbv hb (hget (j:=j) (o:=ops[j]) (by simp [hj]))).1 x hx
   have hon:=(qbv hb (hget (j:=j) (o:=ops[j]) (by simp [hj]))).2 ed hed hbi
   rcases h1 with rfl | h1
   ·exact hon
   ·have:=ihj ed.on hon (by omega) x h1; omega
 simp only [qU1,Bool.and_eq_true,List.all_eq_true,List.mem_range,Bool.or_eq_true,List.contains_iff_mem] at hpb
 obtain ⟨hpb1,hpb2⟩:=hpb
 have step:∀ (k:Nat),(∀ (rem:List Nat) (listed:Array Bool) (e:Env) (h:Heap) (w:World) (I:Imm) (m:Names) (a:Act),rem.length + 1 = k -> rem.Pairwise (· < ·) -> (∀ i,i ∈ rem -> i < log.length) -> listed.size = ops.size -> (∀ i,i < ops.size -> (listed.getD i true = false ↔ (i ∈ rem \/ log.length <= i))) ->
   (∀ j,j < log.length -> j ∉ rem -> ∀ x,x ∈ befs.getD j [] -> x ∉ rem) ->
   RunsTo IP call ios log base rem e h e' hj -> qe0 w I m e a -> HeapAt w I m h -> n <= a.tmps.size -> a.defers = Dfs.ds ->
   (∀ i,(i ∈ rem \/ log.length <= i) -> ∀ q,base + 16 * i <= q -> q < base + 16 * i + 16 -> m q = none) ->
   (∀ a' w' I' m' u,Aft w w' I I' m m' h (qaD hj (.pan r0 v0 out0)) -> Rel w' I' v0 m' u -> a'.defers = Dfs.ds -> Q (.panic [{ v:=u,recovered:=false }]) a' w') -> wpAny P .any ops Q (k + y) listed a w) ->
  ∀ (rem:List Nat) (listed:Array Bool) (e:Env) (h:Heap) (w:World) (I:Imm) (m:Names) (a:Act),rem.length = k -> rem.Pairwise (· < ·) -> (∀ i,i ∈ rem -> i < log.length) -> listed.size = ops.size -> (∀ i,i < ops.size -> (listed.getD i true = false ↔ (i ∈ rem \/ log.length <= i))) ->
   (∀ j,j < log.length -> j ∉ rem -> ∀ x,x ∈ befs.getD j [] -> x ∉ rem) ->
   RunsTo IP call ios log base rem e h e' hj -> qe0 w I m e a -> HeapAt w I m h -> n <= a.tmps.size -> a.defers = Dfs.ds ->
   (∀ i,(i ∈ rem \/ log.length <= i) -> ∀ q,base + 16 * i <= q -> q < base + 16 * i + 16 -> m q = none) ->
   (∀ a' w' I' m' u,Aft w w' I I' m m' h (qaD hj (.pan r0 v0 out0)) -> Rel w' I' v0 m' u -> a'.defers = Dfs.ds -> Q (.panic [{ v:=u,recovered:=false }]) a' w') -> wpAny P .any ops Q (k + 1 + y) listed a w:=by
  intro k ih rem listed e h w I m a hk hs hr hls hl hcl hrun ht H hsz hdf hfree hQ
  rw [show k + 1 + y = (k + y) + 1 by omega]
  have hmono:∀ {j},listed.getD j false = true -> j < ops.size -> ¬ (j ∈ rem \/ log.length <= j):=by
   intro j h1 hj hm
   have h2:=(hl j hj).2 hm
   have hlt2:j < listed.size:=by omega
   simp only [Array.getD_eq_getD_getElem?,hlt2,getElem?_pos,Option.getD_some] at h1 h2
   rw [h2] at h1; cases h1
  refine ⟨fun hnil=>?_,fun i hi=>?_⟩
  ·
   have key:∀ i,i < ops.size -> (i ∈ rem \/ log.length <= i) -> (∀ j,j < i -> ¬ (j ∈ rem \/ log.length <= j)) -> False:=by
    intro i hlt hin hleast
    have hin':i ∈ Region.ready .any ops listed:=by
     refine mem_ready.2 ⟨hlt,(hl i hlt).2 hin,ops[i],by simp [hlt],fun ed hed hbi=>?_⟩
     have hon:=(qbv hb (hget (j:=i) (o:=ops[i]) (by simp [hlt]))).2 ed hed hbi
     have h3:listed.getD ed.on true ≠ false:=fun h=>hleast ed.on hon ((hl ed.on (by omega)).1 h)
     have hlt2:ed.on < listed.size:=by omega
     simp only [Array.getD_eq_getD_getElem?,hlt2,getElem?_pos,Option.getD_some] at h3 ⊢
     simpa using h3
    rw [hnil] at hin'; cases hin'
   exfalso
   cases rem with
   | nil=>
    refine key log.length hjp (.inr (Nat.le_refl _)) fun j hj hm=>?_
    rcases hm with hm | hm
    ·cases hm
    ·omega
   | cons i rem=>
    refine key i (by have:=hr i (by simp); omega) (.inl (by simp)) fun j hj hm=>?_
    rw [List.pairwise_cons] at hs
    rcases hm with hm | hm
    ·rcases List.mem_cons.1 hm with rfl | hm
     ·omega
     ·have:=hs.1 j hm; omega
    ·have:=hr i (by simp); omega
  ·obtain ⟨hlt,hli,o,ho,hready⟩:=mem_ready.1 hi
   have hspec:=qbv hb (hget ho)
   have hdone:i <= log.length -> ∀ x,x ∈ befs.getD i [] -> x ∉ rem:=by
    intro hile x hx
    obtain ⟨ed,hed,hbi,h1⟩:=hspec.1 x hx
    have hon:=hspec.2 ed hed hbi
    have hnot:=hmono (hready ed hed hbi) (by omega)
    rcases h1 with rfl | h1
    ·exact fun h=>hnot (.inl h)
    ·exact hcl ed.on (by omega) (fun h=>hnot (.inl h)) x h1
   rcases (hl i hlt).1 hli with hmem | hge
   ·
    obtain ⟨pre,post,rfl,hpre,hs',hm⟩:=qfw hs hmem
    have hil:=hr i hmem
    have hion:i < ios.length:=by rw [qbD hc]; simpa using hlt
    have hgood:∀ p,p ∈ pre -> Good ios log e' base p i:=fun p hp=>
     qFO hap hcalm (hpre p hp) hion hil (fun hx=>hdone (Nat.le_of_lt hil) p hx (by simp [hp])) fun hx=>by
      have:=hsmall p (by have:=hpre p hp; omega) i hx
      have:=hpre p hp
      omega
    obtain ⟨io,s,hio',hlog',hstep,htidy,hrun'⟩:=hrun.front hgood hs
    obtain ⟨io2,hio2,hco⟩:=qdX hc i o (hget ho)
    rw [hio'] at hio2; cases hio2
    have hnp:∀ r v out,s ≠ .pan r v out:=fun r v out he=>by subst he; simp [tidy] at htidy
    have key:=qeN hcall ht H (fun q h1 h2=>hfree i (.inl hmem) q h1 h2) hsz hco hstep (next:=wpAny P .any ops Q (k + y) (listed.setIfInBounds i true)) (Q:=Q) ?_ fun r v out u w' I' m' he=>absurd he (hnp r v out)
    ·simp only [wpOp,ho]
     rcases key with ⟨h1,h2⟩ | ⟨h1,h2⟩
     ·rw [h1]; simp only [if_true]; exact .inl h2
     ·rw [h1]; simp only [Bool.false_eq_true,if_false]; exact h2
    ·intro a' w' I' m' _ hA ht' hnew hsz' hdf'
     have hil2:i < listed.size:=by omega
     refine ih (pre ++ post) _ _ _ w' I' m' a' ?_ hs' (fun j hj=>hr j ((hm j).1 hj).1) (by simpa using hls) ?_ ?_ hrun' ht' hA.heap (by rw [hsz']; exact hsz) (by rw [hdf']; exact hdf) ?_ ?_
     ·simp at hk ⊢; omega
     ·intro j hj
      have hj2:j < listed.size:=by omega
      by_cases e1:i = j
      ·subst e1
       have hnm:¬ (i ∈ pre ++ post \/ log.length <= i):=by
        rintro (h | h)
        ·exact ((hm i).1 h).2 rfl
        ·omega
       simp only [Array.getD_eq_getD_getElem?,Array.getElem?_setIfInBounds,if_true,hil2,hnm,iff_false]
       simp
      ·have hx:=hl j hj
       rw [hm j]
       simp only [Array.getD_eq_getD_getElem?,Array.getElem?_setIfInBounds,if_neg e1] at hx ⊢
       rw [hx]
       constructor
       ·exact fun h=>h.imp (fun h=>⟨h,Ne.symm e1⟩) id
       ·exact fun h=>h.imp (fun h=>h.1) id
     ·intro j hj hnj x hx hxm
      rw [hm] at hnj hxm
      by_cases e1:j = i
      ·subst e1; exact hdone (Nat.le_of_lt hil) x hx hxm.1
      ·exact hcl j hj (fun hjm=>hnj ⟨hjm,e1⟩) x hx hxm.1
     ·intro j hj q h1 h2
      have hjm:j ∈ pre ++ i :: post \/ log.length <= j:=hj.imp (fun h=>((hm j).1 h).1) id
      have hne:j ≠ i:=by
       rcases hj with h | h
       ·exact ((hm j).1 h).2
       ·omega
      cases hq:m' q with
      | none=>rfl
      | some L=>
       have:=hnew q (hfree j hjm q h1 h2) (by rw [hq]; simp)
       omega
     ·intro a'' w'' I'' m'' u hA' hu hd
      exact hQ a'' w'' I'' m'' u (hA.trans hA') hu hd
   ·by_cases hij:i = log.length
    ·
     subst hij
     have hstill:∀ j,j ∈ rem -> ∀ x,ios[j]? = some x -> qm0 x.op = true /\ ∀ d,x.dst = some d -> d ∉ looks io0:=by
      intro j hj x hx
      have hjl:=hr j hj
      have hnb:j ∉ befs.getD log.length []:=fun h=>hdone (Nat.le_refl _) j h hj
      refine ⟨?_,fun d hd=>?_⟩
      ·rcases hpb2 j hjl with h | h
       ·exact absurd h hnb
       ·rw [hx] at h; exact h
      ·simp only [qdn,List.all_eq_true,List.mem_range,Bool.or_eq_true,List.contains_iff_mem] at hap
       have hion:log.length < ios.length:=(List.getElem?_eq_some_iff.1 hio).1
       rcases hap log.length hion j hjl with h | h
       ·exact absurd h hnb
       ·rw [hx,hio] at h
        exact ((qgh h).1 d hd).1
     obtain ⟨he,hh⟩:=qrS hstill hrun
     have hst:qbt IP call (base + 16 * log.length) io0 e h = some (.pan r0 v0 out0):=by
      rw [<- hst0]
      exact qEk (fun t ht=>(he t ht).symm) fun q=>(hh q).symm
     obtain ⟨io2,hio2,hco⟩:=qdX hc log.length o (hget ho)
     rw [hio] at hio2; cases hio2
     have key:=qeN hcall ht H (fun q h1 h2=>hfree log.length (.inr (Nat.le_refl _)) q h1 h2) hsz hco hst (next:=wpAny P .any ops Q (k + y) (listed.setIfInBounds log.length true)) (Q:=Q) ?_ ?_
     ·simp only [wpOp,ho]
      rcases key with ⟨h1,h2⟩ | ⟨h1,h2⟩
      ·rw [h1]; simp only [if_true]; exact .inl h2
      ·rw [h1]; simp only [Bool.false_eq_true,if_false]; exact h2
     ·intro a' w' I' m' hn
      exact absurd rfl (hn r0 v0 out0)
     ·intro r v out u w' I' m' heq hA hu
      cases heq
      exact hQ a w' I' m' u (hA.congr (qil hh _)) hu hdf
    ·
     exfalso
     rcases hpb1 i (by rw [qbD hc]; simpa using hlt) with h | h
     ·have:=Nat.le_of_ble_eq_true h; omega
     ·obtain ⟨ed,hed,hbi,h1⟩:=hspec.1 _ h
      have hon:=hspec.2 ed hed hbi
      have hnot:=hmono (hready ed hed hbi) (by omega)
      have hlo:ed.on < log.length:=by
       apply Classical.byContradiction
       intro hc'
       exact hnot (.inr (by omega))
      rcases h1 with h1 | h1
      ·omega
      ·have:=hsmall ed.on (by omega) _ h1; omega
 intro k
 induction k with
 | zero=>exact step 0 fun rem _ _ _ _ _ _ _ hk=>absurd hk (by omega)
 | succ k ih=>
  refine step (k + 1) fun rem listed e h w I m a hk=>?_
  exact ih rem listed e h w I m a (by omega)
end
end Go.Eng
namespace Go.Eng
set_option linter.unusedSectionVars false
variable [Globs] [Dfs]
section
variable {P:Program} {hint:Nat -> Nat} {w:World} {I:Imm} {m:Names} {h:Heap} {nx:Nat} {e:Env} {a:Act}
def qJJ (P:Program) (hint:Nat -> Nat) (n:Nat) (ops:Array Oper):Bool -> Option ICode
 | false=>(qe2 P hint n ops ops.toList).map fun xs=>.region xs none
 | true=>match qe2 P hint n ops ops.toList with
  | some xs=>if P.follows .mixedOrders && qpp ops.toList (qut ops.toList []) && qdn xs (qut ops.toList []) then some (.region xs (some (qut ops.toList []))) else none
  | none=>none
def qiC:ICode:=.region [⟨none,qoj,none⟩] none
theorem qb8 {IP:Prog} {call:qaL} {loop:qdj} (s:St):qbi IP call loop qiC s = none:=rfl
def okI (p:Nat -> Bool):ICode -> Bool
 | .seq a b=>okI p a && okI p b
 | .cond _ a b=>okI p a && okI p b
 | .block id c=>okI (fun j=>j == id || p j) c
 | .loop _ c=>okI p c
 | .exit id=>decide (id < 1000000) || p id
 | _=>true
def qNB (j:Nat):Bool:=j % 2 == 0
def qCx (l:Nat) (c:Code):Bool:=(findLabel c l).isNone
def qsN (l:Nat) (y:ICode):ICode:=.block (1000000 + 2 * l) (.seq y (.exit (1000000 + 2 * l + 1)))
def qJ1 (l:Nat):ICode -> Bool
 | .seq a b=>qJ1 l a || qJ1 l b
 | .cond _ a b=>qJ1 l a || qJ1 l b
 | .block _ c=>qJ1 l c
 | .loop _ c=>qJ1 l c
 | .exit id=>id == 1000000 + 2 * l
 | _=>false
def qqZ (l:Nat):ICode -> Nat
 | .seq a b=>if qJ1 l b then qqZ l b + 1 else if qJ1 l a then 1 else 0
 | _=>0
def qNn:Nat -> ICode -> Option (ICode × ICode)
 | 0,y=>some (.skip,y)
 | k + 1,.seq x y=>match qNn k y with
  | some (f,r)=>some (.seq x f,r)
  | none=>none
 | _ + 1,_=>none
def qxF:Nat -> Code -> Code
 | 0,c=>c
 | k + 1,.seq _ b=>qxF k b
 | _ + 1,c=>c
def qkG:Nat -> Code -> Bool
 | 0,_=>true
 | _ + 1,.seq (.label _) _=>false
 | k + 1,.seq _ b=>qkG k b
 | _ + 1,_=>false
def qbm (P:Program) (hint:Nat -> Nat) (n:Nat):Code -> Option (List Code) -> List (List Nat) -> Option (ICode × List (List Nat))
 | .skip,_,ks=>some (.skip,ks)
 | .label _,_,ks=>some (.skip,ks)
 | .region _ ops d,_,ks=>some ((qJJ P hint n ops d).getD qiC,ks)
 | .seq a b,t,ks=>match t,a,ks with
  | some pre,.label l,k :: ks=>match qbm P hint n b (some (pre ++ [.label l])) ks with
   | some (y,ks)=>match qNn (qqZ l y) y with
    | some (f,r)=>if pre.all (qCx l) && (okI qNB f && qkG (qqZ l y) b) then some (.seq (.block (1000000 + 2 * l + 1) (.loop k (qsN l f))) r,ks) else some (qiC,ks)
    | none=>some (qiC,ks)
   | none=>none
  | _,_,_=>match qbm P hint n a none ks with
   | some (x,ks)=>match qbm P hint n b (t.map (· ++ [a])) ks with
    | some (y,ks)=>some (.seq x y,ks)
    | none=>none
   | none=>none
 | .cond c a b,_,ks=>match qch c with
  | some c=>match qbm P hint n a none ks with
   | some (x,ks)=>match qbm P hint n b none ks with
    | some (y,ks)=>some (.cond c x y,ks)
    | none=>none
   | none=>none
  | none=>none
 | .block id c,_,ks=>match qbm P hint n c none ks with
  | some (x,ks)=>if id < 1000000 then some (.block id x,ks) else some (qiC,ks)
  | none=>none
 | .loop c,_,k :: ks=>match qbm P hint n c none ks with
  | some (x,ks)=>some (.loop k x,ks)
  | none=>none
 | .exit id,_,ks=>if id < 1000000 then some (.exit id,ks) else some (qiC,ks)
 | .goto l,_,ks=>some (.exit (1000000 + 2 * l),ks)
 | .scope c,_,ks=>match qbm P hint n c (some []) ks with
  | some (y,ks)=>if okI (fun _=>false) y then some (y,ks) else some (qiC,ks)
  | none=>none
 | .ret,_,ks=>some (.ret,ks)
 | _,_,ks=>some (qiC,ks)
def qFq (P:Program) (hint:Nat -> Nat) (n:Nat) (c:Code) (ks:List (List Nat)):Option (ICode × List (List Nat)):=qbm P hint n c none ks
def qFc (P:Program) (c:Code) (Q:Exit -> Act -> World -> Prop) (a:Act) (w:World):Prop:=
 ∀ (b:Frame) (k:List Item) (cs:List Frame),∃ e a' w',Q e a' w' /\ Arrives P (lone (b.at a (.code c :: .inLoop c :: k)) cs w) b k cs e a' w'
theorem qGR {c:Code} {Q:Exit -> Act -> World -> Prop} (h:qFc P c Q a w):(Code.loop c).wp P Q a w:=by
 intro b k cs
 obtain ⟨e,a',w',hq,harr⟩:=h b k cs
 exact ⟨e,a',w',hq,.of_steps (.one step_loop) harr⟩
theorem qv5 {c:Code} {Q Q':Exit -> Act -> World -> Prop} (h:c.wp P Q' a w) (hn:∀ a w,Q' .normal a w -> qFc P c Q a w) (hq:∀ e a w,e ≠ .normal -> Q' e a w -> Q e a w):qFc P c Q a w:=by
 intro b k cs
 obtain ⟨e,a₁,w₁,hq',harr⟩:=h b (.inLoop c :: k) cs
 cases e with
 | normal=>
  obtain ⟨e₂,a₂,w₂,hq₂,harr₂⟩:=hn _ _ hq' b k cs
  exact ⟨e₂,a₂,w₂,hq₂,.of_steps (Steps.trans harr (.one step_inLoop)) harr₂⟩
 | exit id=>exact ⟨_,a₁,w₁,hq _ _ _ (by simp) hq',.pass (x:=.inLoop c) rfl (fun _ _=>.inl (by simp)) harr⟩
 | goto l=>exact ⟨_,a₁,w₁,hq _ _ _ (by simp) hq',.pass (x:=.inLoop c) rfl (fun _ _=>.inl (by simp)) harr⟩
 | ret=>exact ⟨_,a₁,w₁,hq _ _ _ (by simp) hq',.pass (x:=.inLoop c) rfl (fun _ _=>.inl (by simp)) harr⟩
 | panic ch=>exact ⟨_,a₁,w₁,hq _ _ _ (by simp) hq',.pass (x:=.inLoop c) rfl (fun _ _=>.inl (by simp)) harr⟩
 | outgrown=>exact ⟨_,a₁,w₁,hq _ _ _ (by simp) hq',.pass (x:=.inLoop c) rfl (fun _ _=>.inl (by simp)) harr⟩
def Tw (P:Program) (c0 c:Code) (Q:Exit -> Act -> World -> Prop) (a:Act) (w:World):Prop:=
 ∀ (b:Frame) (k:List Item) (cs:List Frame),∃ e a' w',Q e a' w' /\ Arrives P (lone (b.at a (.code c :: .inScope c0 :: k)) cs w) b (.inScope c0 :: k) cs e a' w'
theorem qGN {c0 c:Code} {Q:Exit -> Act -> World -> Prop} (h:c.wp P Q a w):Tw P c0 c Q a w:=fun b k cs=>h b (.inScope c0 :: k) cs
theorem qEE {c0 x y:Code} {Q:Exit -> Act -> World -> Prop} (h:x.wp P (Exit.then (Tw P c0 y Q) Q) a w):Tw P c0 (.seq x y) Q a w:=by
 intro b k cs
 obtain ⟨e,a₁,w₁,hq,harr⟩:=h b (.code y :: .inScope c0 :: k) cs
 cases e with
 | normal=>
  obtain ⟨e₂,a₂,w₂,hq₂,harr₂⟩:=hq b k cs
  exact ⟨e₂,a₂,w₂,hq₂,.of_steps (.head step_seq harr) harr₂⟩
 | exit id=>exact ⟨_,a₁,w₁,hq,.of_steps (.one step_seq) (.pass (x:=.code y) rfl (fun _ _=>.inl (by simp)) harr)⟩
 | goto l=>exact ⟨_,a₁,w₁,hq,.of_steps (.one step_seq) (.pass (x:=.code y) rfl (fun _ _=>.inl (by simp)) harr)⟩
 | ret=>exact ⟨_,a₁,w₁,hq,.of_steps (.one step_seq) (.pass (x:=.code y) rfl (fun _ _=>.inl (by simp)) harr)⟩
 | panic ch=>exact ⟨_,a₁,w₁,hq,.of_steps (.one step_seq) (.pass (x:=.code y) rfl (fun _ _=>.inl (by simp)) harr)⟩
 | outgrown=>exact ⟨_,a₁,w₁,hq,.of_steps (.one step_seq) (.pass (x:=.code y) rfl (fun _ _=>.inl (by simp)) harr)⟩
theorem qtn {c:Code} {Q:Exit -> Act -> World -> Prop} (h:Tw P c c (Exit.noGoto Q) a w):(Code.scope c).wp P Q a w:=by
 intro b k cs
 obtain ⟨e,a₁,w₁,hq,harr⟩:=h b k cs
 cases e with
 | normal=>exact ⟨.normal,a₁,w₁,hq,.head step_scope (Steps.trans harr (.one step_inScope))⟩
 | exit id=>exact ⟨.exit id,a₁,w₁,hq,fun k' hk=>.head step_scope (harr k' (by simp [exitTo,hk]))⟩
 | goto l=>exact hq.elim
 | ret=>exact ⟨_,a₁,w₁,hq,.of_steps (.one step_scope) harr⟩
 | panic ch=>exact ⟨_,a₁,w₁,hq,.of_steps (.one step_scope) harr⟩
 | outgrown=>exact ⟨_,a₁,w₁,hq,.of_steps (.one step_scope) harr⟩
theorem qjv {c0 c:Code} {l:Nat} (hf:findLabel c0 l = some (.seq .skip c)) {Q Q':Exit -> Act -> World -> Prop} (h:Tw P c0 c Q' a w) (hg:∀ a w,Q' (.goto l) a w -> Tw P c0 c Q a w) (hq:∀ e a w,e ≠ .goto l -> Q' e a w -> Q e a w):Tw P c0 c Q a w:=by
 intro b k cs
 obtain ⟨e,a₁,w₁,hq',harr⟩:=h b k cs
 by_cases he:e = .goto l
 ·subst he
  obtain ⟨e₂,a₂,w₂,hq₂,harr₂⟩:=hg _ _ hq' b k cs
  have h1:=harr _ (show gotoIn l (.inScope c0 :: k) = some (.code (.seq .skip c) :: .inScope c0 :: k) by simp [gotoIn,hf])
  exact ⟨e₂,a₂,w₂,hq₂,.of_steps (Steps.trans h1 (.head step_seq (.one step_skip))) harr₂⟩
 ·exact ⟨e,a₁,w₁,hq _ _ _ he hq',harr⟩
theorem qqh {l:Nat} {r:Code}:∀ {pre:List Code},pre.all (qCx l) = true -> findLabel (pre.foldr Code.seq r) l = findLabel r l
 | [],_=>rfl
 | p :: pre,h=>by
  simp only [List.all_cons,Bool.and_eq_true,qCx,Option.isNone_iff_eq_none] at h
  simp only [List.foldr_cons,findLabel,h.1]
  exact qqh h.2
theorem qFJ {l:Nat} {b:Code} {pre:List Code} (h:pre.all (qCx l) = true):findLabel ((pre ++ [Code.label l]).foldr Code.seq b) l = some (.seq .skip b):=by
 rw [List.foldr_append,qqh h]
 simp [findLabel]
def okX (p:Nat -> Bool):X -> Prop
 | .exit id=>id < 1000000 \/ p id = true
 | _=>True
def qE7 (l:Nat):X -> X
 | .exit id=>if id = 1000000 + 2 * l + 1 then .normal else .exit id
 | x=>x
def qik (P:Program) (loop:qdj):Prop:=∀ keep ic s x s',loop keep ic s = some (x,s') -> s'.k = s.k /\ (∀ hint n c keeps keeps',qFq P hint n c keeps = some (ic,keeps') ->
 ∀ (w:World) (I:Imm) (m:Names) (a:Act) (Q:Exit -> Act -> World -> Prop),Fits w I m s.tm s.hp s.nx n a -> (∀ e a' w',Ends w I m s.hp s.k n x s' e a' w' -> Q e a' w') -> qFc P c Q a w) /\
 (∀ p,okI p ic = true -> okX p x) /\
 ∀ hint n l pre c keeps keeps' y k f r,ic = qsN l f -> qbm P hint n c (some (pre ++ [.label l])) keeps = some (y,keeps') -> qNn k y = some (f,r) -> qkG k c = true -> pre.all (qCx l) = true -> okI qNB f = true ->
 ∀ (w:World) (I:Imm) (m:Names) (a:Act) (Q:Exit -> Act -> World -> Prop),Fits w I m s.tm s.hp s.nx n a -> (∀ e a' w',Ends w I m s.hp s.k n (qE7 l x) s' e a' w' -> Exit.then (Tw P ((pre ++ [Code.label l]).foldr Code.seq c) (qxF k c) Q) Q e a' w') -> Tw P ((pre ++ [Code.label l]).foldr Code.seq c) c Q a w
theorem qrW (r:Nat -> Option Nat) (e:Env):∀ (keep:List Nat) (t:Nat),qbe (qTp r (keepE e keep)) t = ren r (qbe e t) \/ qbe (qTp r (keepE e keep)) t = .junk
 | [],t=>.inr rfl
 | k :: ks,t=>by
  simp only [keepE,qTp,qbe]
  by_cases h:t = k
  ·subst h; simp
  ·simp only [if_neg h]; exact qrW r e ks t
theorem qxr {n:Nat} {h:Heap} {todo seen r:List Nat} (hr:qa8 n h todo seen = some r):∃ q,r = seen ++ q:=by
 induction n generalizing todo seen with
 | zero=>
  cases todo with
  | nil=>simp [qa8] at hr; exact ⟨[],by simp [hr]⟩
  | cons=>simp [qa8] at hr
 | succ n ih=>
  cases todo with
  | nil=>simp [qa8] at hr; exact ⟨[],by simp [hr]⟩
  | cons i todo=>
   simp only [qa8] at hr
   split at hr
   ·exact ih hr
   ·split at hr
    ·obtain ⟨q,hq⟩:=ih hr
     exact ⟨i :: q,by rw [hq]; simp⟩
    ·exact ih hr
theorem qiH {k i:Nat} {q:List Nat} (h:i < k):(List.range k ++ q)[i]? = some i:=by
 rw [List.getElem?_append_left (by simpa using h)]
 simp [h]
theorem qrr (H:HeapAt w I m h) {k n:Nat} {todo r:List Nat} (hr:qa8 n h todo (List.range k) = some r) :
  HeapAt w I (fun j=>(r[j]?).bind m) (qft (place r) (sub h r)) /\ Fr k w w I I m (fun j=>(r[j]?).bind m) h (qft (place r) (sub h r)) /\ (∀ i j L,place r i = some j -> m i = some L -> (r[j]?).bind m = some L):=by
 have hnd:r.Nodup:=qda _ _ _ _ _ hr List.nodup_range
 have hpl:∀ i j L,place r i = some j -> m i = some L -> (r[j]?).bind m = some L:=by
  intro i j L hp hL
  rw [qb6 hp]; exact hL
 have hsub:HeapAt w I m (sub h r):=H.sub' fun i b hi=>by
  rw [qa6] at hi
  split at hi
  ·exact hi
  ·cases hi
 have hren:HeapAt w I (fun j=>(r[j]?).bind m) (qft (place r) (sub h r)):=hsub.ren hpl fun i i' j h1 h2=>by
  have e1:=qb6 h1
  have e2:=qb6 h2
  rw [e1] at e2; cases e2; rfl
 refine ⟨hren,⟨Stays.refl w I,fun _ _ h=>h,fun i L hi hL=>?_,fun _ _ _=>rfl,fun _ _ h=>.inl h,fun b ho=>.inl ?_⟩,hpl⟩
 ·obtain ⟨q,rfl⟩:=qxr hr
  rw [qiH hi]; exact hL
 ·obtain ⟨j,x,L,hj,hL,rfl⟩:=ho
  obtain ⟨i,x',hi,hij,_⟩:=qcE hj
  have hL':(r[j]?).bind m = some L:=hL
  rw [qb6 hij] at hL'
  rw [qa6] at hi
  split at hi
  ·exact ⟨i,x',L,hi,hL',rfl⟩
  ·cases hi
theorem qcu {s s1:St} {n:Nat} {keep:List Nat} (F:Fits w I m s.tm s.hp s.nx n a) (hn:norm keep s = some s1):s1.k = s.k /\ ∃ m1,Fits w I m1 s1.tm s1.hp s1.nx n a /\ Fr s.k w w I I m m1 s.hp s1.hp:=by
 simp only [norm] at hn
 split at hn
 ·cases hn
 ·rename_i r hr
  cases hn
  obtain ⟨hH,hF,hpl⟩:=qrr F.hp hr
  refine ⟨rfl,_,⟨fun t=>?_,hH,fun i hi=>?_,F.sz,F.df⟩,hF⟩
  ·rcases qrW (place r) s.tm keep t with ht | ht
   ·simp only [ht]; exact qdf hpl _ (F.tm t)
   ·simp only [ht]; simp [Rel]
  ·have:r[i]? = none:=by simpa using hi
   simp [this]
theorem Fits.drew {n:Nat} (F:Fits w I m e h nx n a):Fits w.drew I m e h nx n a:=
 ⟨qtj F.tm ⟨Nat.le_refl _,fun _ C _ h=>⟨C,h,rfl⟩,fun _ _ _=>rfl,⟨rfl,rfl,rfl⟩⟩ (fun _ _ h=>h) (fun _ _ h=>h),F.hp.drew,F.nx,F.sz,F.df⟩
theorem Aft.drew {w':World} {I':Imm} {m':Names} {h':Heap} (a:Aft w.drew w' I I' m m' h h'):Aft w w' I I' m m' h h':=
 ⟨⟨a.stays.size,a.stays.row,a.stays.imm,a.stays.out⟩,a.imm,a.names,a.heap,a.frame,a.newI,a.owns⟩
theorem qD3 {IP:Prog} {call:qaL} (hcall:qcy P call) {n:Nat} {ops:Array Oper} {id:Nat} {d:Bool} {iops:List IOper} {dr:Option (List (List Nat))} (hc:qJJ P hint n ops d = some (.region iops dr)) {s:St} {x:X} {s':St}
  (hr:qaV IP call iops dr s = some (x,s')) {a:Act} (F:Fits w I m s.tm s.hp s.nx n a) {Q:Exit -> Act -> World -> Prop} (hQ:∀ e a' w',Ends w I m s.hp s.k n x s' e a' w' -> Q e a' w') :
  (Code.region id ops d).wp P Q a w:=by
 cases d with
 | true=>
  simp only [qJJ] at hc
  split at hc
  ·rename_i xs hxs
   split at hc
   ·rename_i hok
    cases hc
    simp only [Bool.and_eq_true] at hok
    obtain ⟨⟨hm,hb⟩,hap⟩:=hok
    simp only [qaV] at hr
    split at hr
    ·cases hr
    ·rename_i e' h' log hrun
     split at hr
     ·rename_i hcalm
      cases hr
      have hl:=qbD hxs
      have hl':iops.length = ops.size:=by simpa using hl
      obtain ⟨_,hlen,hto⟩:=qhl (ios:=iops) iops 0 _ _ [] _ _ _ rfl rfl hrun
      rw [hl',<- List.range_eq_range'] at hto
      have F':=F.drew
      refine wp_region_any hm ?_
      refine qzf hcall hxs hb hap hcalm (by simpa using hlen) ops.size (List.range ops.size) _ _ _ _ I m a (by simp) List.pairwise_lt_range (fun i hi=>by simpa using hi) (by simp) (fun i hi=>by simp [hi]) (fun j hj hn=>absurd (by simpa using hj) hn) hto F'.tm F'.hp F'.sz F'.df
       (fun i _ q h1 _=>F.nx q (by omega)) (fun q h1=>F.nx q (by omega)) ?_
      intro a' w' I' m' hA Fin
      refine hQ _ _ _ ⟨I',m',hA.drew.fr _,rfl,?_⟩
      rw [hl']
      exact Fin
     ·cases hr
    ·rename_i v e' h' log hrun
     split at hr
     ·rename_i hcalm
      cases hr
      rw [Bool.and_eq_true] at hcalm
      have hl:=qbD hxs
      have hl':iops.length = ops.size:=by simpa using hl
      obtain ⟨io,r,out,hj,hjl,hio,hst,hh,_,hto⟩:=qmO (ios:=iops) iops 0 _ _ [] _ _ _ _ rfl rfl hrun
      have F':=F.drew
      refine wp_region_any hm ?_
      subst hh
      rw [Nat.sub_zero,<- List.range_eq_range'] at hto
      have hjs:log.length < ops.size:=by simpa [hl'] using hjl
      obtain ⟨y,hy⟩:∃ y,ops.size = log.length + 1 + y:=⟨ops.size - log.length - 1,by omega⟩
      have key:=qMK (Q:=Q) hcall hxs hb hap hio hcalm.1 hcalm.2 hst (y:=y) log.length (List.range log.length) (Array.replicate ops.size false) _ _ _ I m a (by simp) List.pairwise_lt_range (fun i hi=>by simpa using hi) (by simp) (fun i hi=>by simp [hi]; omega) (fun j hj hn=>absurd (by simpa using hj) hn) hto F'.tm F'.hp F'.sz F'.df
       (fun i _ q h1 _=>F.nx q (by omega)) ?_
      ·rw [<- hy] at key; exact key
      ·intro a' w' I' m' u hA hu hd
       exact hQ _ _ _ ⟨I',m',hA.drew.fr _,hd,hA.heap,fun t=>by simp [qbe,Rel],u,rfl,hu⟩
     ·cases hr
   ·cases hc
  ·cases hc
 | false=>
  simp only [qJJ,Option.map_eq_some_iff] at hc
  obtain ⟨xs,hxs,he⟩:=hc
  cases he
  simp only [qaV] at hr
  split at hr
  ·cases hr
  ·rename_i x1 e' h' log' hrun
   cases hr
   refine wp_region ?_
   have hl:=qbD hxs
   have:=qrj (k:=s.k) hcall hxs iops 0 _ _ w I m a [] log' _ e' h' s.nx rfl F hrun hQ
   rw [hl] at this
   rw [List.range_eq_range']
   simpa using this
theorem qs8 {IP:Prog} {call:qaL} {iops:List IOper} {dr:Option (List (List Nat))} {s:St} {x:X} {s':St} (hr:qaV IP call iops dr s = some (x,s')):s'.k = s.k:=by
 simp only [qaV] at hr
 split at hr
 ·split at hr
  ·cases hr
  ·cases hr; rfl
 ·split at hr
  ·cases hr
  ·split at hr
   ·cases hr; rfl
   ·cases hr
  ·split at hr
   ·cases hr; rfl
   ·cases hr
theorem qz1 {IP:Prog} {call:qaL} {loop:qdj} (hloop:∀ keep ic s x s',loop keep ic s = some (x,s') -> s'.k = s.k):∀ (ic:ICode) (s:St) (x:X) (s':St),qbi IP call loop ic s = some (x,s') -> s'.k = s.k:=by
 intro ic
 induction ic with
 | skip=>intro s x s' h; simp [qbi] at h; rw [h.2]
 | region ops d=>intro s x s' h; exact qs8 h
 | seq a b iha ihb=>
  intro s x s' h
  simp only [qbi] at h
  split at h
  ·rename_i s1 h1
   exact (ihb _ _ _ h).trans (iha _ _ _ h1)
  ·exact iha _ _ _ h
 | cond c a b iha ihb=>
  intro s x s' h
  simp only [qbi] at h
  split at h
  ·exact iha _ _ _ h
  ·exact ihb _ _ _ h
  ·cases h
 | block id c ih=>
  intro s x s' h
  simp only [qbi] at h
  split at h
  ·rename_i j s1 h1
   split at h <;> cases h <;> exact ih _ _ _ h1
  ·exact ih _ _ _ h
 | loop keep c ih=>intro s x s' h; exact hloop _ _ _ _ _ h
 | exit id=>intro s x s' h; simp [qbi] at h; rw [h.2]
 | ret=>intro s x s' h; simp [qbi] at h; rw [h.2]
theorem Ends.out {k n:Nat} {h:Heap} {x:X} {s:St} {e:Exit} {a:Act} {w':World} (E:Ends w I m h k n x s e a w') (hx:x ≠ .normal):e ≠ .normal:=by
 obtain ⟨I',m',f,hm⟩:=E
 cases x with
 | normal=>exact absurd rfl hx
 | exit id=>obtain ⟨rfl,_⟩:=hm; exact qz0 id
 | ret=>obtain ⟨rfl,_⟩:=hm; simp
 | pan v=>obtain ⟨_,_,_,u,rfl,_⟩:=hm; simp
theorem qvS {IP:Prog} {call:qaL}:∀ {ops:List IOper} {e:Env} {h:Heap} {nx:Nat} {log:List Step} {x:X} {r},qbK IP call ops e h nx log = some (x,r) -> ∀ id,x ≠ .exit id
 | [],e,h,nx,log,x,r,hr=>by simp only [qbK,Option.some.injEq,Prod.mk.injEq] at hr; intro id; rw [<- hr.1]; simp
 | o :: ops,e,h,nx,log,x,r,hr=>by
  simp only [qbK] at hr
  split at hr
  ·cases hr
  ·cases hr; intro id; simp
  ·exact qvS hr
theorem qs9 {IP:Prog} {call:qaL} {iops:List IOper} {dr:Option (List (List Nat))} {s:St} {x:X} {s':St} (hr:qaV IP call iops dr s = some (x,s')):∀ id,x ≠ .exit id:=by
 simp only [qaV] at hr
 split at hr
 ·split at hr
  ·cases hr
  ·rename_i h1
   cases hr
   exact qvS h1
 ·split at hr
  ·cases hr
  ·split at hr
   ·cases hr; intro id; simp
   ·cases hr
  ·split at hr
   ·cases hr; intro id; simp
   ·cases hr
theorem qSZ {p:Nat -> Bool} {x:X} (h:∀ id,x ≠ .exit id):okX p x:=by
 cases x with
 | exit id=>exact absurd rfl (h id)
 | _=>trivial
theorem quH {IP:Prog} {call:qaL} {loop:qdj} (hloop:∀ keep ic s x s',loop keep ic s = some (x,s') -> ∀ p,okI p ic = true -> okX p x):∀ (ic:ICode) (p:Nat -> Bool),okI p ic = true -> ∀ (s:St) (x:X) (s':St),qbi IP call loop ic s = some (x,s') -> okX p x:=by
 intro ic
 induction ic with
 | skip=>intro p _ s x s' h; simp [qbi] at h; rw [<- h.1]; trivial
 | region ops d=>intro p _ s x s' h; exact qSZ (qs9 h)
 | seq a b iha ihb=>
  intro p hp s x s' h
  simp only [okI,Bool.and_eq_true] at hp
  simp only [qbi] at h
  split at h
  ·exact ihb p hp.2 _ _ _ h
  ·exact iha p hp.1 _ _ _ h
 | cond c a b iha ihb=>
  intro p hp s x s' h
  simp only [okI,Bool.and_eq_true] at hp
  simp only [qbi] at h
  split at h
  ·exact iha p hp.1 _ _ _ h
  ·exact ihb p hp.2 _ _ _ h
  ·cases h
 | block id c ih=>
  intro p hp s x s' h
  simp only [okI] at hp
  simp only [qbi] at h
  split at h
  ·rename_i j s1 h1
   have:=ih _ hp _ _ _ h1
   split at h
   ·cases h; trivial
   ·rename_i hj
    cases h
    rcases this with h2 | h2
    ·exact .inl h2
    ·simp only [Bool.or_eq_true,beq_iff_eq] at h2
     rcases h2 with h2 | h2
     ·exact absurd h2 hj
     ·exact .inr h2
  ·rename_i hne
   have:=ih _ hp _ _ _ h
   cases x with
   | exit j=>exact absurd h (hne j s')
   | _=>trivial
 | loop keep c ih=>intro p hp s x s' h; exact hloop _ _ _ _ _ h p hp
 | exit id=>
  intro p hp s x s' h
  simp only [okI,Bool.or_eq_true,decide_eq_true_eq] at hp
  simp [qbi] at h
  rw [<- h.1]; exact hp
 | ret=>intro p _ s x s' h; simp [qbi] at h; rw [<- h.1]; trivial
def Wt (P:Program) (t:Option (List Code)) (c:Code) (Q:Exit -> Act -> World -> Prop) (a:Act) (w:World):Prop:=match t with
 | none=>c.wp P Q a w
 | some pre=>Tw P (pre.foldr Code.seq c) c Q a w
theorem qlF {t:Option (List Code)} {c:Code} {Q:Exit -> Act -> World -> Prop} (h:c.wp P Q a w):Wt P t c Q a w:=by
 cases t with
 | none=>exact h
 | some pre=>exact qGN h
theorem qFr (k:Nat):∀ c:Code,SizeOf.sizeOf (qxF k c) <= SizeOf.sizeOf c:=by
 induction k with
 | zero=>intro c; exact Nat.le_refl _
 | succ k ih=>
  intro c
  cases c with
  | seq a b=>
   have:=ih b
   simp only [qxF,Code.seq.sizeOf_spec]; omega
  | _=>exact Nat.le_refl _
theorem qrm {k:Nat} {c:Code} (h:qkG (k + 1) c = true):∃ a b,c = .seq a b /\ (∀ l,a ≠ .label l) /\ qkG k b = true:=by
 cases c with
 | seq a b=>
  cases a with
  | label l=>cases h
  | _=>exact ⟨_,_,rfl,(by intro l h; cases h),h⟩
 | _=>cases h
theorem quz {n:Nat} {a b:Code} {pre:List Code} {ks ks':List (List Nat)} {y:ICode} (ha:∀ l,a ≠ .label l) (h:qbm P hint n (.seq a b) (some pre) ks = some (y,ks')):∃ x ks1 y1,qbm P hint n a none ks = some (x,ks1) /\ qbm P hint n b (some (pre ++ [a])) ks1 = some (y1,ks') /\ y = .seq x y1:=by
 have key:(match qbm P hint n a none ks with
   | some (x,ks)=>match qbm P hint n b (Option.map (· ++ [a]) (some pre)) ks with
    | some (y,ks)=>some (ICode.seq x y,ks)
    | none=>none
   | none=>none) = some (y,ks'):=by
  cases a with
  | label l=>exact absurd rfl (ha l)
  | _=>simpa only [qbm] using h
 split at key
 ·rename_i x ks1 h1
  split at key
  ·rename_i y1 ks2 h2
   cases key
   exact ⟨x,ks1,y1,h1,h2,rfl⟩
  ·cases key
 ·cases key
theorem quA {n:Nat}:∀ (k:Nat) (c:Code) (pre:List Code) (ks:List (List Nat)) (y:ICode) (ks':List (List Nat)) {f r:ICode},qbm P hint n c (some pre) ks = some (y,ks') -> qNn k y = some (f,r) -> qkG k c = true -> ∃ preR ksR,qbm P hint n (qxF k c) (some preR) ksR = some (r,ks') /\ preR.foldr Code.seq (qxF k c) = pre.foldr Code.seq c
 | 0,c,pre,ks,y,ks',f,r,h,hc,_=>by
  cases hc
  exact ⟨pre,ks,h,rfl⟩
 | k + 1,c,pre,ks,y,ks',f,r,h,hc,hp=>by
  obtain ⟨a,b,rfl,ha,hp'⟩:=qrm hp
  obtain ⟨x,ks1,y1,h1,h2,rfl⟩:=quz ha h
  simp only [qNn] at hc
  split at hc
  ·rename_i f1 r1 h3
   cases hc
   obtain ⟨preR,ksR,h4,h5⟩:=quA k b _ _ y1 _ h2 h3 hp'
   refine ⟨preR,ksR,h4,?_⟩
   show preR.foldr Code.seq (qxF k b) = _
   rw [h5,List.foldr_append]; rfl
  ·cases hc
theorem qgj {IP:Prog} {call:qaL} {loop:qdj} (hcall:qcy P call) (hloop:qik P loop) {n:Nat}:∀ (c:Code) (t:Option (List Code)) (keeps keeps':List (List Nat)) (ic:ICode),qbm P hint n c t keeps = some (ic,keeps') ->
  ∀ (s:St) (x:X) (s':St),qbi IP call loop ic s = some (x,s') -> ∀ (w:World) (I:Imm) (m:Names) (a:Act) (Q:Exit -> Act -> World -> Prop),Fits w I m s.tm s.hp s.nx n a ->
   (∀ e a' w',Ends w I m s.hp s.k n x s' e a' w' -> Q e a' w') -> Wt P t c Q a w:=by
 have hk:=qz1 (IP:=IP) (call:=call) (fun keep ic s x s' h=>(hloop keep ic s x s' h).1)
 have hids:=quH (IP:=IP) (call:=call) (fun keep ic s x s' h=>(hloop keep ic s x s' h).2.2.1)
 intro c
 induction hsz:SizeOf.sizeOf c using Nat.strongRecOn generalizing c with
 | _ sz IH=>
 subst hsz
 cases c with
 | skip=>
  intro t keeps keeps' ic hc s x s' hx w I m a Q F hQ
  simp [qbm] at hc
  obtain ⟨rfl,rfl⟩:=hc
  simp [qbi] at hx
  obtain ⟨rfl,rfl⟩:=hx
  exact qlF (wp_skip (hQ _ _ _ ⟨I,m,Fr.refl _,rfl,F⟩))
 | label l=>
  intro t keeps keeps' ic hc s x s' hx w I m a Q F hQ
  simp [qbm] at hc
  obtain ⟨rfl,rfl⟩:=hc
  simp [qbi] at hx
  obtain ⟨rfl,rfl⟩:=hx
  exact qlF (wp_label (hQ _ _ _ ⟨I,m,Fr.refl _,rfl,F⟩))
 | goto l=>
  intro t keeps keeps' ic hc s x s' hx w I m a Q F hQ
  simp [qbm] at hc
  obtain ⟨rfl,rfl⟩:=hc
  simp [qbi] at hx
  obtain ⟨rfl,rfl⟩:=hx
  exact qlF (wp_goto (hQ _ _ _ ⟨I,m,Fr.refl _,(qpG l).symm,F⟩))
 | exit id=>
  intro t keeps keeps' ic hc s x s' hx w I m a Q F hQ
  simp only [qbm] at hc
  split at hc
  ·rename_i hid
   cases hc
   simp [qbi] at hx
   obtain ⟨rfl,rfl⟩:=hx
   exact qlF (wp_exit (hQ _ _ _ ⟨I,m,Fr.refl _,(qsz hid).symm,F⟩))
  ·cases hc; rw [qb8] at hx; cases hx
 | ret=>
  intro t keeps keeps' ic hc s x s' hx w I m a Q F hQ
  simp [qbm] at hc
  obtain ⟨rfl,rfl⟩:=hc
  simp [qbi] at hx
  obtain ⟨rfl,rfl⟩:=hx
  exact qlF (wp_ret (hQ _ _ _ ⟨I,m,Fr.refl _,rfl,F⟩))
 | region id ops d=>
  intro t keeps keeps' ic hc s x s' hx w I m a Q F hQ
  refine qlF ?_
  simp only [qbm,Option.some.injEq,Prod.mk.injEq] at hc
  obtain ⟨he,rfl⟩:=hc
  have hc:qJJ P hint n ops d = some ic:=by
   cases hq:qJJ P hint n ops d with
   | none=>rw [hq] at he; simp only [Option.getD_none] at he; subst he; rw [qb8] at hx; cases hx
   | some c=>rw [hq] at he; simp only [Option.getD_some] at he; rw [he]
  cases ic with
  | region iops dr=>exact qD3 hcall hc hx F hQ
  | _=>
   cases d
   ·simp [qJJ] at hc
   ·simp only [qJJ] at hc
    split at hc
    ·split at hc <;> cases hc
    ·cases hc
 | seq c1 c2=>
  have ih1:=IH (SizeOf.sizeOf c1) (by simp; try omega) c1 rfl
  have ih2:=IH (SizeOf.sizeOf c2) (by simp; try omega) c2 rfl
  have ihk:=fun k=>IH (SizeOf.sizeOf (qxF k c2)) (by have:=qFr k c2; simp; try omega) (qxF k c2) rfl
  intro t keeps keeps' ic hc s x s' hx w I m a Q F hQ
  have plain:(match qbm P hint n c1 none keeps with
   | some (x,ks)=>match qbm P hint n c2 (t.map (· ++ [c1])) ks with
    | some (y,ks)=>some (ICode.seq x y,ks)
    | none=>none
   | none=>none) = some (ic,keeps') -> Wt P t (.seq c1 c2) Q a w:=by
   intro hc
   split at hc
   ·rename_i x1 ks1 h1
    split at hc
    ·rename_i x2 ks2 h2
     cases hc
     simp only [qbi] at hx
     have both:c1.wp P (Exit.then (Wt P (t.map (· ++ [c1])) c2 Q) Q) a w:=by
      split at hx
      ·rename_i s1 hx1
       have hk1:=hk _ _ _ _ hx1
       refine ih1 none _ _ _ h1 _ _ _ hx1 w I m a _ F ?_
       rintro e a' w' ⟨I',m',f,rfl,F'⟩
       exact ih2 _ _ _ _ h2 _ _ _ hx w' I' m' a' Q F' fun e'' a'' w'' E=>hQ _ _ _ (by rw [hk1] at E; exact E.after f)
      ·rename_i hne
       refine ih1 none _ _ _ h1 _ _ _ hx w I m a _ F ?_
       intro e a' w' E
       have hne':e ≠ .normal:=E.out fun hxn=>by subst hxn; exact hne s' hx
       cases e with
       | normal=>exact absurd rfl hne'
       | _=>exact hQ _ _ _ E
     cases t with
     | none=>exact wp_seq both
     | some pre=>
      refine qEE ?_
      have e:(pre ++ [c1]).foldr Code.seq c2 = pre.foldr Code.seq (.seq c1 c2):=by rw [List.foldr_append]; rfl
      have both':c1.wp P (Exit.then (Tw P ((pre ++ [c1]).foldr Code.seq c2) c2 Q) Q) a w:=both
      rw [e] at both'
      exact both'
    ·cases hc
   ·cases hc
  cases t with
  | none=>exact plain (by simpa only [qbm] using hc)
  | some pre=>
   cases c1 with
   | label l=>
    cases keeps with
    | nil=>exact plain (by simpa only [qbm] using hc)
    | cons k ks=>
     simp only [qbm] at hc
     split at hc
     ·rename_i y ks1 h1
      split at hc
      ·rename_i fr r hcut
       split at hc
       ·rename_i hok
        cases hc
        rw [Bool.and_eq_true,Bool.and_eq_true] at hok
        obtain ⟨hpre,hev,hpl⟩:=hok
        refine qEE (wp_label ?_)
        have e:(pre ++ [Code.label l]).foldr Code.seq c2 = pre.foldr Code.seq (.seq (.label l) c2):=by rw [List.foldr_append]; rfl
        show Tw P (pre.foldr Code.seq (.seq (.label l) c2)) c2 Q a w
        rw [<- e]
        obtain ⟨preR,ksR,hR,hfold⟩:=quA (qqZ l y) c2 _ _ y _ h1 hcut hpl
        have rest:∀ {s1:St} {z:X},loop k (qsN l fr) s = some (z,s1) -> qbi IP call loop r s1 = some (x,s') -> ∀ {I':Imm} {m':Names} {a':Act} {w':World},Fr s.k w w' I I' m m' s.hp s1.hp -> Fits w' I' m' s1.tm s1.hp s1.nx n a' -> Tw P ((pre ++ [Code.label l]).foldr Code.seq c2) (qxF (qqZ l y) c2) Q a' w':=by
         intro s1 z hl hr I' m' a' w' f F'
         have hk1:=(hloop _ _ _ _ _ hl).1
         have:=ihk (qqZ l y) (some preR) _ _ _ hR _ _ _ hr w' I' m' a' Q F' fun e'' a'' w'' E=>hQ _ _ _ (by rw [hk1] at E; exact E.after f)
         simp only [Wt] at this
         rw [hfold] at this
         exact this
        have pass:∀ {z:X} {s1:St},z ≠ .normal -> ∀ {e':Exit} {a':Act} {w':World},z = x -> s1 = s' -> Ends w I m s.hp s.k n z s1 e' a' w' -> Exit.then (Tw P ((pre ++ [Code.label l]).foldr Code.seq c2) (qxF (qqZ l y) c2) Q) Q e' a' w':=by
         rintro z s1 hz e' a' w' rfl rfl E
         have hne':e' ≠ .normal:=E.out hz
         have:=hQ _ _ _ E
         cases e' with
         | normal=>exact absurd rfl hne'
         | _=>exact this
        simp only [qbi] at hx
        cases hl:loop k (qsN l fr) s with
        | none=>simp [hl] at hx
        | some q=>
         obtain ⟨z,s1⟩:=q
         refine (hloop _ _ _ _ _ hl).2.2.2 hint n l pre c2 _ _ y (qqZ l y) fr r rfl h1 hcut hpl hpre hev w I m a Q F ?_
         intro e' a' w' E
         cases z with
         | normal=>
          simp only [hl] at hx
          obtain ⟨I',m',f,rfl,F'⟩:=E
          exact rest hl hx f F'
         | exit j=>
          by_cases hj:j = 1000000 + 2 * l + 1
          ·simp only [hl,hj,if_true] at hx
           simp only [qE7,hj,if_true] at E
           obtain ⟨I',m',f,rfl,F'⟩:=E
           exact rest hl hx f F'
          ·simp only [hl,if_neg hj] at hx
           simp only [qE7,if_neg hj] at E
           cases hx
           exact pass (by simp) rfl rfl E
         | ret=>
          simp only [hl] at hx
          cases hx
          exact pass (by simp) rfl rfl E
         | pan v=>
          simp only [hl] at hx
          cases hx
          exact pass (by simp) rfl rfl E
       ·cases hc; rw [qb8] at hx; cases hx
      ·cases hc; rw [qb8] at hx; cases hx
     ·cases hc
   | _=>exact plain (by simpa only [qbm] using hc)
 | cond c c1 c2=>
  have ih1:=IH (SizeOf.sizeOf c1) (by simp; try omega) c1 rfl
  have ih2:=IH (SizeOf.sizeOf c2) (by simp; try omega) c2 rfl
  intro t keeps keeps' ic hc s x s' hx w I m a Q F hQ
  refine qlF ?_
  simp only [qbm] at hc
  split at hc
  ·rename_i y hy
   split at hc
   ·rename_i x1 ks1 h1
    split at hc
    ·rename_i x2 ks2 h2
     cases hc
     have hr:=qan F.tm hy
     simp only [qbi] at hx
     split at hx
     ·rename_i ht
      rw [ht] at hr
      simp only [Rel] at hr
      exact wp_cond_true hr (ih1 none _ _ _ h1 _ _ _ hx w I m a Q F hQ)
     ·rename_i ht
      rw [ht] at hr
      simp only [Rel] at hr
      exact wp_cond_false hr (ih2 none _ _ _ h2 _ _ _ hx w I m a Q F hQ)
     ·cases hx
    ·cases hc
   ·cases hc
  ·cases hc
 | block id c=>
  have ih:=IH (SizeOf.sizeOf c) (by simp; try omega) c rfl
  intro t keeps keeps' ic hc s x s' hx w I m a Q F hQ
  refine qlF ?_
  simp only [qbm] at hc
  split at hc
  ·rename_i x1 ks1 h1
   split at hc
   ·rename_i hid
    cases hc
    simp only [qbi] at hx
    split at hx
    ·rename_i j s1 hx1
     refine wp_block (ih none _ _ _ h1 _ _ _ hx1 w I m a _ F ?_)
     rintro e a' w' ⟨I',m',f,rfl,F'⟩
     split at hx
     ·rename_i hj
      cases hx
      subst hj
      rw [qsz hid]
      simp only [Exit.inBlock,if_true]
      exact hQ _ _ _ ⟨I',m',f,rfl,F'⟩
     ·rename_i hj
      cases hx
      have hq:=hQ (qxG j) a' w' ⟨I',m',f,rfl,F'⟩
      rcases qlP j with h1 | ⟨_,_,l,h1,_⟩
      ·rw [h1] at hq ⊢
       simp only [Exit.inBlock]
       rw [if_neg hj]
       exact hq
      ·rw [h1] at hq ⊢
       exact hq
    ·rename_i hne
     refine wp_block (ih none _ _ _ h1 _ _ _ hx w I m a _ F ?_)
     intro e a' w' E
     have hne':∀ j,e ≠ .exit j:=by
      intro j hj
      obtain ⟨I',m',f,hm⟩:=E
      cases x with
      | normal=>obtain ⟨rfl,_⟩:=hm; cases hj
      | exit i=>exact hne i s' hx
      | ret=>obtain ⟨rfl,_⟩:=hm; cases hj
      | pan v=>obtain ⟨_,_,_,u,rfl,_⟩:=hm; cases hj
     cases e with
     | exit j=>exact absurd rfl (hne' j)
     | _=>exact hQ _ _ _ E
   ·cases hc; rw [qb8] at hx; cases hx
  ·cases hc
 | loop c=>
  have ih:=IH (SizeOf.sizeOf c) (by simp; try omega) c rfl
  intro t keeps keeps' ic hc s x s' hx w I m a Q F hQ
  cases keeps with
  | nil=>simp only [qbm,Option.some.injEq,Prod.mk.injEq] at hc; obtain ⟨rfl,rfl⟩:=hc; rw [qb8] at hx; cases hx
  | cons k ks=>
   simp only [qbm] at hc
   split at hc
   ·rename_i x1 ks1 h1
    cases hc
    simp only [qbi] at hx
    exact qlF (qGR ((hloop _ _ _ _ _ hx).2.1 _ _ _ _ _ h1 w I m a Q F hQ))
   ·cases hc
 | scope c=>
  have ih:=IH (SizeOf.sizeOf c) (by simp; try omega) c rfl
  intro t keeps keeps' ic hc s x s' hx w I m a Q F hQ
  refine qlF ?_
  simp only [qbm] at hc
  split at hc
  ·rename_i y ks1 h1
   split at hc
   ·rename_i hok
    cases hc
    have hxid:=hids _ _ hok _ _ _ hx
    refine qtn (ih (some []) _ _ _ h1 _ _ _ hx w I m a _ F ?_)
    intro e a' w' E
    have hq:=hQ e a' w' E
    cases e with
    | goto l=>
     obtain ⟨I',m',f,hm⟩:=E
     cases x with
     | normal=>obtain ⟨h,_⟩:=hm; cases h
     | exit i=>
      rcases hxid with hi | hi
      ·obtain ⟨h,_⟩:=hm
       rw [qsz hi] at h; cases h
      ·cases hi
     | ret=>obtain ⟨h,_⟩:=hm; cases h
     | pan v=>obtain ⟨_,_,_,u,h,_⟩:=hm; cases h
    | _=>exact hq
   ·cases hc; rw [qb8] at hx; cases hx
  ·cases hc
 | _=>
  intro t keeps keeps' ic hc s x s' hx
  simp only [qbm,Option.some.injEq,Prod.mk.injEq] at hc
  obtain ⟨rfl,rfl⟩:=hc
  rw [qb8] at hx; cases hx
theorem qgz {IP:Prog} {call:qaL} {loop:qdj} (hcall:qcy P call) (hloop:qik P loop) {n:Nat}:∀ (k:Nat) (c:Code) (pre:List Code) (ks:List (List Nat)) (y:ICode) (ks':List (List Nat)) {f r:ICode},qbm P hint n c (some pre) ks = some (y,ks') -> qNn k y = some (f,r) -> qkG k c = true ->
  ∀ (s:St) (x:X) (s':St),qbi IP call loop f s = some (x,s') -> ∀ (w:World) (I:Imm) (m:Names) (a:Act) (Q:Exit -> Act -> World -> Prop),Fits w I m s.tm s.hp s.nx n a ->
   (∀ e a' w',Ends w I m s.hp s.k n x s' e a' w' -> Exit.then (Tw P (pre.foldr Code.seq c) (qxF k c) Q) Q e a' w') -> Tw P (pre.foldr Code.seq c) c Q a w
 | 0,c,pre,ks,y,ks',f,r,h,hc,_=>by
  intro s x s' hx w I m a Q F hQ
  cases hc
  simp [qbi] at hx
  obtain ⟨rfl,rfl⟩:=hx
  exact hQ .normal a w ⟨I,m,Fr.refl _,rfl,F⟩
 | k + 1,c,pre,ks,y,ks',f,r,h,hc,hp=>by
  intro s x s' hx w I m a Q F hQ
  obtain ⟨c1,c2,rfl,ha,hp'⟩:=qrm hp
  obtain ⟨x1,ks1,y1,h1,h2,rfl⟩:=quz ha h
  simp only [qNn] at hc
  split at hc
  ·rename_i f1 r1 h3
   cases hc
   have hk:=qz1 (IP:=IP) (call:=call) (fun keep ic s x s' h=>(hloop keep ic s x s' h).1)
   have e:(pre ++ [c1]).foldr Code.seq c2 = pre.foldr Code.seq (.seq c1 c2):=by rw [List.foldr_append]; rfl
   refine qEE ?_
   simp only [qbi] at hx
   split at hx
   ·rename_i s1 hx1
    have hk1:=hk _ _ _ _ hx1
    refine qgj hcall hloop c1 none _ _ _ h1 _ _ _ hx1 w I m a _ F ?_
    rintro e' a' w' ⟨I',m',f',rfl,F'⟩
    have:=qgz hcall hloop k c2 _ _ y1 _ h2 h3 hp' _ _ _ hx w' I' m' a' Q F' fun e'' a'' w'' E=>by
     rw [e]
     exact hQ _ _ _ (by rw [hk1] at E; exact E.after f')
    rw [e] at this
    exact this
   ·rename_i hne
    refine qgj hcall hloop c1 none _ _ _ h1 _ _ _ hx w I m a _ F ?_
    intro e' a' w' E
    have hne':e' ≠ .normal:=E.out fun hxn=>by subst hxn; exact hne s' hx
    have:=hQ _ _ _ E
    cases e' with
    | normal=>exact absurd rfl hne'
    | _=>exact this
  ·cases hc
theorem qb2 {IP:Prog} {call:qaL} {loop:qdj} (hcall:qcy P call) (hloop:qik P loop) {n:Nat}:∀ (c:Code) (keeps keeps':List (List Nat)) (ic:ICode),qFq P hint n c keeps = some (ic,keeps') ->
  ∀ (s:St) (x:X) (s':St),qbi IP call loop ic s = some (x,s') -> ∀ (w:World) (I:Imm) (m:Names) (a:Act) (Q:Exit -> Act -> World -> Prop),Fits w I m s.tm s.hp s.nx n a ->
   (∀ e a' w',Ends w I m s.hp s.k n x s' e a' w' -> Q e a' w') -> c.wp P Q a w:=fun c keeps keeps' ic hc=>qgj hcall hloop c none keeps keeps' ic hc
end
end Go.Eng

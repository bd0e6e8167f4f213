/- The names of an expression: sorted and without repetition, or put in one by one. -/
import Derived.Test.YtgpbobelbcbcaaaGreatDoorTkF
import Derived.Test.YtgpbobelbcbcaaaGreatDoorExA
import Derived.Test.YtgpbobelbcbcaaaGreatDoorE4
set_option linter.unusedVariables false
set_option linter.unusedSimpArgs false
set_option linter.unnecessarySimpa false
namespace Go.Tk
open Go Go.Eng
set_option linter.unusedSimpArgs false
set_option linter.unusedVariables false
theorem qVP:∀ (x y:Bs),qav x y = decide (x < y)
 | [],[]=>by simp [qav,Op.bytesLess]
 | _ :: _,[]=>by simp [qav,Op.bytesLess]
 | [],_ :: _=>by simp [qav,Op.bytesLess]
 | a :: x,b :: y=>by
  have ih:=qVP x y
  have e:qav (a :: x) (b :: y) = (decide (a < b) || (a == b && qav x y)):=rfl
  rw [e,ih]
  simp only [List.cons_lt_cons_iff]
  by_cases h1:a < b <;> by_cases h2:a = b <;> by_cases h3:x < y <;> simp [h1,h2,h3]
theorem qfy:∀ (x y z:Bs),qav x y = true -> qav y z = true -> qav x z = true
 | x,y,[],_,h=>by cases y <;> cases (show false = true from h)
 | x,[],_ :: _,h,_=>by cases x <;> cases (show false = true from h)
 | [],_ :: _,_ :: _,_,_=>rfl
 | a :: x,b :: y,c :: z,h,h'=>by
  have e:∀ (a b:UInt8) (x y:Bs),qav (a :: x) (b :: y) = (decide (a < b) || (a == b && qav x y)):=fun _ _ _ _=>rfl
  rw [e,Bool.or_eq_true,Bool.and_eq_true,decide_eq_true_eq,beq_iff_eq] at h h' ⊢
  have q:∀ a b:UInt8,a < b ↔ a.toNat < b.toNat:=fun _ _=>Iff.rfl
  rcases h with h | ⟨rfl,h⟩
  ·rcases h' with h' | ⟨rfl,h'⟩
   ·rw [q] at h h' ⊢
    exact .inl (by omega)
   ·exact .inl h
  ·rcases h' with h' | ⟨rfl,h'⟩
   ·exact .inl h'
   ·exact .inr ⟨rfl,qfy _ _ _ h h'⟩
theorem qnm (x:Bs):qav x x = false:=by
 have:=qy4 x x
 revert this
 cases qav x x <;> simp
theorem qrk (x y:Bs):qav x y = true \/ x = y \/ qav y x = true:=by
 have h:=qy4 x y
 by_cases h1:qav x y = true
 ·exact .inl h1
 ·by_cases h2:x = y
  ·exact .inr (.inl h2)
  ·refine .inr (.inr ?_)
   rw [h]
   have e1:qav x y = false:=by simpa using h1
   have e2:(x == y) = false:=by simpa using h2
   rw [e1,e2]; rfl
def Asc (l:List Bs):Prop:=l.Pairwise fun a b=>qav a b = true
theorem qDt:∀ {a b:List Bs},Asc a -> Asc b -> (∀ x,x ∈ a ↔ x ∈ b) -> a = b
 | [],[],_,_,_=>rfl
 | [],y :: b,_,_,h=>by have:=(h y).2 (by simp); cases this
 | x :: a,[],_,_,h=>by have:=(h x).1 (by simp); cases this
 | x :: a,y :: b,ha,hb,h=>by
  obtain ⟨ha1,ha2⟩:=List.pairwise_cons.1 ha
  obtain ⟨hb1,hb2⟩:=List.pairwise_cons.1 hb
  have hxy:x = y:=by
   rcases List.mem_cons.1 ((h x).1 (by simp)) with e | hx
   ·exact e
   ·rcases List.mem_cons.1 ((h y).2 (by simp)) with e | hy
    ·exact e.symm
    ·have:=qfy _ _ _ (ha1 y hy) (hb1 x hx)
     rw [qnm] at this; cases this
  subst hxy
  rw [qDt (a:=a) (b:=b) ha2 hb2 fun z=>?_]
  constructor
  ·intro hz
   rcases List.mem_cons.1 ((h z).1 (by simp [hz])) with e | hz'
   ·subst e
    have:=ha1 z hz
    rw [qnm] at this; cases this
   ·exact hz'
  ·intro hz
   rcases List.mem_cons.1 ((h z).2 (by simp [hz])) with e | hz'
   ·subst e
    have:=hb1 z hz
    rw [qnm] at this; cases this
   ·exact hz'
theorem qSd {l:List Bs} {s:Bs} (h:Asc l):Asc (qk3 l s):=by
 unfold qk3
 split
 ·exact h
 ·rename_i hne
  have key:∀ {l:List Bs},Asc l -> l[(l.takeWhile (qav · s)).length]? ≠ some s -> Asc (l.take (l.takeWhile (qav · s)).length ++ [s] ++ l.drop (l.takeWhile (qav · s)).length) /\ True:=by
   intro l
   induction l with
   | nil=>intro _ _; exact ⟨by simp [Asc],trivial⟩
   | cons x l ih=>
    intro h hne
    obtain ⟨h1,h2⟩:=List.pairwise_cons.1 h
    cases hx:qav x s
    ·have e:((x :: l).takeWhile (qav · s)).length = 0:=by simp [List.takeWhile_cons,hx]
     rw [e] at hne ⊢
     have hxs:x ≠ s:=by simpa using hne
     have hsx:qav s x = true:=by
      rcases qrk x s with q | q | q
      ·rw [hx] at q; cases q
      ·exact absurd q hxs
      ·exact q
     refine ⟨?_,trivial⟩
     simp only [List.take_zero,List.nil_append,List.drop_zero,List.singleton_append]
     refine List.pairwise_cons.2 ⟨fun y hy=>?_,h⟩
     rcases List.mem_cons.1 hy with rfl | hy
     ·exact hsx
     ·exact qfy _ _ _ hsx (h1 y hy)
    ·have e:((x :: l).takeWhile (qav · s)).length = (l.takeWhile (qav · s)).length + 1:=by simp [List.takeWhile_cons,hx]
     rw [e] at hne ⊢
     have ih':=(ih h2 (by simpa using hne)).1
     refine ⟨?_,trivial⟩
     simp only [List.take_succ_cons,List.cons_append,List.drop_succ_cons]
     refine List.pairwise_cons.2 ⟨fun y hy=>?_,ih'⟩
     simp only [List.mem_append,List.mem_singleton] at hy
     rcases hy with (hy | rfl) | hy
     ·exact h1 y (List.mem_of_mem_take hy)
     ·exact hx
     ·exact h1 y (List.mem_of_mem_drop hy)
  exact (key h hne).1
theorem qyu:∀ {ns l:List Bs},Asc l -> Asc (ns.foldl qk3 l)
 | [],_,h=>h
 | s :: ns,l,h=>by rw [List.foldl_cons]; exact qyu (qSd h)
theorem qp3:∀ {l:List Ex} {acc:List Bs},Asc acc -> Asc (Ex.namesL acc l)
 | [],acc,h=>by simpa [Ex.namesL] using h
 | e :: l,acc,h=>by rw [Ex.namesL]; exact qp3 (qyu h)
theorem qGo (e:Ex):Asc e.names:=by
 cases e
 rw [Ex.names]
 exact qp3 (by split <;> simp [Asc])
mutual
def Ex.namesP:Ex -> List Bs
 | .mk o _ s l=>(if o = 4 then [s] else []) ++ Ex.namesPL l
def Ex.namesPL:List Ex -> List Bs
 | []=>[]
 | e :: l=>Ex.namesP e ++ Ex.namesPL l
end
mutual
theorem qp5:∀ (e:Ex) (x:Bs),x ∈ e.namesP ↔ x ∈ e.names
 | .mk o n s l,x=>by
  rw [Ex.namesP,Ex.names,qnr,List.mem_append]
theorem qnr:∀ (l:List Ex) (acc:List Bs) (x:Bs),x ∈ Ex.namesL acc l ↔ x ∈ acc \/ x ∈ Ex.namesPL l
 | [],acc,x=>by simp [Ex.namesL,Ex.namesPL]
 | e :: l,acc,x=>by
  rw [Ex.namesL,qnr l,qiZ,Ex.namesPL,List.mem_append,qp5 e,or_assoc]
end
mutual
theorem qhF:∀ e:Ex,e.namesP.length <= e.nodes
 | .mk o n s l=>by
  have:=qnq l
  simp only [Ex.namesP,Ex.nodes,List.length_append]
  split <;> simp <;> omega
theorem qnq:∀ (l:List Ex),(Ex.namesPL l).length <= Ex.nodesL l
 | []=>by simp [Ex.namesPL]
 | e :: l=>by
  have h1:=qhF e
  have h3:=qnq l
  simp only [Ex.namesPL,Ex.nodesL,List.length_append]; omega
end
theorem qyM (x y:Bs):(x <= y) ↔ (qav x y = true \/ x = y):=by
 have h:x <= y ↔ ¬ y < x:=Iff.rfl
 rw [h]
 have h2:=qVP y x
 constructor
 ·intro hn
  rcases qrk x y with q | q | q
  ·exact .inl q
  ·exact .inr q
  ·rw [h2] at q
   exact absurd (of_decide_eq_true q) hn
 ·rintro (q | rfl) hn
  ·have h3:qav y x = true:=by rw [h2]; exact decide_eq_true hn
   have:=qfy _ _ _ q h3
   rw [qnm] at this; cases this
  ·have h3:qav x x = true:=by rw [h2]; exact decide_eq_true hn
   rw [qnm] at h3; cases h3
theorem qIE (l:List Bs):(qfb l).Pairwise fun a b=>qav a b = true \/ a = b:=by
 have h:=List.pairwise_mergeSort (le:=fun x y:Bs=>decide (x <= y)) (fun a b c h1 h2=>by
  rw [decide_eq_true_eq,qyM] at h1 h2 ⊢
  rcases h1 with h1 | rfl
  ·rcases h2 with h2 | rfl
   ·exact .inl (qfy _ _ _ h1 h2)
   ·exact .inl h1
  ·exact h2) (fun a b=>by
  rw [Bool.or_eq_true,decide_eq_true_eq,decide_eq_true_eq,qyM,qyM]
  rcases qrk a b with q | q | q
  ·exact .inl (.inl q)
  ·exact .inl (.inr q)
  ·exact .inr (.inl q)) l
 exact h.imp fun h=>by rw [decide_eq_true_eq,qyM] at h; exact h
theorem qKf {l:List Bs} (h:l.Pairwise fun a b=>qav a b = true \/ a = b):Asc (Lib.compact l):=by
 unfold Lib.compact Lib.compactUpTo Asc
 rw [List.pairwise_map,List.pairwise_filter]
 refine List.Pairwise.imp_of_mem (fun {i j} hi hj hij _ hk=>?_) List.pairwise_lt_range
 have hi':=List.mem_range.1 hi
 have hj':=List.mem_range.1 hj
 simp only [Lib.keeps,decide_eq_true_eq] at hk
 have hne:l.toArray[j]! ≠ l.toArray[j - 1]!:=by
  rcases hk with hk | hk
  ·omega
  ·exact hk
 have g:∀ k,k < l.length -> l.toArray[k]! = l[k]!:=fun k hk=>by simp [hk]
 have hp:=List.pairwise_iff_getElem.1 h
 rw [g j hj',g (j - 1) (by omega)] at hne
 rw [g i hi',g j hj']
 rw [getElem!_pos l j hj',getElem!_pos l (j - 1) (by omega)] at hne
 rw [getElem!_pos l j hj',getElem!_pos l i hi']
 have h2:qav l[j - 1] l[j] = true:=by
  rcases hp (j - 1) j (by omega) hj' (by omega) with q | q
  ·exact q
  ·exact absurd q.symm hne
 by_cases e:i = j - 1
 ·subst e; exact h2
 ·rcases hp i (j - 1) hi' (by omega) (by omega) with q | q
  ·exact qfy _ _ _ q h2
  ·rw [q]; exact h2
theorem qxS {l:List Bs} {x:Bs}:x ∈ Lib.compact l ↔ x ∈ l:=by
 unfold Lib.compact Lib.compactUpTo
 rw [List.mem_map]
 have g:∀ k,k < l.length -> l.toArray[k]! = l[k]!:=fun k hk=>by simp [hk]
 constructor
 ·rintro ⟨i,hi,rfl⟩
  have hi':=List.mem_range.1 (List.mem_filter.1 hi).1
  rw [g i hi',getElem!_pos l i hi']
  exact List.getElem_mem hi'
 ·intro hx
  obtain ⟨i,hi,hxi⟩:=List.getElem_of_mem hx
  have key:∀ i (hi:i < l.length),l[i] = x -> ∃ j,j ∈ (List.range l.length).filter (Lib.keeps l.toArray) /\ l.toArray[j]! = x:=by
   intro i
   induction i with
   | zero=>exact fun hi e=>⟨0,List.mem_filter.2 ⟨List.mem_range.2 hi,by simp [Lib.keeps]⟩,by rw [g 0 hi,getElem!_pos l 0 hi]; exact e⟩
   | succ i ih=>
    intro hi e
    by_cases hq:l[i]'(by omega) = x
    ·exact ih (by omega) hq
    ·refine ⟨i + 1,List.mem_filter.2 ⟨List.mem_range.2 hi,?_⟩,by rw [g _ hi,getElem!_pos l _ hi]; exact e⟩
     simp only [Lib.keeps,decide_eq_true_eq]
     refine .inr ?_
     rw [g _ hi,g _ (show i + 1 - 1 < l.length by omega),getElem!_pos l _ hi,getElem!_pos l _ (show i + 1 - 1 < l.length by omega)]
     intro h
     exact hq (h.symm.trans e)
  exact key i hi hxi
theorem qKS (e:Ex):Lib.compact (qfb e.namesP) = e.names:=by
 refine qDt (qKf (qIE _)) (qGo e) fun x=>?_
 rw [qxS,<- qp5]
 unfold qfb
 exact List.mem_mergeSort
end Go.Tk

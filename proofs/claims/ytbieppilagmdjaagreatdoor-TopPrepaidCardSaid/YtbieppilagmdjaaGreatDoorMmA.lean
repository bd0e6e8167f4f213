/- The machine's own run with facts at hand. -/
import Derived.Test.YtbieppilagmdjaaGreatDoorE3
set_option linter.unusedVariables false
set_option linter.unusedSimpArgs false
set_option linter.unnecessarySimpa false
namespace Go.Eng
mutual
def qeb:AV -> AV -> Bool
 | .int k n,.int k' n'=>decide (k = k') && decide (n = n')
 | .bool a,.bool b=>decide (a = b)
 | .str s,.str t=>decide (s = t)
 | .agg a,.agg b=>qgG a b
 | .tup a,.tup b=>qgG a b
 | .view n a,.view m b=>decide (n = m) && qgG a b
 | .nili,.nili=>true
 | _,_=>false
def qgG:List AV -> List AV -> Bool
 | [],[]=>true
 | x :: xs,y :: ys=>qeb x y && qgG xs ys
 | _,_=>false
end
mutual
theorem qGx:∀ {a b:AV},qeb a b = true -> a = b
 | .int k n,b,h=>by
  cases b <;> simp [qeb] at h
  obtain ⟨rfl,rfl⟩:=h; rfl
 | .bool a,b,h=>by cases b <;> simp [qeb] at h; subst h; rfl
 | .str s,b,h=>by cases b <;> simp [qeb] at h; subst h; rfl
 | .agg a,b,h=>by
  cases b <;> simp only [qeb,Bool.false_eq_true] at h
  rw [qfR h]
 | .tup a,b,h=>by
  cases b <;> simp only [qeb,Bool.false_eq_true] at h
  rw [qfR h]
 | .view n a,b,h=>by
  cases b <;> simp only [qeb,Bool.false_eq_true,Bool.and_eq_true,decide_eq_true_eq] at h
  rw [h.1,qfR h.2]
 | .nili,b,h=>by cases b <;> simp [qeb] at h; rfl
 | .nilp,b,h=>by cases b <;> simp [qeb] at h
 | .nilm,b,h=>by cases b <;> simp [qeb] at h
 | .nilf,b,h=>by cases b <;> simp [qeb] at h
 | .nils _,b,h=>by cases b <;> simp [qeb] at h
 | .ptr _,b,h=>by cases b <;> simp [qeb] at h
 | .own ..,b,h=>by cases b <;> simp [qeb] at h
 | .ref ..,b,h=>by cases b <;> simp [qeb] at h
 | .mref _,b,h=>by cases b <;> simp [qeb] at h
 | .fn ..,b,h=>by cases b <;> simp [qeb] at h
 | .iface ..,b,h=>by cases b <;> simp [qeb] at h
 | .junk,b,h=>by cases b <;> simp [qeb] at h
theorem qfR:∀ {a b:List AV},qgG a b = true -> a = b
 | [],[],_=>rfl
 | [],_ :: _,h=>by simp [qgG] at h
 | _ :: _,[],h=>by simp [qgG] at h
 | x :: xs,y :: ys,h=>by
  simp only [qgG,Bool.and_eq_true] at h
  rw [qGx h.1,qfR h.2]
end
abbrev Facts:=List (Nat × List AV × (Res × Heap))
def qD9:Facts -> Nat -> List AV -> Heap -> Option (Res × Heap)
 | [],_,_,_=>none
 | (g,b,r) :: K,f,a,h=>bif Nat.beq g f && (qgG b a && h.isEmpty) then some r else qD9 K f a h
theorem qkN:∀ {K:Facts} {f:Nat} {a:List AV} {h:Heap} {r:Res × Heap},qD9 K f a h = some r -> h = [] /\ (f,a,r) ∈ K
 | [],_,_,_,_,e=>by cases e
 | (g,b,q) :: K,f,a,h,r,e=>by
  simp only [qD9] at e
  cases hc:Nat.beq g f && (qgG b a && h.isEmpty) with
  | true=>
   rw [hc] at e; cases e
   simp only [Bool.and_eq_true,List.isEmpty_iff] at hc
   obtain ⟨h1,h2,h3⟩:=hc
   have h4:=Nat.eq_of_beq_eq_true h1
   subst h4
   exact ⟨h3,by rw [qfR h2]; simp⟩
  | false=>
   rw [hc] at e
   obtain ⟨h1,h2⟩:=qkN e
   exact ⟨h1,by simp [h2]⟩
def qcL (P:Prog) (S:Nat -> Option Seen) (K:Facts):Nat -> qaL × qdj
  | 0=>(fun f a h=>qD9 K f a h,fun _ _ _=>none)
  | n + 1=>
    (fun f args h=>match qD9 K f args h with
      | some r=>some r
      | none=>match P.fn f with
        | some F=>body P (qcL P S K n).1 (qcL P S K n).2 f F args h
        | none=>match P.spec f with
          | some g=>g args h
          | none=>match S f with
            | some s=>s.g (qcL P S K n).1 args h
            | none=>none,
     fun keep c s=>match norm (hk keep) s with
      | none=>none
      | some s=>match qbi P (qcL P S K n).1 (qcL P S K n).2 c s with
        | some (.normal,s)=>(qcL P S K n).2 keep c s
        | some (x,s)=>qnH keep x s
        | none=>none)
section
variable {IP:Prog} {S:Nat -> Option Seen} {K:Facts} (hS:∀ f s,S f = some s -> ∀ a h r,s.g (qal IP) a h = some r -> qal IP f a h = some r) (hK:∀ x ∈ K,qal IP x.1 x.2.1 [] = some x.2.2)
include hS hK
theorem qmG:∀ n,LeC (qcL IP S K n).1 (qal IP) /\ LeL (qcL IP S K n).2 (qfY IP)
 | 0=>⟨fun f a h r hr=>by
   obtain ⟨rfl,hm⟩:=qkN hr
   exact hK _ hm,fun _ _ _ _ hr=>by cases hr⟩
 | n + 1=>by
  obtain ⟨ih1,ih2⟩:=qmG n
  constructor
  ·intro f a h r hr
   simp only [qcL] at hr
   split at hr
   ·rename_i q hq
    cases hr
    obtain ⟨rfl,hm⟩:=qkN hq
    exact hK _ hm
   ·split at hr
    ·rename_i F hF
     exact quv hF (qpq ih1 ih2 hr)
    ·rename_i hF
     split at hr
     ·rename_i g hg
      exact qhE hF hg hr
     ·split at hr
      ·rename_i s hs
       exact hS f s hs a h r (s.mono _ _ ih1 a h r hr)
      ·cases hr
  ·intro k c s r hr
   simp only [qcL] at hr
   split at hr
   ·cases hr
   ·rename_i s1 hn
    split at hr
    ·rename_i s2 hx
     exact qiW hn (qe9 ih1 ih2 hx) (ih2 _ _ _ _ hr)
    ·rename_i x s2 hne hx
     refine qiW hn (qe9 ih1 ih2 hx) ?_
     cases x <;> first | exact hr | exact (hne rfl).elim | exact (hne _ rfl).elim
    ·cases hr
theorem qWe (n:Nat) {f:Nat} {a:List AV} {r:Res × Heap} (h:(qcL IP S K n).1 f a [] = some r):qal IP f a [] = some r:=(qmG hS hK n).1 _ _ _ _ h
end
end Go.Eng

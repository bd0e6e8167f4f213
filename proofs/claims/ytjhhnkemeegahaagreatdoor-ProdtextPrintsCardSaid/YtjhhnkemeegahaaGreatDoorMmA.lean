/- The machine's own run with facts at hand. -/
import Derived.Test.YtjhhnkemeegahaaGreatDoorE3
set_option linter.all false
namespace Go.Eng
mutual
def qim:AV->AV->Bool
 | .int k n,.int k' n'=>decide (k=k')&&decide (n=n')
 | .bool a,.bool b=>decide (a=b)
 | .str s,.str t=>decide (s=t)
 | .agg a,.agg b=>qdF a b
 | .tup a,.tup b=>qdF a b
 | .view n a,.view m b=>decide (n=m)&&qdF a b
 | .nili,.nili=>true
 |_,_=>false
def qdF:List AV->List AV->Bool
 | [],[]=>true
 |x::xs,y::ys=>qim x y&&qdF xs ys
 |_,_=>false
end
mutual
theorem q60:∀{a b:AV},qim a b=true->a=b
 | .int k n,b,h=>by
  cases b<;>simp[qim]at h;obtain⟨rfl,rfl⟩:=h;rfl
 | .bool a,b,h=>by cases b<;>simp[qim]at h;subst h;rfl
 | .str s,b,h=>by cases b<;>simp[qim]at h;subst h;rfl
 | .agg a,b,h=>by
  cases b<;>simp only[qim,jAn]at h;rw[qnR h]
 | .tup a,b,h=>by
  cases b<;>simp only[qim,jAn]at h;rw[qnR h]
 | .view n a,b,h=>by
  cases b<;>simp only[qim,jAn,jA1,jA6]at h;rw[h.1,qnR h.2]
 | .nili,b,h=>by cases b<;>simp[qim]at h;rfl
 | .nilp,b,h=>by cases b<;>simp[qim]at h
 | .nilm,b,h=>by cases b<;>simp[qim]at h
 | .nilf,b,h=>by cases b<;>simp[qim]at h
 | .nils _,b,h=>by cases b<;>simp[qim]at h
 | .ptr _,b,h=>by cases b<;>simp[qim]at h
 | .own ..,b,h=>by cases b<;>simp[qim]at h
 | .ref ..,b,h=>by cases b<;>simp[qim]at h
 | .mref _,b,h=>by cases b<;>simp[qim]at h
 | .fn ..,b,h=>by cases b<;>simp[qim]at h
 | .iface ..,b,h=>by cases b<;>simp[qim]at h
 | .junk,b,h=>by cases b<;>simp[qim]at h
theorem qnR:∀{a b:List AV},qdF a b=true->a=b
 | [],[],_=>rfl
 | [],_::_,h=>by simp[qdF]at h
 |_::_,[],h=>by simp[qdF]at h
 |x::xs,y::ys,h=>by
  simp only[qdF,jA1]at h;rw[q60 h.1,qnR h.2]
end
abbrev Facts:=List (Nat×List AV×(Res×Heap))
def q2D:Facts->Nat->List AV->Heap->Option (Res×Heap)
 | [],_,_,_=>none
 |(g,b,r)::K,f,a,h=>bif Nat.beq g f&&(qdF b a&&h.isEmpty)then some r else q2D K f a h
theorem qwt:∀{K:Facts} {f:Nat} {a:List AV} {h:Heap} {r:Res×Heap},q2D K f a h=some r->h= []/\(f,a,r)∈K
 | [],_,_,_,_,e=>by cases e
 |(g,b,q)::K,f,a,h,r,e=>by
  simp only[q2D]at e;cases hc:Nat.beq g f&&(qdF b a&&h.isEmpty)with
  |true=>
   rw[hc]at e;cases e;simp only[jA1,List.isEmpty_iff]at hc;obtain⟨h1,h2,h3⟩:=hc;have h4:=Nat.eq_of_beq_eq_true h1;subst h4;exact⟨h3,by rw[qnR h2];simp⟩
  |false=>
   rw[hc]at e;obtain⟨h1,h2⟩:=qwt e;exact⟨h1,by simp[h2]⟩
def qgU(P:Prog)(S:Nat->Option Seen)(K:Facts):Nat->qa5×qg7
  |0=>(fun f a h=>q2D K f a h,fun _ _ _=>none)
  |n+1=>
    (fun f args h=>match q2D K f args h with
      |some r=>some r
      |none=>match P.fn f with
        |some F=>body P (qgU P S K n).1 (qgU P S K n).2 f F args h
        |none=>match P.spec f with
          |some g=>g args h
          |none=>match S f with
            |some s=>s.g (qgU P S K n).1 args h
            |none=>none,
     fun keep c s=>match norm (hk keep) s with
      |none=>none
      |some s=>match qb6 P (qgU P S K n).1 (qgU P S K n).2 c s with
        |some (.normal,s)=>(qgU P S K n).2 keep c s
        |some (x,s)=>qBl keep x s
        |none=>none)
section
variable {IP:Prog} {S:Nat->Option Seen} {K:Facts} (hS:∀f s,S f=some s-> ∀a h r,s.g (qa9 IP) a h=some r->qa9 IP f a h=some r) (hK:∀x∈K,qa9 IP x.1 x.2.1 []=some x.2.2)
include hS hK
theorem qzd:∀n,LeC (qgU IP S K n).1 (qa9 IP)/\LeL (qgU IP S K n).2 (qlY IP)
 |0=>⟨fun f a h r hr=>by
   obtain⟨rfl,hm⟩:=qwt hr;exact hK _ hm,fun _ _ _ _ hr=>by cases hr⟩
 |n+1=>by
  obtain⟨ih1,ih2⟩:=qzd n;constructor
  ·intro f a h r hr;simp only[qgU]at hr;split at hr
   ·rename_i q hq;cases hr;obtain⟨rfl,hm⟩:=qwt hq;exact hK _ hm
   ·split at hr
    ·rename_i F hF;exact qJM hF (qDl ih1 ih2 hr)
    ·rename_i hF;split at hr
     ·rename_i g hg;exact qxO hF hg hr
     ·split at hr
      ·rename_i s hs;exact hS f s hs a h r (s.mono _ _ ih1 a h r hr)
      ·cases hr
  ·intro k c s r hr;simp only[qgU]at hr;split at hr
   ·cases hr
   ·rename_i s1 hn;split at hr
    ·rename_i s2 hx;exact qq7 hn (qj4 ih1 ih2 hx) (ih2 _ _ _ _ hr)
    ·rename_i x s2 hne hx;refine qq7 hn (qj4 ih1 ih2 hx) ?_;cases x<;>first|exact hr|exact(hne rfl).elim|exact(hne _ rfl).elim
    ·cases hr
theorem qDq(n:Nat){f:Nat}{a:List AV}{r:Res×Heap}(h:(qgU IP S K n).1 f a []=some r):qa9 IP f a []=some r:=(qzd hS hK n).1 _ _ _ _ h
end
end Go.Eng

/- The machine's own run with facts at hand. -/
import Derived.Test.YtjhhnkemeegahaaGreatDoorE3
set_option linter.all false
namespace Go.Eng
mutual
def zuF:AV->AV->Bool
 | .int k n,.int k' n'=>decide (k=k')&&decide (n=n')
 | .bool a,.bool b=>decide (a=b)
 | .str s,.str t=>decide (s=t)
 | .agg a,.agg b=>zuH a b
 | .tup a,.tup b=>zuH a b
 | .view n a,.view m b=>decide (n=m)&&zuH a b
 | .nili,.nili=>true
 |_,_=>false
def zuH:List AV->List AV->Bool
 | [],[]=>true
 |x::xs,y::ys=>zuF x y&&zuH xs ys
 |_,_=>false
end
mutual
theorem zuO:∀{a b:AV},zuF a b=true->a=b
 | .int k n,b,h=>by
  cases b<;>simp[zuF]at h;obtain⟨rfl,rfl⟩:=h;rfl
 | .bool a,b,h=>by cases b<;>simp[zuF]at h;subst h;rfl
 | .str s,b,h=>by cases b<;>simp[zuF]at h;subst h;rfl
 | .agg a,b,h=>by
  cases b<;>simp only[zuF,jAn]at h;rw[zuG h]
 | .tup a,b,h=>by
  cases b<;>simp only[zuF,jAn]at h;rw[zuG h]
 | .view n a,b,h=>by
  cases b<;>simp only[zuF,jAn,jA1,jA6]at h;rw[h.1,zuG h.2]
 | .nili,b,h=>by cases b<;>simp[zuF]at h;rfl
 | .nilp,b,h=>by cases b<;>simp[zuF]at h
 | .nilm,b,h=>by cases b<;>simp[zuF]at h
 | .nilf,b,h=>by cases b<;>simp[zuF]at h
 | .nils _,b,h=>by cases b<;>simp[zuF]at h
 | .ptr _,b,h=>by cases b<;>simp[zuF]at h
 | .own ..,b,h=>by cases b<;>simp[zuF]at h
 | .ref ..,b,h=>by cases b<;>simp[zuF]at h
 | .mref _,b,h=>by cases b<;>simp[zuF]at h
 | .fn ..,b,h=>by cases b<;>simp[zuF]at h
 | .iface ..,b,h=>by cases b<;>simp[zuF]at h
 | .junk,b,h=>by cases b<;>simp[zuF]at h
theorem zuG:∀{a b:List AV},zuH a b=true->a=b
 | [],[],_=>rfl
 | [],_::_,h=>by simp[zuH]at h
 |_::_,[],h=>by simp[zuH]at h
 |x::xs,y::ys,h=>by
  simp only[zuH,jA1]at h;rw[zuO h.1,zuG h.2]
end
abbrev Facts:=List (Nat×List AV×(Res×Heap))
def qZM:Facts->Nat->List AV->Heap->Option (Res×Heap)
 | [],_,_,_=>none
 |(g,b,r)::K,f,a,h=>bif Nat.beq g f&&(zuH b a&&h.isEmpty)then some r else qZM K f a h
theorem qub:∀{K:Facts} {f:Nat} {a:List AV} {h:Heap} {r:Res×Heap},qZM K f a h=some r->h= []/\(f,a,r)∈K
 | [],_,_,_,_,e=>by cases e
 |(g,b,q)::K,f,a,h,r,e=>by
  simp only[qZM]at e;cases hc:Nat.beq g f&&(zuH b a&&h.isEmpty)with
  |true=>
   rw[hc]at e;cases e;simp only[jA1,List.isEmpty_iff]at hc;obtain⟨h1,h2,h3⟩:=hc;have h4:=Nat.eq_of_beq_eq_true h1;subst h4;exact⟨h3,by rw[zuG h2];simp⟩
  |false=>
   rw[hc]at e;obtain⟨h1,h2⟩:=qub e;exact⟨h1,by simp[h2]⟩
def qgf(P:Prog)(S:Nat->Option Seen)(K:Facts):Nat->qa2×qgp
  |0=>(fun f a h=>qZM K f a h,fun _ _ _=>none)
  |n+1=>
    (fun f args h=>match qZM K f args h with
      |some r=>some r
      |none=>match P.fn f with
        |some F=>body P (qgf P S K n).1 (qgf P S K n).2 f F args h
        |none=>match P.spec f with
          |some g=>g args h
          |none=>match S f with
            |some s=>s.g (qgf P S K n).1 args h
            |none=>none,
     fun keep c s=>match norm (hk keep) s with
      |none=>none
      |some s=>match qbY P (qgf P S K n).1 (qgf P S K n).2 c s with
        |some (.normal,s)=>(qgf P S K n).2 keep c s
        |some (x,s)=>qyM keep x s
        |none=>none)
section
variable {IP:Prog} {S:Nat->Option Seen} {K:Facts} (hS:∀f s,S f=some s-> ∀a h r,s.g (qba IP) a h=some r->qba IP f a h=some r) (hK:∀x∈K,qba IP x.1 x.2.1 []=some x.2.2)
include hS hK
theorem qwA:∀n,LeC (qgf IP S K n).1 (qba IP)/\LeL (qgf IP S K n).2 (qkR IP)
 |0=>⟨fun f a h r hr=>by
   obtain⟨rfl,hm⟩:=qub hr;exact hK _ hm,fun _ _ _ _ hr=>by cases hr⟩
 |n+1=>by
  obtain⟨ih1,ih2⟩:=qwA n;constructor
  ·intro f a h r hr;simp only[qgf]at hr;split at hr
   ·rename_i q hq;cases hr;obtain⟨rfl,hm⟩:=qub hq;exact hK _ hm
   ·split at hr
    ·rename_i F hF;exact qHd hF (qAN ih1 ih2 hr)
    ·rename_i hF;split at hr
     ·rename_i g hg;exact qvq hF hg hr
     ·split at hr
      ·rename_i s hs;exact hS f s hs a h r (s.mono _ _ ih1 a h r hr)
      ·cases hr
  ·intro k c s r hr;simp only[qgf]at hr;split at hr
   ·cases hr
   ·rename_i s1 hn;split at hr
    ·rename_i s2 hx;exact qpt hn (qjd ih1 ih2 hx) (ih2 _ _ _ _ hr)
    ·rename_i x s2 hne hx;refine qpt hn (qjd ih1 ih2 hx) ?_;cases x<;>first|exact hr|exact(hne rfl).elim|exact(hne _ rfl).elim
    ·cases hr
theorem qAS(n:Nat){f:Nat}{a:List AV}{r:Res×Heap}(h:(qgf IP S K n).1 f a []=some r):qba IP f a []=some r:=(qwA hS hK n).1 _ _ _ _ h
end
end Go.Eng

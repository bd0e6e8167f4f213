/- expr.Parse by what its callees do: it hands on what is read, or the place of the token where the reader gave up. -/
import Derived.Test.YtgpbobelbcbcaaaGreatDoorJnA
import Derived.Test.YtgpbobelbcbcaaaGreatDoorExA
import Derived.Test.YtgpbobelbcbcaaaGreatDoorE3
set_option linter.unusedVariables false
set_option linter.unusedSimpArgs false
set_option linter.unnecessarySimpa false
namespace Go.Tk
open Go Go.Eng
set_option maxRecDepth 20000
def exZ:AV:=.agg [.int .i64 0,.int .i64 0,.str [],.view 4 []]
def qHy (e:AV) (k f:Int):Res × Heap:=(.ret (.tup [e,.int .i64 k,.int .i64 f]),[])
def qzj (fE fV tw:Nat) (call:qa7):List AV -> Heap -> Option (Res × Heap)
 | [.view sz es,.int .i64 k],[]=>
  if sz = 3 then
   if k < 0 \/ (es.length:Int) < k then some (qHy exZ k 2)
   else match call fE [.ref 0 0 0] [(0,.box [.view 3 es,.int .i64 k] false)] with
    | some (.ret (.agg [.int .i64 o,.int .i64 n,.str s,.view q xs]),[(0,.box [.view q0 es0,.int .i64 k'] false)])=>
     match call fV [.agg [.int .i64 o,.int .i64 n,.str s,.view q xs]] [] with
     | some (.ret (.int .i64 f),[])=>if f = 0 then some (qHy (.agg [.int .i64 o,.int .i64 n,.str s,.view q xs]) k' 0) else some (qHy exZ k f)
     | _=>none
    | some (.pan (.iface t (.agg [.int .i64 k'])),[(0,.box [.view q0 es0,.int .i64 k0] false)])=>if t = tw then some (qHy exZ k' 2) else none
    | _=>none
  else none
 | _,_=>none
theorem qnQ {fE fV tw:Nat} {call:qa7} {a:List AV} {h:Heap} {r:Res × Heap} (hg:qzj fE fV tw call a h = some r):∃ es k,a = [.view 3 es,.int .i64 k] /\ h = [] /\
    (((k < 0 \/ (es.length:Int) < k) /\ r = qHy exZ k 2) \/ (¬ (k < 0 \/ (es.length:Int) < k) /\
      ((∃ o n s q xs q0 es0 k' f,call fE [.ref 0 0 0] [(0,.box [.view 3 es,.int .i64 k] false)] = some (.ret (.agg [.int .i64 o,.int .i64 n,.str s,.view q xs]),[(0,.box [.view q0 es0,.int .i64 k'] false)]) /\
        call fV [.agg [.int .i64 o,.int .i64 n,.str s,.view q xs]] [] = some (.ret (.int .i64 f),[]) /\ r = if f = 0 then qHy (.agg [.int .i64 o,.int .i64 n,.str s,.view q xs]) k' 0 else qHy exZ k f) \/
       (∃ k' q0 es0 k0,call fE [.ref 0 0 0] [(0,.box [.view 3 es,.int .i64 k] false)] = some (.pan (.iface tw (.agg [.int .i64 k'])),[(0,.box [.view q0 es0,.int .i64 k0] false)]) /\ r = qHy exZ k' 2)))):=by
  unfold qzj at hg
  split at hg
  · rename_i sz es k
    split at hg
    · rename_i hsz
      subst hsz
      refine ⟨es,k,rfl,rfl,?_⟩
      split at hg
      · rename_i hk
        cases hg
        exact .inl ⟨hk,rfl⟩
      · rename_i hk
        refine .inr ⟨hk,?_⟩
        split at hg
        · rename_i o n s q xs q0 es0 k' hc
          split at hg
          · rename_i f hf
            refine .inl ⟨o,n,s,q,xs,q0,es0,k',f,hc,hf,?_⟩
            split at hg <;> cases hg <;> rename_i h0
            · rw [if_pos h0]
            · rw [if_neg h0]
          · cases hg
        · rename_i t k' q0 es0 k0 hc
          split at hg
          · rename_i ht
            subst ht
            cases hg
            exact .inr ⟨k',q0,es0,k0,hc,rfl⟩
          · cases hg
        · cases hg
    · cases hg
  · cases hg
theorem qHx {c c':qa7} (h:∀ f a h r,c f a h = some r -> c' f a h = some r) {fE fV tw:Nat} {a:List AV} {hp:Heap} {r:Res × Heap} (hg:qzj fE fV tw c a hp = some r):qzj fE fV tw c' a hp = some r:=by
 obtain ⟨es,k,rfl,rfl,hr⟩:=qnQ hg
 simp only [qzj,if_true]
 rcases hr with ⟨hk,rfl⟩ | ⟨hk,⟨o,n,s,q,xs,q0,es0,k',f,h1,h2,rfl⟩ | ⟨k',q0,es0,k0,h1,rfl⟩⟩
 ·rw [if_pos hk]
 ·rw [if_neg hk,h _ _ _ _ h1]
  simp only [h _ _ _ _ h2]
  split <;> rfl
 ·rw [if_neg hk,h _ _ _ _ h1]
  simp
def qnR (fE fV tw:Nat):Seen where
 g:=qzj fE fV tw
 mono:=fun _ _ h _ _ _ hg=>qHx h hg
theorem qHz {IP:Prog} {f fE fV tw:Nat} (hF:IP.fn f = none) (hS:IP.spec f = none) (hs:IP.seen f = some (qnR fE fV tw)) {es:List AV} {k:Int} {r:Res × Heap} (hg:qzj fE fV tw (qbs IP) [.view 3 es,.int .i64 k] [] = some r):qbs IP f [.view 3 es,.int .i64 k] [] = some r:=by
 obtain ⟨es',k0,he,_,hr⟩:=qnQ hg
 cases he
 have e:(qnR fE fV tw).g = qzj fE fV tw:=rfl
 rcases hr with ⟨hk,rfl⟩ | ⟨hk,⟨o,n,s,q,xs,q0,es0,k',f',h1,h2,rfl⟩ | ⟨k',q0,es0,k0,h1,rfl⟩⟩
 ·refine qhw hF hS hs (n:=0) ?_
  rw [e]
  simp only [qzj,if_true,if_pos hk]
 ·obtain ⟨n1,hn1⟩:=qb0.1 h1
  obtain ⟨n2,hn2⟩:=qb0.1 h2
  refine qhw hF hS hs (n:=max n1 n2) ?_
  rw [e]
  simp only [qzj,if_true,if_neg hk,(qbB (Nat.le_max_left n1 n2)).1 _ _ _ _ hn1,(qbB (Nat.le_max_right n1 n2)).1 _ _ _ _ hn2]
  split <;> rfl
 ·obtain ⟨n1,hn1⟩:=qb0.1 h1
  refine qhw hF hS hs (n:=n1) ?_
  rw [e]
  simp only [qzj,if_true,if_neg hk,hn1]
abbrev PaR:Type:=Int × Int × Bs × List AV × Int × Int
def paF (r:PaR):Res × Heap:=qHy (.agg [.int .i64 r.1,.int .i64 r.2.1,.str r.2.2.1,.view 4 r.2.2.2.1]) r.2.2.2.2.1 r.2.2.2.2.2
noncomputable def paB (IP:Prog) (f:Nat) (es:List AV) (k:Int):Bool:=@decide (∃ r,qbs IP f [.view 3 es,.int .i64 k] [] = some (paF r)) (Classical.propDecidable _)
open Classical in
noncomputable def paV (IP:Prog) (f:Nat) (es:List AV) (k:Int):PaR:=if h:∃ r,qbs IP f [.view 3 es,.int .i64 k] [] = some (paF r) then h.choose else (0,0,[],[],0,0)
theorem qWb {IP:Prog} {f:Nat} {es:List AV} {k:Int} {r:PaR} (h:qbs IP f [.view 3 es,.int .i64 k] [] = some (paF r)):paB IP f es k = true /\ paV IP f es k = r:=by
 have hx:∃ r,qbs IP f [.view 3 es,.int .i64 k] [] = some (paF r):=⟨r,h⟩
 refine ⟨by unfold paB; exact @decide_eq_true _ (Classical.propDecidable _) hx,?_⟩
 unfold paV
 rw [dif_pos hx]
 have:=h.symm.trans hx.choose_spec
 obtain ⟨a,b,c,d,e,g⟩:=r
 generalize hx.choose = z at this
 obtain ⟨a',b',c',d',e',g'⟩:=z
 simp only [paF,qHy,Option.some.injEq,Prod.mk.injEq,Res.ret.injEq,AV.tup.injEq,AV.agg.injEq,List.cons.injEq,AV.int.injEq,AV.str.injEq,AV.view.injEq,and_true,true_and] at this
 obtain ⟨⟨rfl,rfl,rfl,rfl⟩,rfl,rfl⟩:=this
 rfl
theorem qSs {IP:Prog} {f:Nat} {es:List AV} {k:Int} (h:paB IP f es k = true):qbs IP f [.view 3 es,.int .i64 k] [] = some (paF (paV IP f es k)):=by
 have hx:∃ r,qbs IP f [.view 3 es,.int .i64 k] [] = some (paF r):=by
  unfold paB at h; exact @of_decide_eq_true _ (Classical.propDecidable _) h
 obtain ⟨r,hr⟩:=hx
 rw [(qWb hr).2]; exact hr
noncomputable def paO (IP:Prog) (f:Nat) (es:List AV) (k:Int):Int:=(paV IP f es k).1
noncomputable def paN (IP:Prog) (f:Nat) (es:List AV) (k:Int):Int:=(paV IP f es k).2.1
noncomputable def paS (IP:Prog) (f:Nat) (es:List AV) (k:Int):Bs:=(paV IP f es k).2.2.1
noncomputable def paX (IP:Prog) (f:Nat) (es:List AV) (k:Int):List AV:=(paV IP f es k).2.2.2.1
noncomputable def paK (IP:Prog) (f:Nat) (es:List AV) (k:Int):Int:=(paV IP f es k).2.2.2.2.1
noncomputable def paE (IP:Prog) (f:Nat) (es:List AV) (k:Int):Int:=(paV IP f es k).2.2.2.2.2
noncomputable def qZ9 (IP:Prog) (f:Nat):Ent:=fun a h=>match a,h with
 | [.view 3 es,.int .i64 k],[]=>[(paB IP f es k,.ret (.tup [.agg [.int .i64 (paO IP f es k),.int .i64 (paN IP f es k),.str (paS IP f es k),.view 4 (paX IP f es k)],.int .i64 (paK IP f es k),.int .i64 (paE IP f es k)]),[])]
 | _,_=>[]
theorem qSv (IP:Prog) (f:Nat):Snd IP f (qZ9 IP f):=by
 intro a h r h' hm
 unfold qZ9 at hm
 split at hm
 ·simp only [List.mem_singleton,Prod.mk.injEq,eq_comm (a:=true)] at hm
  obtain ⟨h1,rfl,rfl⟩:=hm
  exact qSs h1
 ·cases hm
end Go.Tk

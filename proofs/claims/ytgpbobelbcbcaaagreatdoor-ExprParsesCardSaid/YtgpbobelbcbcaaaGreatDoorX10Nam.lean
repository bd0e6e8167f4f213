/- Names, equal expressions and lists, and how many nodes. -/
import Derived.Test.YtgpbobelbcbcaaaGreatDoorX10Rpa
import Derived.Test.YtgpbobelbcbcaaaGreatDoorPnA
import Derived.Test.YtgpbobelbcbcaaaGreatDoorPsF
set_option linter.unusedVariables false
set_option linter.unusedSimpArgs false
set_option linter.unnecessarySimpa false
namespace Go.Proofs.H10
open Go Go.Eng Go.Tk
set_option maxRecDepth 20000
theorem qmS {l:List Bs} (hl:l.length <= big):qh1 (ES l) (ES l) = some true:=by
 have hL:qtP (ES l,ES l,0) = some (1,ES l,ES l,(l.length:Int)):=by
  rw [qtQ]
  refine qdt (fun i=>(ES l,ES l,(i:Int))) l.length 1 0 (Nat.zero_le _) (fun m _ hm=>?_) ?_
  ·show (qhk (ES l) (ES l) (m:Int)).ev = _
   have hlt:decide ((m:Int) < ((ES l).length:Int)) = true:=by rw [List.length_map]; exact qbn hm
   rw [qhk]
   refine (brT hlt).trans ((brT (qBv hm)).trans ((brT (qBv hm)).trans ((brF (by simp)).trans ?_)))
   rw [qat hm hl]; rfl
  ·show (qhk (ES l) (ES l) (l.length:Int)).ev = _
   rw [qhk]
   exact (brF (by simp)).trans rfl
 rw [qEy,qsE]
 exact (brF (by simp)).trans ((biN (pj0 hL)).trans ((biS (pj1 hL)).trans rfl))
theorem qs3:∀ e:Ex,e.nodes <= big -> ∀ f:Ex,f.nodes <= big -> ∀ K,e.dep <= K -> qeh K e.op e.num e.txt (EX e.args) f.op f.num f.txt (EX f.args) = some (qhX e f):=by
 intro e
 induction e using Ex.ind with
 | h o n s l ih=>
  intro hb f hbf K hK
  obtain ⟨p,q,t,m⟩:=f
  have hdep:(Ex.mk o n s l).dep = Ex.depL l + 1:=by simp [Ex.dep]
  obtain ⟨J,rfl⟩:∃ J,K = J + 1:=⟨K - 1,by omega⟩
  simp only [Ex.nodes] at hb hbf
  have hll:=Ex.nodesL_len l
  simp only [Ex.op,Ex.num,Ex.txt,Ex.args]
  show (qlO (qeh J) o n s (EX l) p q t (EX m)).ev = _
  unfold qlO
  rw [List.length_map,List.length_map,qhX]
  by_cases hlen:l.length = m.length
  ·have hL:∃ w,qnh (qeh J) (0,o,n,s,EX l,p,q,t,EX m) = some (bif qfa l m then 1 else 0,w):=by
    rw [qpW]
    refine quM (fun i=>((i:Int),o,n,s,EX l,p,q,t,EX m)) hlen (fun i h h'=>?_) ?_
    ·have hx:=List.getElem_mem h
     have hy:=List.getElem_mem h'
     have h1:=Ex.nodesL_mem hx
     have h2:=Ex.depL_mem hx
     have h3:=Ex.nodesL_mem hy
     have hg:=ih l[i] hx (by omega) m[i] (by omega) J (by omega)
     simp only [qjs,qky,List.length_map,qbn h,okX h,okX h',qx0 h,qx1 h,qx2 h,qx3 h,qx0 h',qx1 h',qx2 h',qx3 h',hg,ev_br,ev_at,ev_bi_some,cond_true,qat h (show l.length <= big by omega)]
     cases qhX l[i] m[i] <;> rfl
    ·simp [qjs,qky]
   obtain ⟨w,hL⟩:=hL
   have e1:((l.length:Int) != (m.length:Int)) = false:=by rw [hlen]; simp
   rw [e1,hL]
   have e2:(o != p) = !(o == p):=rfl
   have e3:(n != q) = !(n == q):=rfl
   rw [e2,e3]
   cases (o == p) <;> cases (n == q) <;> cases (s == t) <;> cases (qfa l m) <;> rfl
  ·have e1:((l.length:Int) != (m.length:Int)) = true:=by simp; omega
   rw [e1,qog hlen]
   have e2:(o != p) = !(o == p):=rfl
   have e3:(n != q) = !(n == q):=rfl
   rw [e2,e3]
   cases (o == p) <;> cases (n == q) <;> cases (s == t) <;> rfl
theorem qep {e f:Ex} (he:e.nodes <= big) (hf:f.nodes <= big):qaJ e.op e.num e.txt (EX e.args) f.op f.num f.txt (EX f.args) = some (qhX e f):=qb3 (qs3 e he f hf)
theorem qqZ:∀ e:Ex,e.nodes <= big -> ∀ f:Ex,f.nodes <= big -> ∀ K,2 * e.dep <= K -> (qa9 K).1 e.op e.num e.txt (EX e.args) f.op f.num f.txt (EX f.args) = some (qhX e f):=by
 intro e
 induction e using Ex.ind with
 | h o n s l ih=>
  intro hb f hbf K hK
  obtain ⟨p,q,t,m⟩:=f
  have hdep:(Ex.mk o n s l).dep = Ex.depL l + 1:=by simp [Ex.dep]
  obtain ⟨J,rfl⟩:∃ J,K = J + 2:=⟨K - 2,by omega⟩
  simp only [Ex.nodes] at hb hbf
  have hll:=Ex.nodesL_len l
  have hE:(qa9 (J + 1)).2 (EX l) (EX m) = some (qfa l m):=by
   show (qzA (qa9 J).1 (qa9 J).2 (EX l) (EX m)).ev = _
   unfold qzA
   rw [List.length_map,List.length_map]
   by_cases hlen:l.length = m.length
   ·have hL:∃ w,qFA (qa9 J).1 (qa9 J).2 (EX m,EX l,(l.length:Int),0) = some (bif qfa l m then 1 else 0,w):=by
     rw [qyy]
     refine quM (fun i=>(EX m,EX l,(l.length:Int),(i:Int))) hlen (fun i h h'=>?_) ?_
     ·have hx:=List.getElem_mem h
      have hy:=List.getElem_mem h'
      have h1:=Ex.nodesL_mem hx
      have h2:=Ex.depL_mem hx
      have h3:=Ex.nodesL_mem hy
      have hg:=ih l[i] hx (by omega) m[i] (by omega) J (by omega)
      simp only [qvd,qrN,List.length_map,qbn h,okX h,okX h',qx0 h,qx1 h,qx2 h,qx3 h,qx0 h',qx1 h',qx2 h',qx3 h',hg,ev_br,ev_at,ev_bi_some,cond_true,qat h (show l.length <= big by omega)]
      cases qhX l[i] m[i] <;> rfl
     ·simp [qvd,qrN]
    obtain ⟨w,hL⟩:=hL
    have e1:((l.length:Int) != (m.length:Int)) = false:=by rw [hlen]; simp
    rw [e1,hL]
    cases (qfa l m) <;> rfl
   ·have e1:((l.length:Int) != (m.length:Int)) = true:=by simp; omega
    rw [e1,qog hlen]; rfl
  simp only [Ex.op,Ex.num,Ex.txt,Ex.args]
  show (qlG (qa9 (J + 1)).1 (qa9 (J + 1)).2 o n s (EX l) p q t (EX m)).ev = _
  unfold qlG
  rw [hE,qhX]
  cases (o == p) <;> cases (n == q) <;> cases (s == t) <;> rfl
theorem qgc {e f:Ex} (he:e.nodes <= big) (hf:f.nodes <= big):qcD e.op e.num e.txt (EX e.args) f.op f.num f.txt (EX f.args) = some (qhX e f):=qb3 (qqZ e he f hf)
def nmP:List Bs -> (List AV) ⊕ Unit
 | []=>.inr ()
 | s :: l=>.inl (ES (s :: l))
def nst (l:List Ex) (acc:List Bs) (i:Int):qel:=match acc with
 | []=>.inr (EX l,((EX l).length:Int),i)
 | s :: r=>.inl (EX l,((EX l).length:Int),i,ES (s :: r))
theorem qkR:∀ (l:List Ex) (acc:List Bs),l.foldl (fun a x=>a ++ Ex.namesP x) acc = acc ++ Ex.namesPL l
 | [],acc=>by simp [Ex.namesPL]
 | e :: l,acc=>by rw [List.foldl_cons,qkR l,Ex.namesPL,List.append_assoc]
theorem snE (s:Bs) (l:List Bs):(decide ((ES (s :: l)).length = 0) && decide (1 = 1)) = false:=rfl
theorem snF (s:Bs) (l:List Bs) {n:Nat} (hn:n <= 10000000):(decide ((ES (s :: l)).length ≠ 0) && room n 16) = true:=by
 have h1:room n 16 = true:=qiy (by simp only [lim]; omega)
 rw [h1]; rfl
theorem qGp:∀ e:Ex,e.nodes <= 1000000 -> ∀ K,e.dep <= K -> qb2 K e.op e.num e.txt (EX e.args) = some (nmP e.namesP):=by
 intro e
 induction e using Ex.ind with
 | h o n s l ih=>
  intro hb K hK
  have hdep:(Ex.mk o n s l).dep = Ex.depL l + 1:=by simp [Ex.dep]
  obtain ⟨J,rfl⟩:∃ J,K = J + 1:=⟨K - 1,by omega⟩
  simp only [Ex.nodes] at hb
  have hll:=Ex.nodesL_len l
  simp only [Ex.op,Ex.num,Ex.txt,Ex.args]
  have hL:∀ acc:List Bs,acc.length <= 1 -> qi7 (qb2 J) (nst l acc 0) = some (if acc ++ Ex.namesPL l = [] then 1 else 0,nst l (acc ++ Ex.namesPL l) (l.length:Int)):=by
   intro acc hacc
   rw [qt9,<- qkR]
   refine qg5 (l:=l) (hd:=fun i a=>nst l a (i:Int)) (f:=fun a x=>a ++ Ex.namesP x) (jx:=fun a=>if a = [] then 1 else 0) (inv:=fun n a=>a.length <= 1 + Ex.nodesL (l.take n)) ?_ ?_ ?_ ?_
   ·simp only [List.take_zero,Ex.nodesL]; omega
   ·intro n a hn ha
    have:=qhF l[n]
    rw [List.take_succ_eq_append_getElem hn,Ex.nodesL_app,List.length_append]
    simp only [Ex.nodesL]; omega
   ·intro n a hn ha
    have hx:l[n] ∈ l:=List.getElem_mem hn
    have h1:=Ex.nodesL_mem hx
    have h2:=Ex.depL_mem hx
    have hs:Ex.nodesL (l.take n) <= Ex.nodesL l:=by
     conv=>rhs; rw [<- List.take_append_drop n l,Ex.nodesL_app]
     omega
    have hg:=ih l[n] hx (by omega) J (by omega)
    have hnl:=qhF l[n]
    have hlt:decide ((n:Int) < ((EX l).length:Int)) = true:=by rw [List.length_map]; exact qbn hn
    have hw:=qat hn (show l.length <= big by simp only [big]; omega)
    have hc:qb2 J (intOf (cellAt (EX l) (n:Int) 0)) (intOf (cellAt (EX l) (n:Int) 1)) (strOf (cellAt (EX l) (n:Int) 2)) (qai (cellAt (EX l) (n:Int) 3)) = some (nmP l[n].namesP):=by
     rw [qx0 hn,qx1 hn,qx2 hn,qx3 hn]; exact hg
    revert hc hnl
    generalize l[n].namesP = ns
    intro hnl hc
    cases a with
    | nil=>
     show (qhq (qb2 J) (EX l) ((EX l).length:Int) (n:Int)).ev = _
     unfold qhq
     refine (brT hlt).trans ((brT (okX hn)).trans ?_)
     cases ns with
     | nil=>
      refine (qk1 hc).trans ((biR hc).trans ?_)
      rw [hw]; rfl
     | cons c cs=>
      refine (biL hc).trans ((brF (snE c cs)).trans ((brT (snF c cs ?_)).trans ?_))
      ·rw [List.length_map]; omega
      ·rw [hw]; rfl
    | cons b bs=>
     show (qhp (qb2 J) (EX l) ((EX l).length:Int) (n:Int) (ES (b :: bs))).ev = _
     unfold qhp
     refine (brT hlt).trans ((brT (okX hn)).trans ?_)
     cases ns with
     | nil=>
      refine (qk1 hc).trans ((biR hc).trans ?_)
      rw [hw,List.append_nil]; rfl
     | cons c cs=>
      refine (biL hc).trans ((brF (snE c cs)).trans ((brT (snF c cs ?_)).trans ?_))
      ·rw [List.length_map,List.length_map]; omega
      ·rw [hw]
       show some (Rd.next (Sum.inl (EX l,((EX l).length:Int),((n + 1:Nat):Int),ES (b :: bs) ++ ES (c :: cs)))) = _
       rw [<- List.map_append]; rfl
   ·intro a ha
    cases a with
    | nil=>
     show (qhq (qb2 J) (EX l) ((EX l).length:Int) (l.length:Int)).ev = _
     unfold qhq
     exact (brF (by simp)).trans rfl
    | cons b bs=>
     show (qhp (qb2 J) (EX l) ((EX l).length:Int) (l.length:Int) (ES (b :: bs))).ev = _
     unfold qhp
     exact (brF (by simp)).trans rfl
  show (qlw (qb2 J) o n s (EX l)).ev = _
  unfold qlw
  rw [Ex.namesP]
  by_cases h4:o = 4
  ·subst h4
   rw [if_pos rfl]
   have h1:=hL [s] (by simp)
   refine (brT rfl).trans ?_
   rw [if_neg (by simp)] at h1
   have h1:qi7 (qb2 J) (Sum.inl (EX l,((EX l).length:Int),0,[AV.str s])) = _:=h1
   exact (biS (qSw h1)).trans rfl
  ·rw [if_neg h4]
   have h1:=hL [] (by simp)
   rw [List.nil_append] at h1 ⊢
   refine (brF (by simpa using h4)).trans ?_
   have h1:qi7 (qb2 J) (Sum.inr (EX l,((EX l).length:Int),0)) = _:=h1
   revert h1
   generalize Ex.namesPL l = ns
   intro h1
   cases ns with
   | nil=>
    rw [if_pos rfl] at h1
    exact (biN (pj0 h1)).trans ((biS (pj1 h1)).trans rfl)
   | cons c cs=>
    rw [if_neg (by simp)] at h1
    exact (biS (qSw h1)).trans rfl
theorem qwB {e:Ex} (h:e.nodes <= 1000000):qmz e.op e.num e.txt (EX e.args) = some (nmP e.namesP):=qb3 (qGp e h)
theorem qQu (l:List Bs):List.map sOf (ES l) = l:=by
 rw [List.map_map]
 exact (List.map_congr_left (fun _ _=>rfl)).trans (List.map_id l)
theorem qVJ (l:List Bs):(ES l).all isS = true:=by
 rw [List.all_map]
 exact List.all_eq_true.2 fun _ _=>rfl
theorem qmw {e:Ex} (h:e.nodes <= 1000000):qif e.op e.num e.txt (EX e.args) = some (ES e.names):=by
 rw [qAf,qlu]
 have hv:=qwB h
 have hn:=qKS e
 have hl:=qhF e
 revert hv hn hl
 generalize e.namesP = ns
 intro hv hn hl
 rw [<- hn]
 cases ns with
 | nil=>
  refine (qk1 hv).trans ((biR hv).trans ?_)
  rw [show qfb [] = [] from by simp [qfb]]
  simp [Lib.compact,Lib.compactUpTo]
 | cons c cs=>
  refine (biL hv).trans ?_
  have len:∀ r:List Bs,r.length = (c :: cs).length -> ((ES r).all isS && (decide ((ES r).length ≠ 0) && decide ((ES r).length < 4611686018427387904))) = true:=by
   intro r hr
   rw [qVJ,List.length_map,hr]
   have h1:(c :: cs).length ≠ 0:=by simp
   have h2:(c :: cs).length < 4611686018427387904:=by omega
   rw [decide_eq_true h1,decide_eq_true h2]; rfl
  refine (brT (len _ rfl)).trans ?_
  rw [qQu]
  refine (brT (len _ (qvb _))).trans ?_
  rw [qQu]
  generalize hr:Lib.compact (qfb (c :: cs)) = r
  refine (brT ?_).trans ?_
  ·show decide (0 + r.length <= (List.map AV.str (r ++ List.replicate _ [])).length) = true
   refine decide_eq_true ?_
   rw [List.length_map,List.length_append]; omega
  ·show some (List.take r.length (List.map AV.str (r ++ List.replicate _ []))) = _
   rw [List.map_append,List.take_append_of_le_length (by rw [List.length_map]; omega),List.take_of_length_le (by rw [List.length_map]; omega)]
end Go.Proofs.H10

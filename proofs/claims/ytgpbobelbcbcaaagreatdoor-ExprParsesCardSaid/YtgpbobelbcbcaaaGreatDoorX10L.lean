/- Chapter 10: the laws over plain data. -/
import Derived.Test.YtgpbobelbcbcaaaGreatDoorX10Nam
set_option linter.unusedVariables false
set_option linter.unusedSimpArgs false
set_option linter.unnecessarySimpa false
namespace Go.Proofs.H10
open Go Go.Eng Go.Tk
set_option maxRecDepth 20000
theorem qvO {T:List Tok} (hT:T.length <= 1000000) (hb:∀ t ∈ T,t.text.length <= 1000000) (k:Int):paB IP 10 (ET T) k = true /\ paO IP 10 (ET T) k = (qje T k).1 /\ paN IP 10 (ET T) k = (qje T k).2.1 /\ paS IP 10 (ET T) k = (qje T k).2.2.1 /\ paX IP 10 (ET T) k = (qje T k).2.2.2.1 /\ paK IP 10 (ET T) k = (qje T k).2.2.2.2.1 /\ paE IP 10 (ET T) k = (qje T k).2.2.2.2.2:=by
 obtain ⟨h1,h2⟩:=qJR hT hb k
 refine ⟨h1,?_,?_,?_,?_,?_,?_⟩ <;> (first | unfold paO | unfold paN | unfold paS | unfold paX | unfold paK | unfold paE) <;> rw [h2]
theorem qrt {T:List Tok} {k:Int} {e:Ex} {r:List Tok} (h0:0 <= k) (h1:k <= T.length) (h:Ev .ex (T.drop k.toNat) (.ok e r)) (hv:qaX e = 0):qje T k = (e.op,e.num,e.txt,EX e.args,pos T r,0):=by
 unfold qje
 rw [if_neg (by omega),qOv h,qrv,hv]; rfl
theorem qKY {T:List Tok} {k:Int} {r:List Tok} (h0:0 <= k) (h1:k <= T.length) (h:Ev .ex (T.drop k.toNat) (.bad r)):qje T k = qQV (pos T r) 2:=by
 unfold qje
 rw [if_neg (by omega),qOv h]; rfl
theorem qgd (s:Bs):qcq s = some (4,0,s,[]):=by rw [qAu,qlK]; rfl
theorem qmP (o:Int) (A:List AV):qjW o A = some (o,0,[],A):=by rw [qAC,qlT]; rfl
abbrev nmX (c:UInt8):Ex:=.mk 4 0 [c] []
abbrev abX:Ex:=.mk 5 0 [] [nmX 97,nmX 98]
abbrev e0:Ex:=.mk 7 0 [] [abX,nmX 99]
abbrev sT0:List Tok:=[⟨4,1,[40]⟩,⟨1,1,[97]⟩,⟨4,1,[43]⟩,⟨1,1,[98]⟩,⟨4,1,[41]⟩,⟨4,1,[42]⟩,⟨1,1,[99]⟩]
abbrev sT1:List Tok:=[⟨1,1,[97]⟩,⟨4,1,[43]⟩]
theorem q1h:qaX e0 = 0:=by kernel_rfl
theorem qZp:qaX abX = 0:=by kernel_rfl
theorem q1y:wrB e0 = sT0:=by kernel_rfl
theorem q1w:qaX (.mk 4 0 [109,105,110] []) = 4:=by kernel_rfl
theorem q1x:e0.names = [[97],[98],[99]]:=by kernel_rfl
theorem qZm:prs 40 .ex sT0 = some (.ok e0 []):=by kernel_rfl
theorem qZn:prs 40 .ex sT1 = some (.bad []):=by kernel_rfl
theorem qZo:prs 40 .ex (sT0.drop 1) = some (.ok abX (sT0.drop 4)):=by kernel_rfl
theorem qb7:qbp = some true:=by
 have hT0:sT0.length <= 1000000:=by decide
 have hb0:∀ t ∈ sT0,t.text.length <= 1000000:=by decide
 have hT1:sT1.length <= 1000000:=by decide
 have hb1:∀ t ∈ sT1,t.text.length <= 1000000:=by decide
 have s0:qje sT0 0 = (7,0,[],EX e0.args,7,0):=(qrt (T:=sT0) (k:=0) (e:=e0) (r:=[]) (by decide) (by decide) ⟨40,qZm⟩ q1h).trans rfl
 have s1:qje sT1 0 = qQV 2 2:=(qKY (T:=sT1) (k:=0) (r:=[]) (by decide) (by decide) ⟨40,qZn⟩).trans rfl
 have s2:qje sT0 1 = (5,0,[],EX abX.args,4,0):=(qrt (T:=sT0) (k:=1) (e:=abX) (r:=sT0.drop 4) (by decide) (by decide) ⟨40,qZo⟩ qZp).trans rfl
 obtain ⟨b0,o0,n0,t0,x0,k0,c0⟩:=qvO hT0 hb0 0
 obtain ⟨b1,o1,n1,t1,x1,k1,c1⟩:=qvO hT1 hb1 0
 obtain ⟨b2,o2,n2,t2,x2,k2,c2⟩:=qvO hT0 hb0 1
 rw [s0] at o0 n0 t0 x0 k0 c0
 rw [s1] at o1 n1 t1 x1 k1 c1
 rw [s2] at o2 n2 t2 x2 k2 c2
 have ht:qf8 7 0 [] (EX e0.args) = some (ET sT0,0):=by
  have:=qf9 (e:=e0) (by decide)
  rw [q1h,q1y] at this; exact this
 have hn:qe9 7 0 [] (EX e0.args) = some 5:=qig (e:=e0) (by decide)
 have hN:qif 7 0 [] (EX e0.args) = some (ES [[97],[98],[99]]):=by
  have:=qmw (e:=e0) (by decide)
  rw [q1x] at this; exact this
 have hR:qaJ 7 0 [] (EX e0.args) 7 0 [] (EX e0.args) = some true:=by
  have:=qep (e:=e0) (f:=e0) (by decide) (by decide)
  rw [qfD] at this; exact this
 have hS:qcD 7 0 [] (EX e0.args) 7 0 [] (EX e0.args) = some true:=by
  have:=qgc (e:=e0) (f:=e0) (by decide) (by decide)
  rw [qfD] at this; exact this
 have hS2:qcD 7 0 [] (EX e0.args) 5 0 [] (EX abX.args) = some false:=qgc (e:=e0) (f:=abX) (by decide) (by decide)
 have hm:qeT 4 0 [109,105,110] [] = some 4:=by
  have:=qec (e:=.mk 4 0 [109,105,110] []) (by decide)
  rw [q1w] at this; exact this
 have hX:qh1 (ES [[97],[98],[99]]) [AV.str [97],AV.str [98],AV.str [99]] = some true:=qmS (l:=[[97],[98],[99]]) (by decide)
 rw [qAt,qlJ]
 refine (biS (qgd _)).trans ((biS (qgd _)).trans ((biS (qmP _ _)).trans ((biS (qgd _)).trans ((biS (qmP _ _)).trans ?_))))
 refine (biS ht).trans ((biS (v:=false) rfl).trans ((biS (v:=false) rfl).trans ((biS (v:=false) rfl).trans ((brF rfl).trans ((brT b0).trans ((brT rfl).trans ((brT b1).trans ((brT b2).trans ?_))))))))
 refine (biS (v:=true) ?_).trans ((biS (v:=true) ?_).trans ((biS (v:=true) ?_).trans ((biS (v:=true) ?_).trans ((biS (v:=true) ?_).trans ((biS (v:=true) ?_).trans ((biS (v:=true) ?_).trans ((biS (v:=true) ?_).trans ((brT rfl).trans ((biS hN).trans ((biS (v:=true) ?_).trans ((biS (v:=true) ?_).trans ((biS (v:=true) ?_).trans ((biS (v:=true) ?_).trans rfl)))))))))))))
 ·show br (paE IP 10 (ET sT0) 0 == 0) (some (paK IP 10 (ET sT0) 0 == 7)) (some false) = some true
  rw [c0,k0]; rfl
 ·show br true (br (sm (qaJ 7 0 [] (EX e0.args) (paO IP 10 (ET sT0) 0) (paN IP 10 (ET sT0) 0) (paS IP 10 (ET sT0) 0) (paX IP 10 (ET sT0) 0))) (some (gv (qaJ 7 0 [] (EX e0.args) (paO IP 10 (ET sT0) 0) (paN IP 10 (ET sT0) 0) (paS IP 10 (ET sT0) 0) (paX IP 10 (ET sT0) 0)))) none) (some false) = some true
  rw [o0,n0,t0,x0,hR]; rfl
 ·show br true (some (paE IP 10 (ET sT1) 0 == 2)) (some false) = some true
  rw [c1]; rfl
 ·show br true (some (paK IP 10 (ET sT1) 0 == 2)) (some false) = some true
  rw [k1]; rfl
 ·show br true (some (paE IP 10 (ET sT0) 1 == 0)) (some false) = some true
  rw [c2]; rfl
 ·show br true (some (paK IP 10 (ET sT0) 1 == 4)) (some false) = some true
  rw [k2]; rfl
 ·show br true (some (paO IP 10 (ET sT0) 1 == 5)) (some false) = some true
  rw [o2]; rfl
 ·show br true (br (sm (qe9 7 0 [] (EX e0.args))) (some (gv (qe9 7 0 [] (EX e0.args)) == 5)) none) (some false) = some true
  rw [hn]; rfl
 ·show br (sm (qh1 (ES [[97],[98],[99]]) [AV.str [97],AV.str [98],AV.str [99]])) (some (gv (qh1 (ES [[97],[98],[99]]) [AV.str [97],AV.str [98],AV.str [99]]))) none = some true
  rw [hX]; rfl
 ·rw [qgd]
  show br true (br true (br (sm (qeT 4 0 [109,105,110] [])) (some (gv (qeT 4 0 [109,105,110] []) == 4)) none) none) (some false) = some true
  rw [hm]; rfl
 ·show br true (br (sm (qcD 7 0 [] (EX e0.args) (paO IP 10 (ET sT0) 0) (paN IP 10 (ET sT0) 0) (paS IP 10 (ET sT0) 0) (paX IP 10 (ET sT0) 0))) (some (gv (qcD 7 0 [] (EX e0.args) (paO IP 10 (ET sT0) 0) (paN IP 10 (ET sT0) 0) (paS IP 10 (ET sT0) 0) (paX IP 10 (ET sT0) 0)))) none) (some false) = some true
  rw [o0,n0,t0,x0,hS]; rfl
 ·show br true (br (sm (qcD 7 0 [] (EX e0.args) (paO IP 10 (ET sT0) 1) (paN IP 10 (ET sT0) 1) (paS IP 10 (ET sT0) 1) (paX IP 10 (ET sT0) 1))) (some (!gv (qcD 7 0 [] (EX e0.args) (paO IP 10 (ET sT0) 1) (paN IP 10 (ET sT0) 1) (paS IP 10 (ET sT0) 1) (paX IP 10 (ET sT0) 1)))) none) (some false) = some true
  rw [o2,n2,t2,x2,hS2]; rfl
def qw6 (T:List Tok) (i:Nat):Bool:=match T[i]? with
 | some t=>decide ((t.text.length:Int) > 100)
 | none=>false
theorem qmB {T:List Tok} (hT:T.length <= big):∃ b,qii (ET T) = some b /\ (b = true -> T.length <= 300 /\ ∀ t ∈ T,t.text.length <= 100):=by
 have hL:qud (ET T,0) = some (qhf (qw6 T) (fun _=>0) 1 (List.range (min T.length 300)),ET T,(((List.range (min T.length 300)).findIdx (qw6 T):Nat):Int)):=by
  rw [que]
  refine qug (min T.length 300) (fun i=>(ET T,(i:Int))) (qw6 T) (fun _=>0) 1 (fun i hi=>?_) ?_
  ·show (qhr (ET T) (i:Int)).ev = _
   have hn:i < T.length:=by omega
   have hlt:decide ((i:Int) < ((ET T).length:Int)) = true:=by rw [List.length_map]; exact qbn hn
   have h3:decide ((i:Int) < 300) = true:=decide_eq_true (by omega)
   rw [qhr,qt2 hn]
   refine (biS (v:=true) (by rw [hlt,h3]; rfl)).trans ((brT rfl).trans ((brT (okT hn)).trans ?_))
   have e:qw6 T i = decide ((T[i].text.length:Int) > 100):=by unfold qw6; rw [List.getElem?_eq_getElem hn]
   rw [e]
   cases decide ((T[i].text.length:Int) > 100)
   ·refine (brF rfl).trans ?_
    rw [qat hn hT]; rfl
   ·exact (brT rfl).trans rfl
  ·show (qhr (ET T) ((min T.length 300:Nat):Int)).ev = _
   rw [qhr,List.length_map]
   refine (biS (v:=false) ?_).trans ((brF rfl).trans rfl)
   by_cases h:T.length <= 300
   ·rw [Nat.min_eq_left h,decide_eq_false (by omega)]; rfl
   ·rw [Nat.min_eq_right (by omega),decide_eq_true (by omega)]; rfl
 rw [qbG] at hL
 rw [qAl,qlA]
 cases ha:(List.range (min T.length 300)).any (qw6 T)
 ·rw [ha] at hL
  refine ⟨_,(biN (pj0 hL)).trans ((biS (pj1 hL)).trans rfl),fun hb=>?_⟩
  have hlen:T.length <= 300:=by
   have:=of_decide_eq_true hb
   rw [List.length_map] at this
   omega
  refine ⟨hlen,fun t ht=>?_⟩
  obtain ⟨i,hi,rfl⟩:=List.getElem_of_mem ht
  have hn:=List.any_eq_false.1 ha i (List.mem_range.2 (by omega))
  unfold qw6 at hn
  rw [List.getElem?_eq_getElem hi] at hn
  simp only [decide_eq_true_eq] at hn
  omega
 ·rw [ha] at hL
  exact ⟨false,(biS (qSw hL)).trans rfl,fun h=>nomatch h⟩
theorem qBy (T:List Tok) (hT:T.length <= 1000000) (k:Int):∃ (e:Ex) (p f:Int),qje T k = (e.op,e.num,e.txt,EX e.args,p,f) /\ e.nodes <= 1000000:=by
 have bad:∀ p f:Int,∃ (e:Ex) (p' f':Int),qQV p f = (e.op,e.num,e.txt,EX e.args,p',f') /\ e.nodes <= 1000000:=fun p f=>⟨.mk 0 0 [] [],p,f,rfl,by simp [Ex.nodes,Ex.nodesL]⟩
 unfold qje
 split
 ·exact bad _ _
 ·have hg:=(qmm (T.drop k.toNat)).good
  revert hg
  generalize exS (T.drop k.toNat) = x
  intro hg
  cases x with
  | bad r=>exact bad _ _
  | ok e r=>
   rw [qrv]
   cases qaX e == 0
   ·exact bad _ _
   ·refine ⟨e,pos T r,0,rfl,?_⟩
    have h1:=hg.2
    simp only [wtM,List.length_drop] at h1
    omega
theorem qzM {T:List Tok} (hT:T.length <= big) (k:Int):qya (ET T) k = some true:=by
 obtain ⟨b,hb,hs⟩:=qmB hT
 rw [qEq,qsw]
 refine (biS hb).trans ?_
 cases b with
 | false=>exact (brT rfl).trans ((biS qb7).trans rfl)
 | true=>
  obtain ⟨h1,h2⟩:=hs rfl
  have hT':T.length <= 1000000:=by omega
  have hb':∀ t ∈ T,t.text.length <= 1000000:=fun t ht=>Nat.le_trans (h2 t ht) (by omega)
  obtain ⟨e1,e2,e3,e4,e5,e6,e7⟩:=qvO hT' hb' k
  obtain ⟨e,p,f,hp,hn⟩:=qBy T hT' k
  have hR:=qwF hT' hb' k
  rw [hp] at e2 e3 e4 e5 e6 e7 hR
  have hS:qaJ e.op e.num e.txt (EX e.args) e.op e.num e.txt (EX e.args) = some true:=by
   have:=qep (e:=e) (f:=e) (by simp only [big]; omega) (by simp only [big]; omega)
   rw [qfD] at this; exact this
  refine (brF rfl).trans ((brT e1).trans ((biS hR).trans ((biS (v:=true) ?_).trans ((biS (v:=true) ?_).trans ((biS (v:=true) ?_).trans rfl)))))
  ·rw [e7,e6]
   show br (f == f) (some (p == p)) (some false) = some true
   simp [br]
  ·rw [e2,e3,e4,e5]
   show br true (br (sm (qaJ e.op e.num e.txt (EX e.args) e.op e.num e.txt (EX e.args))) (some (gv (qaJ e.op e.num e.txt (EX e.args) e.op e.num e.txt (EX e.args)))) none) (some false) = some true
   rw [hS]; rfl
  ·rw [qb7]; rfl
def Shr (l:List Tok):Prop:=∀ t ∈ l,t.text.length <= 1000
theorem Shr.cons {t:Tok} {l:List Tok} (h:t.text.length <= 1000) (hl:Shr l):Shr (t :: l):=fun x hx=>by
 rcases List.mem_cons.1 hx with rfl | hx
 ·exact h
 ·exact hl x hx
theorem Shr.app {a b:List Tok} (ha:Shr a) (hb:Shr b):Shr (a ++ b):=fun x hx=>by
 rcases List.mem_append.1 hx with hx | hx
 ·exact ha x hx
 ·exact hb x hx
theorem Shr.nil:Shr []:=fun _ h=>nomatch h
theorem Shr.par {r:Nat} {e:Ex} (h:Shr (wrB e)):Shr (par r e):=by
 unfold Tk.par qBz
 split
 ·exact Shr.cons (by decide) (h.app (Shr.cons (by decide) Shr.nil))
 ·exact h
mutual
theorem same_eq:∀ a b:Ex,qhX a b = true -> a = b
 | .mk o n s l,.mk p m t k,h=>by
  simp only [qhX,Bool.and_eq_true,beq_iff_eq] at h
  obtain ⟨h1,h2,h3,h4⟩:=h
  rw [h1,h2,h3,qzv l k h4]
theorem qzv:∀ a b:List Ex,qfa a b = true -> a = b
 | [],[],_=>rfl
 | [],_ :: _,h=>by simp [qfa] at h
 | _ :: _,[],h=>by simp [qfa] at h
 | a :: l,b :: k,h=>by
  simp only [qfa,Bool.and_eq_true] at h
  rw [same_eq a b h.1,qzv l k h.2]
end
end Go.Proofs.H10

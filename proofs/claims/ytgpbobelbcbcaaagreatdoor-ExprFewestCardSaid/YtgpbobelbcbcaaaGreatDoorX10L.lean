/- Chapter 10: the laws over plain data. -/
import Derived.Test.YtgpbobelbcbcaaaGreatDoorX10Nam
set_option linter.unusedVariables false
set_option linter.unusedSimpArgs false
set_option linter.unnecessarySimpa false
namespace Go.Proofs.H10
open Go Go.Eng Go.Tk
set_option maxRecDepth 20000
theorem qvO {T:List Tok} (hT:T.length <= 1000000) (hb:∀ t ∈ T,t.text.length <= 1000000) (k:Int):paB IP 10 (ET T) k = true /\ paO IP 10 (ET T) k = (qje T k).1 /\ paN IP 10 (ET T) k = (qje T k).2.1 /\ paS IP 10 (ET T) k = (qje T k).2.2.1 /\ paX IP 10 (ET T) k = (qje T k).2.2.2.1 /\ paK IP 10 (ET T) k = (qje T k).2.2.2.2.1 /\ paE IP 10 (ET T) k = (qje T k).2.2.2.2.2:=by
 obtain ⟨h1,h2⟩:=qJR hT hb k
 refine ⟨h1,?_,?_,?_,?_,?_,?_⟩ <;> (first | unfold paO | unfold paN | unfold paS | unfold paX | unfold paK | unfold paE) <;> rw [h2]
theorem qrt {T:List Tok} {k:Int} {e:Ex} {r:List Tok} (h0:0 <= k) (h1:k <= T.length) (h:Ev .ex (T.drop k.toNat) (.ok e r)) (hv:qaX e = 0):qje T k = (e.op,e.num,e.txt,EX e.args,pos T r,0):=by
 unfold qje
 rw [if_neg (by omega),qOv h,qrv,hv]; rfl
theorem qKY {T:List Tok} {k:Int} {r:List Tok} (h0:0 <= k) (h1:k <= T.length) (h:Ev .ex (T.drop k.toNat) (.bad r)):qje T k = qQV (pos T r) 2:=by
 unfold qje
 rw [if_neg (by omega),qOv h]; rfl
theorem qgd (s:Bs):qcq s = some (4,0,s,[]):=by rw [qAu,qlK]; rfl
theorem qmP (o:Int) (A:List AV):qjW o A = some (o,0,[],A):=by rw [qAC,qlT]; rfl
abbrev nmX (c:UInt8):Ex:=.mk 4 0 [c] []
abbrev abX:Ex:=.mk 5 0 [] [nmX 97,nmX 98]
abbrev e0:Ex:=.mk 7 0 [] [abX,nmX 99]
abbrev sT0:List Tok:=[⟨4,1,[40]⟩,⟨1,1,[97]⟩,⟨4,1,[43]⟩,⟨1,1,[98]⟩,⟨4,1,[41]⟩,⟨4,1,[42]⟩,⟨1,1,[99]⟩]
abbrev sT1:List Tok:=[⟨1,1,[97]⟩,⟨4,1,[43]⟩]
theorem q1h:qaX e0 = 0:=by kernel_rfl
theorem qZp:qaX abX = 0:=by kernel_rfl
theorem q1y:wrB e0 = sT0:=by kernel_rfl
theorem q1w:qaX (.mk 4 0 [109,105,110] []) = 4:=by kernel_rfl
theorem q1x:e0.names = [[97],[98],[99]]:=by kernel_rfl
theorem qZm:prs 40 .ex sT0 = some (.ok e0 []):=by kernel_rfl
theorem qZn:prs 40 .ex sT1 = some (.bad []):=by kernel_rfl
theorem qZo:prs 40 .ex (sT0.drop 1) = some (.ok abX (sT0.drop 4)):=by kernel_rfl
theorem qb7:qbp = some true:=by
 have hT0:sT0.length <= 1000000:=by decide
 have hb0:∀ t ∈ sT0,t.text.length <= 1000000:=by decide
 have hT1:sT1.length <= 1000000:=by decide
 have hb1:∀ t ∈ sT1,t.text.length <= 1000000:=by decide
 have s0:qje sT0 0 = (7,0,[],EX e0.args,7,0):=(qrt (T:=sT0) (k:=0) (e:=e0) (r:=[]) (by decide) (by decide) ⟨40,qZm⟩ q1h).trans rfl
 have s1:qje sT1 0 = qQV 2 2:=(qKY (T:=sT1) (k:=0) (r:=[]) (by decide) (by decide) ⟨40,qZn⟩).trans rfl
 have s2:qje sT0 1 = (5,0,[],EX abX.args,4,0):=(qrt (T:=sT0) (k:=1) (e:=abX) (r:=sT0.drop 4) (by decide) (by decide) ⟨40,qZo⟩ qZp).trans rfl
 obtain ⟨b0,o0,n0,t0,x0,k0,c0⟩:=qvO hT0 hb0 0
 obtain ⟨b1,o1,n1,t1,x1,k1,c1⟩:=qvO hT1 hb1 0
 obtain ⟨b2,o2,n2,t2,x2,k2,c2⟩:=qvO hT0 hb0 1
 rw [s0] at o0 n0 t0 x0 k0 c0
 rw [s1] at o1 n1 t1 x1 k1 c1
 rw [s2] at o2 n2 t2 x2 k2 c2
 have ht:qf8 7 0 [] (EX e0.args) = some (ET sT0,0):=by
  have:=qf9 (e:=e0) (by decide)
  rw [q1h,q1y] at this; exact this
 have hn:qe9 7 0 [] (EX e0.args) = some 5:=qig (e:=e0) (by decide)
 have hN:qif 7 0 [] (EX e0.args) = some (ES [[97],[98],[99]]):=by
  have:=qmw (e:=e0) (by decide)
  rw [q1x] at this; exact this
 have hR:qaJ 7 0 [] (EX e0.args) 7 0 [] (EX e0.args) = some true:=by
  have:=qep (e:=e0) (f:=e0) (by decide) (by decide)
  rw [qfD] at this; exact this
 have hS:qcD 7 0 [] (EX e0.args) 7 0 [] (EX e0.args) = some true:=by
  have:=qgc (e:=e0) (f:=e0) (by decide) (by decide)
  rw [qfD] at this; exact this
 have hS2:qcD 7 0 [] (EX e0.args) 5 0 [] (EX abX.args) = some false:=qgc (e:=e0) (f:=abX) (by decide) (by decide)
 have hm:qeT 4 0 [109,105,110] [] = some 4:=by
  have:=qec (e:=.mk 4 0 [109,105,110] []) (by decide)
  rw [q1w] at this; exact this
 have hX:qh1 (ES [[97],[98],[99]]) [AV.str [97],AV.str [98],AV.str [99]] = some true:=qmS (l:=[[97],[98],[99]]) (by decide)
 rw [qAt,qlJ]
 refine (biS (qgd _)).trans ((biS (qgd _)).trans ((biS (qmP _ _)).trans ((biS (qgd _)).trans ((biS (qmP _ _)).trans ?_))))
 refine (biS ht).trans ((biS (v:=false) rfl).trans ((biS (v:=false) rfl).trans ((biS (v:=false) rfl).trans ((brF rfl).trans ((brT b0).trans ((brT rfl).trans ((brT b1).trans ((brT b2).trans ?_))))))))
 refine (biS (v:=true) ?_).trans ((biS (v:=true) ?_).trans ((biS (v:=true) ?_).trans ((biS (v:=true) ?_).trans ((biS (v:=true) ?_).trans ((biS (v:=true) ?_).trans ((biS (v:=true) ?_).trans ((biS (v:=true) ?_).trans ((brT rfl).trans ((biS hN).trans ((biS (v:=true) ?_).trans ((biS (v:=true) ?_).trans ((biS (v:=true) ?_).trans ((biS (v:=true) ?_).trans rfl)))))))))))))
 ·show br (paE IP 10 (ET sT0) 0 == 0) (some (paK IP 10 (ET sT0) 0 == 7)) (some false) = some true
  rw [c0,k0]; rfl
 ·show br true (br (sm (qaJ 7 0 [] (EX e0.args) (paO IP 10 (ET sT0) 0) (paN IP 10 (ET sT0) 0) (paS IP 10 (ET sT0) 0) (paX IP 10 (ET sT0) 0))) (some (gv (qaJ 7 0 [] (EX e0.args) (paO IP 10 (ET sT0) 0) (paN IP 10 (ET sT0) 0) (paS IP 10 (ET sT0) 0) (paX IP 10 (ET sT0) 0)))) none) (some false) = some true
  rw [o0,n0,t0,x0,hR]; rfl
 ·show br true (some (paE IP 10 (ET sT1) 0 == 2)) (some false) = some true
  rw [c1]; rfl
 ·show br true (some (paK IP 10 (ET sT1) 0 == 2)) (some false) = some true
  rw [k1]; rfl
 ·show br true (some (paE IP 10 (ET sT0) 1 == 0)) (some false) = some true
  rw [c2]; rfl
 ·show br true (some (paK IP 10 (ET sT0) 1 == 4)) (some false) = some true
  rw [k2]; rfl
 ·show br true (some (paO IP 10 (ET sT0) 1 == 5)) (some false) = some true
  rw [o2]; rfl
 ·show br true (br (sm (qe9 7 0 [] (EX e0.args))) (some (gv (qe9 7 0 [] (EX e0.args)) == 5)) none) (some false) = some true
  rw [hn]; rfl
 ·show br (sm (qh1 (ES [[97],[98],[99]]) [AV.str [97],AV.str [98],AV.str [99]])) (some (gv (qh1 (ES [[97],[98],[99]]) [AV.str [97],AV.str [98],AV.str [99]]))) none = some true
  rw [hX]; rfl
 ·rw [qgd]
  show br true (br true (br (sm (qeT 4 0 [109,105,110] [])) (some (gv (qeT 4 0 [109,105,110] []) == 4)) none) none) (some false) = some true
  rw [hm]; rfl
 ·show br true (br (sm (qcD 7 0 [] (EX e0.args) (paO IP 10 (ET sT0) 0) (paN IP 10 (ET sT0) 0) (paS IP 10 (ET sT0) 0) (paX IP 10 (ET sT0) 0))) (some (gv (qcD 7 0 [] (EX e0.args) (paO IP 10 (ET sT0) 0) (paN IP 10 (ET sT0) 0) (paS IP 10 (ET sT0) 0) (paX IP 10 (ET sT0) 0)))) none) (some false) = some true
  rw [o0,n0,t0,x0,hS]; rfl
 ·show br true (br (sm (qcD 7 0 [] (EX e0.args) (paO IP 10 (ET sT0) 1) (paN IP 10 (ET sT0) 1) (paS IP 10 (ET sT0) 1) (paX IP 10 (ET sT0) 1))) (some (!gv (qcD 7 0 [] (EX e0.args) (paO IP 10 (ET sT0) 1) (paN IP 10 (ET sT0) 1) (paS IP 10 (ET sT0) 1) (paX IP 10 (ET sT0) 1)))) none) (some false) = some true
  rw [o2,n2,t2,x2,hS2]; rfl
def qw6 (T:List Tok) (i:Nat):Bool:=match T[i]? with
 | some t=>decide ((t.text.length:Int) > 100)
 | none=>false
theorem qmB {T:List Tok} (hT:T.length <= big):∃ b,qii (ET T) = some b /\ (b = true -> T.length <= 300 /\ ∀ t ∈ T,t.text.length <= 100):=by
 have hL:qud (ET T,0) = some (qhf (qw6 T) (fun _=>0) 1 (List.range (min T.length 300)),ET T,(((List.range (min T.length 300)).findIdx (qw6 T):Nat):Int)):=by
  rw [que]
  refine qug (min T.length 300) (fun i=>(ET T,(i:Int))) (qw6 T) (fun _=>0) 1 (fun i hi=>?_) ?_
  ·show (qhr (ET T) (i:Int)).ev = _
   have hn:i < T.length:=by omega
   have hlt:decide ((i:Int) < ((ET T).length:Int)) = true:=by rw [List.length_map]; exact qbn hn
   have h3:decide ((i:Int) < 300) = true:=decide_eq_true (by omega)
   rw [qhr,qt2 hn]
   refine (biS (v:=true) (by rw [hlt,h3]; rfl)).trans ((brT rfl).trans ((brT (okT hn)).trans ?_))
   have e:qw6 T i = decide ((T[i].text.length:Int) > 100):=by unfold qw6; rw [List.getElem?_eq_getElem hn]
   rw [e]
   cases decide ((T[i].text.length:Int) > 100)
   ·refine (brF rfl).trans ?_
    rw [qat hn hT]; rfl
   ·exact (brT rfl).trans rfl
  ·show (qhr (ET T) ((min T.length 300:Nat):Int)).ev = _
   rw [qhr,List.length_map]
   refine (biS (v:=false) ?_).trans ((brF rfl).trans rfl)
   by_cases h:T.length <= 300
   ·rw [Nat.min_eq_left h,decide_eq_false (by omega)]; rfl
   ·rw [Nat.min_eq_right (by omega),decide_eq_true (by omega)]; rfl
 rw [qbG] at hL
 rw [qAl,qlA]
 cases ha:(List.range (min T.length 300)).any (qw6 T)
 ·rw [ha] at hL
  refine ⟨_,(biN (pj0 hL)).trans ((biS (pj1 hL)).trans rfl),fun hb=>?_⟩
  have hlen:T.length <= 300:=by
   have:=of_decide_eq_true hb
   rw [List.length_map] at this
   omega
  refine ⟨hlen,fun t ht=>?_⟩
  obtain ⟨i,hi,rfl⟩:=List.getElem_of_mem ht
  have hn:=List.any_eq_false.1 ha i (List.mem_range.2 (by omega))
  unfold qw6 at hn
  rw [List.getElem?_eq_getElem hi] at hn
  simp only [decide_eq_true_eq] at hn
  omega
 ·rw [ha] at hL
  exact ⟨false,(biS (qSw hL)).trans rfl,fun h=>nomatch h⟩
theorem qzO {e:Ex} (hw:Wd e):qyb e.op e.num e.txt (EX e.args) = some true:=by
 rw [qEr,qsx]
 refine (biS (qdm hw (most:=300) (by omega))).trans ?_
 by_cases hg:e.nodes > 300
 ·exact (brT (decide_eq_true hg)).trans ((biS qb7).trans rfl)
 ·have hn:e.nodes <= big:=by simp only [big]; omega
  refine (brF (decide_eq_false hg)).trans ((biS (qf9 hn)).trans ((biS (qww hn)).trans ((brT (by simp)).trans ?_)))
  have hS:qpu (bif qaX e != 0 then ([],qaX e) else (ET (wrB e),0):List AV × Int).1 (bif qaX e != 0 then ([],qaX e) else (ET (wrB e),0):List AV × Int).1 = some true:=by
   cases qaX e != 0
   ·have:=qeG e
    exact qmR (by simp only [big]; omega)
   ·exact qmR (l:=[]) (by simp)
  exact (biS hS).trans ((brT rfl).trans ((biS (qec hn)).trans ((biS (qjZ hw)).trans ((brT (by simp)).trans ((biS qb7).trans rfl)))))
theorem qCO {e f:Ex} (hw:Wd e) (hw2:Wd f):qyc e.op e.num e.txt (EX e.args) f.op f.num f.txt (EX f.args) = some true:=by
 rw [qEx,qsD]
 have g1:=qdm hw (most:=300) (by omega)
 have g2:=qdm hw2 (most:=300) (by omega)
 refine (biS g1).trans ((biS (v:=decide (e.nodes > 300) || decide (f.nodes > 300)) ?_).trans ?_)
 ·have g2:qdN f.op f.num f.txt (EX f.args) 300 = some (decide (f.nodes > 300)):=g2
  rw [g2]
  cases decide (e.nodes > 300) <;> rfl
 by_cases hg:e.nodes > 300
 ·exact (brT (by rw [decide_eq_true hg]; rfl)).trans ((biS qb7).trans rfl)
 by_cases hg2:f.nodes > 300
 ·exact (brT (by rw [decide_eq_true hg2,Bool.or_true])).trans ((biS qb7).trans rfl)
 have hn:e.nodes <= big:=by simp only [big]; omega
 have hn2:f.nodes <= big:=by simp only [big]; omega
 have hl:e.names.length <= big:=Nat.le_trans (qjc e) hn
 refine (brF (by rw [decide_eq_false hg,decide_eq_false hg2]; rfl)).trans ((biS (qig hn)).trans ((biS (qwE hn)).trans ((brT (by simp)).trans ((biS (qmw (by omega))).trans ((biS (qmF (by omega))).trans ((biS (qmS hl)).trans ((brT rfl).trans ((biS (qgc hn hn2)).trans ((biS (qep hn hn2)).trans ((brT (by simp)).trans ((biS (qgc hn hn)).trans ((brT (qfD e)).trans ((biS qb7).trans rfl)))))))))))))
abbrev smT:Tok:=⟨4,0,[59]⟩
theorem qLk:stopL 0 []:=fun k hk _=>by
 match k,hk with
 | 0,_ | 1,_ | 2,_ | 3,_ | 4,_=>rfl
theorem qSJ (L:List Tok):stopL 0 (smT :: L):=qkD fun k hk _=>by
 match k,hk with
 | 0,_ | 1,_ | 2,_ | 3,_ | 4,_=>decide +kernel
def Shr (l:List Tok):Prop:=∀ t ∈ l,t.text.length <= 1000
theorem Shr.cons {t:Tok} {l:List Tok} (h:t.text.length <= 1000) (hl:Shr l):Shr (t :: l):=fun x hx=>by
 rcases List.mem_cons.1 hx with rfl | hx
 ·exact h
 ·exact hl x hx
theorem Shr.app {a b:List Tok} (ha:Shr a) (hb:Shr b):Shr (a ++ b):=fun x hx=>by
 rcases List.mem_append.1 hx with hx | hx
 ·exact ha x hx
 ·exact hb x hx
theorem Shr.nil:Shr []:=fun _ h=>nomatch h
theorem Shr.par {r:Nat} {e:Ex} (h:Shr (wrB e)):Shr (par r e):=by
 unfold Tk.par qBz
 split
 ·exact Shr.cons (by decide) (h.app (Shr.cons (by decide) Shr.nil))
 ·exact h
theorem qpM {n:Int} (h0:0 <= n) (h1:n <= 9223372036854775807):(Lib.itoa n).length <= 1000:=by
 rw [qi1 h0]
 have:=qqU 19 n.toNat (Nat.lt_of_le_of_lt (m:=9223372036854775807) (by omega) (by decide))
 omega
theorem qBC {n:Nat} (h:n <= 1000000):(qrw n).length <= 1000:=by
 obtain ⟨_,ht,_⟩:=qjC (m:=n % 10000) (Nat.mod_lt _ (by decide))
 have hd:=qwf (m:=n / 10000) (by omega)
 refine Nat.le_trans (m:=100) ?_ (by decide)
 unfold qrw qcP
 rw [List.length_append,List.length_append,List.length_cons,List.length_nil]
 cases (Lib.trimRightB (four (n % 10000)) 48 != [])
 ·simp only [cond_false,List.length_nil]; omega
 ·simp only [cond_true,List.length_cons]; omega
theorem qBt {s:Bs} (h:qkY s = true):s.length <= 16:=by
 rw [qxF,Bool.and_eq_true] at h
 have h:=h.1
 unfold qw9 at h
 cases s with
 | nil=>simp
 | cons c r=>
  simp only [Bool.and_eq_true,decide_eq_true_eq] at h
  exact h.1
theorem qzI:∀ e:Ex,e.allX qaK = true -> e.allX qbl = true -> Shr (wrB e):=by
 intro e
 induction e using Ex.ind with
 | h o n s l ih=>
  intro hf hn
  rw [Ex.allX_eq,Bool.and_eq_true,List.all_eq_true] at hf hn
  obtain ⟨hop,hn0,hn1,htx⟩:=qdp hf.1
  have iha:∀ x ∈ l,Shr (wrB x):=fun x hx=>ih x hx (hf.2 x hx) (hn.2 x hx)
  simp only [Ex.op,Ex.args,Ex.num,Ex.txt] at hop hn0 hn1
  match l,hop,iha with
  | [],hop,_=>
   rw [qcr rfl]
   show Shr (qnk o n s)
   by_cases h1:o = 1
   ·subst h1
    exact Shr.cons (qpM hn0 (by simpa [qdO] using hn1)) Shr.nil
   by_cases h2:o = 2
   ·subst h2
    have:n <= 1000000000000:=by simpa [qdO] using hn1
    exact Shr.cons (by decide) (Shr.cons (qpM hn0 (by omega)) Shr.nil)
   by_cases h3:o = 3
   ·subst h3
    have:n <= 1000000:=by simpa [qdO] using hn1
    exact Shr.cons (qBC (by omega)) Shr.nil
   ·have e:qnk o n s = [mkT 1 s]:=by
     unfold qnk
     rw [if_neg h1,if_neg h2,if_neg h3]
    rw [e]
    have h4:o = 4:=by
     simp only [List.length_nil,qaE] at hop
     (repeat' split at hop) <;> omega
    subst h4
    have hv:qkY s = true:=by
     have:=hn.1
     simpa [qbl,Ex.op,Ex.txt] using this
    have:=qBt hv
    exact Shr.cons (show s.length <= 1000 by omega) Shr.nil
  | [a],hop,iha=>
   rw [qhu rfl]
   refine Shr.cons ?_ (iha a (by simp)).par
   split <;> decide
  | [a,b],hop,iha=>
   by_cases h:o = 17 \/ o = 18
   ·rw [qff (e:=.mk o n s [a,b]) rfl h]
    refine Shr.cons ?_ (Shr.cons (by decide) ((iha a (by simp)).app (Shr.cons (by decide) ((iha b (by simp)).app (Shr.cons (by decide) Shr.nil)))))
    split <;> decide
   ·rw [qkZ (e:=.mk o n s [a,b]) rfl (fun h'=>h (.inl h')) (fun h'=>h (.inr h'))]
    refine (iha a (by simp)).par.app (Shr.cons ?_ (iha b (by simp)).par)
    show (qc9 o).length <= 1000
    unfold qc9
    (repeat' split) <;> decide
  | a :: b :: c :: m,hop,iha=>
   rw [qxI rfl]
   exact Shr.cons (by decide) ((iha a (by simp)).app (Shr.cons (by decide) ((iha b (by simp)).app (Shr.cons (by decide) (iha c (by simp))))))
theorem qoZ {e:Ex} (hw:Wd e) {L:List Tok} (hL:L.length <= big):qx7 e.op e.num e.txt (EX e.args) (ET L) = some true:=by
 obtain ⟨sb,hsb,hs⟩:=qmB hL
 rw [qEc,qsf]
 refine (biS (qdm hw (most:=300) (by omega))).trans ((biS (v:=decide (e.nodes > 300) || !sb) ?_).trans ?_)
 ·rw [hsb]
  cases decide (e.nodes > 300) <;> rfl
 by_cases hg:e.nodes > 300
 ·exact (brT (by rw [decide_eq_true hg]; rfl)).trans ((biS qb7).trans rfl)
 cases sb with
 | false=>exact (brT (by simp)).trans ((biS qb7).trans rfl)
 | true=>
  obtain ⟨l1,l2⟩:=hs rfl
  have hn:e.nodes <= big:=by simp only [big]; omega
  refine (brF (by rw [decide_eq_false hg]; rfl)).trans ((biS (qec hn)).trans ?_)
  cases hv:(qaX e != 0)
  ·have h0:qaX e = 0:=by simpa using hv
   obtain ⟨v1,v2,v3⟩:=qgz h0
   have hwl:=qeG e
   have hsh:=qzI e v2 v3
   refine (brF rfl).trans ((biS (qf9 hn)).trans ?_)
   rw [hv,cond_false]
   have hT:(wrB e).length <= 1000000:=by omega
   have hb:∀ t ∈ wrB e,t.text.length <= 1000000:=fun t ht=>Nat.le_trans (hsh t ht) (by decide)
   have hU:(wrB e ++ smT :: L).length <= 1000000:=by simp only [List.length_append,List.length_cons]; omega
   have hbU:∀ t ∈ wrB e ++ smT :: L,t.text.length <= 1000000:=fun t ht=>by
    rcases List.mem_append.1 ht with ht | ht
    ·exact hb t ht
    ·rcases List.mem_cons.1 ht with rfl | ht
     ·decide
     ·exact Nat.le_trans (l2 t ht) (by decide)
   have s0:qje (wrB e) 0 = (e.op,e.num,e.txt,EX e.args,((wrB e).length:Int),0):=by
    have:=qWp v2 qLk
    rw [List.append_nil] at this
    have:=qrt (T:=wrB e) (k:=0) (r:=[]) (by omega) (by omega) this h0
    rwa [qiv] at this
   have s1:qje (wrB e ++ smT :: L) 0 = (e.op,e.num,e.txt,EX e.args,((wrB e).length:Int),0):=by
    have:=qrt (T:=wrB e ++ smT :: L) (k:=0) (r:=smT :: L) (by omega) (by omega) (qWp v2 (qSJ L)) h0
    have hp:pos (wrB e ++ smT :: L) (smT :: L) = ((wrB e).length:Int):=by
     unfold pos
     rw [List.length_append,Nat.add_sub_cancel]
    rwa [hp] at this
   obtain ⟨b0,o0,n0,t0,x0,k0,c0⟩:=qvO hT hb 0
   obtain ⟨b1,o1,n1,t1,x1,k1,c1⟩:=qvO hU hbU 0
   rw [s0] at o0 n0 t0 x0 k0 c0
   rw [s1] at o1 n1 t1 x1 k1 c1
   have eU:ET (wrB e ++ smT :: L) = ET (wrB e) ++ AV.agg [AV.int .i64 4,AV.int .i64 0,AV.str [59]] :: ET L:=List.map_append
   rw [eU] at b1 o1 n1 t1 x1 k1 c1
   have hS:qaJ e.op e.num e.txt (EX e.args) e.op e.num e.txt (EX e.args) = some true:=by
    have:=qep (e:=e) (f:=e) hn hn
    rw [qfD] at this; exact this
   have hne:=qLr e
   refine (brT b0).trans ((biS (v:=false) ?_).trans ((biS (v:=false) ?_).trans ((biS (v:=false) ?_).trans ((brF rfl).trans ?_))))
   ·show br ((0:Int) != 0) (some true) (some (paE IP 10 (ET (wrB e)) 0 != 0)) = some false
    rw [c0]; rfl
   ·show br false (some true) (some (paK IP 10 (ET (wrB e)) 0 != ((ET (wrB e)).length:Int))) = some false
    rw [k0,List.length_map]
    show some (((wrB e).length:Int) != ((wrB e).length:Int)) = _
    simp
   ·show br false (some true) (br (sm (qaJ (paO IP 10 (ET (wrB e)) 0) (paN IP 10 (ET (wrB e)) 0) (paS IP 10 (ET (wrB e)) 0) (paX IP 10 (ET (wrB e)) 0) e.op e.num e.txt (EX e.args))) (some (!gv (qaJ (paO IP 10 (ET (wrB e)) 0) (paN IP 10 (ET (wrB e)) 0) (paS IP 10 (ET (wrB e)) 0) (paX IP 10 (ET (wrB e)) 0) e.op e.num e.txt (EX e.args)))) none) = some false
    rw [o0,n0,t0,x0,hS]; rfl
   have f1:br (paE IP 10 (ET (wrB e) ++ AV.agg [AV.int .i64 4,AV.int .i64 0,AV.str [59]] :: ET L) 0 == 0) (some (paK IP 10 (ET (wrB e) ++ AV.agg [AV.int .i64 4,AV.int .i64 0,AV.str [59]] :: ET L) 0 == ((ET (wrB e)).length:Int))) (some false) = some true:=by
    rw [c1,k1,List.length_map]
    show some (((wrB e).length:Int) == ((wrB e).length:Int)) = _
    simp
   have f2:br true (br (sm (qaJ (paO IP 10 (ET (wrB e) ++ AV.agg [AV.int .i64 4,AV.int .i64 0,AV.str [59]] :: ET L) 0) (paN IP 10 (ET (wrB e) ++ AV.agg [AV.int .i64 4,AV.int .i64 0,AV.str [59]] :: ET L) 0) (paS IP 10 (ET (wrB e) ++ AV.agg [AV.int .i64 4,AV.int .i64 0,AV.str [59]] :: ET L) 0) (paX IP 10 (ET (wrB e) ++ AV.agg [AV.int .i64 4,AV.int .i64 0,AV.str [59]] :: ET L) 0) e.op e.num e.txt (EX e.args)))
     (some (gv (qaJ (paO IP 10 (ET (wrB e) ++ AV.agg [AV.int .i64 4,AV.int .i64 0,AV.str [59]] :: ET L) 0) (paN IP 10 (ET (wrB e) ++ AV.agg [AV.int .i64 4,AV.int .i64 0,AV.str [59]] :: ET L) 0) (paS IP 10 (ET (wrB e) ++ AV.agg [AV.int .i64 4,AV.int .i64 0,AV.str [59]] :: ET L) 0) (paX IP 10 (ET (wrB e) ++ AV.agg [AV.int .i64 4,AV.int .i64 0,AV.str [59]] :: ET L) 0) e.op e.num e.txt (EX e.args)))) none) (some false) = some true:=by
    rw [o1,n1,t1,x1,hS]; rfl
   have f3:br true (br (sm qbp) (some (gv qbp)) none) (some false) = some true:=by rw [qb7]; rfl
   cases L with
   | nil=>
    refine (brT rfl).trans ((brF (qjF hne)).trans ((brT (qiI hne ?_)).trans ((brT (qo6 ?_)).trans ((brT b1).trans ((biS f1).trans ((biS f2).trans ((biS f3).trans rfl)))))))
    ·rw [List.length_map]; omega
    ·rw [List.length_map]; omega
   | cons u L=>
    have eS:(AV.agg [AV.int .i64 4,AV.int .i64 0,AV.str [59]] :: ET (u :: L)) = ET (smT :: u :: L):=rfl
    simp only [List.length_cons] at l1
    refine (brF (qjF (by simp))).trans ((brT (qiI (by simp) ?_)).trans ((brF (qjF hne)).trans ((brT (qiI hne ?_)).trans ((brT (qiI (l:=smT :: u :: L) (by simp) ?_)).trans ((brT b1).trans ((biS f1).trans ((biS f2).trans ((biS f3).trans rfl))))))))
    ·simp only [List.length_map,List.length_cons]; omega
    ·rw [List.length_map]; omega
    ·simp only [List.length_map,List.length_cons]; omega
  ·exact (brT rfl).trans ((biS qb7).trans rfl)
theorem qtj {T:List Tok} (hT:T.length <= 1000000):∀ (k j:Nat) (o:Int),j + k = T.length -> -(j:Int) <= o -> o <= j -> ∃ x o' j',qtY (ET T,o,(j:Int)) = some (x,ET T,o',j') /\ ((x = 0 /\ j' = (clF o j (T.drop j):Int)) \/ (x = 1 /\ clF o j (T.drop j) = 0)):=by
 intro k
 induction k with
 | zero=>
  intro j o hj h1 h2
  have hd:T.drop j = []:=List.drop_eq_nil_of_le (by omega)
  refine ⟨1,o,(j:Int),?_,.inr ⟨rfl,by rw [hd]; rfl⟩⟩
  rw [qi3]
  refine qaj ?_
  show (qhl (ET T) o (j:Int)).ev = _
  rw [qhl,List.length_map]
  exact (brF (decide_eq_false (by omega))).trans rfl
 | succ k ih=>
  intro j o hj h1 h2
  have hn:j < T.length:=by omega
  have hlt:decide ((j:Int) < ((ET T).length:Int)) = true:=by rw [List.length_map]; exact qbn hn
  have hs1:=qQw T[j]
  have hs2:sgn T[j] <= 1:=by
   unfold sgn
   split
   ·omega
   ·split <;> omega
  have hd:T.drop j = T[j] :: T.drop (j + 1):=(List.getElem_cons_drop hn).symm
  have hw:=qat hn (show T.length <= big by simp only [big]; omega)
  have wp:IntKind.i64.wrap (o + 1) = o + 1:=wrap64 (by omega) (by omega)
  have wm:IntKind.i64.wrap (o - 1) = o - 1:=wrap64 (by omega) (by omega)
  have step:(qrS (ET T,o,(j:Int))).ev = some (bif o + sgn T[j] == 0 then .done 0 else .next (ET T,o + sgn T[j],((j + 1:Nat):Int))):=by
   show (qhl (ET T) o (j:Int)).ev = _
   rw [qhl,qt2 hn,hw,wp,wm]
   refine (brT hlt).trans ((brT (okT hn)).trans ?_)
   unfold sgn
   by_cases a:T[j].text = [40]
   ·rw [a]
    refine (brT rfl).trans ((brT (okT hn)).trans ((brF rfl).trans ?_))
    rw [if_pos rfl]
    cases hz:(o + 1 == 0)
    ·exact (brF rfl).trans rfl
    ·exact (brT rfl).trans rfl
   ·refine (brF (by simpa using a)).trans ((brT (okT hn)).trans ?_)
    rw [if_neg a]
    by_cases b:T[j].text = [41]
    ·rw [b,if_pos rfl]
     refine (brT rfl).trans ?_
     have e:o + -1 = o - 1:=rfl
     rw [e]
     cases hz:(o - 1 == 0)
     ·exact (brF rfl).trans rfl
     ·exact (brT rfl).trans rfl
    ·rw [if_neg b,Int.add_zero]
     refine (brF (by simpa using b)).trans ?_
     cases hz:(o == 0)
     ·exact (brF rfl).trans rfl
     ·exact (brT rfl).trans rfl
  rw [hd,qi3]
  cases hz:(o + sgn T[j] == 0)
  ·rw [hz] at step
   have hz':¬ (o + sgn T[j] = 0):=by simpa using hz
   obtain ⟨x,o',j',e1,e2⟩:=ih (j + 1) (o + sgn T[j]) (by omega) (by omega) (by omega)
   refine ⟨x,o',j',?_,?_⟩
   ·rw [qau step,<- qi3]; exact e1
   ·simp only [clF]
    rw [if_neg hz']
    exact e2
  ·rw [hz] at step
   have hz':o + sgn T[j] = 0:=by simpa using hz
   refine ⟨0,o,(j:Int),qaj step,.inl ⟨rfl,?_⟩⟩
   simp only [clF]
   rw [if_pos hz']
theorem qAW {T:List Tok} (hT:T.length <= 1000000) {i:Nat} (hi:i <= T.length):qtB (ET T) (i:Int) = some (clF 0 i (T.drop i):Int):=by
 obtain ⟨x,o',j',e1,e2⟩:=qtj hT (T.length - i) i 0 (by omega) (by omega) (by omega)
 rw [qEP,qsW]
 rcases e2 with ⟨rfl,h⟩ | ⟨rfl,h⟩
 ·refine (biS (qSw e1)).trans ?_
  rw [<- h]; rfl
 ·refine (biN (pj0 e1)).trans ((biS (pj1 e1)).trans ?_)
  rw [h]; rfl
mutual
theorem same_eq:∀ a b:Ex,qhX a b = true -> a = b
 | .mk o n s l,.mk p m t k,h=>by
  simp only [qhX,Bool.and_eq_true,beq_iff_eq] at h
  obtain ⟨h1,h2,h3,h4⟩:=h
  rw [h1,h2,h3,qzv l k h4]
theorem qzv:∀ a b:List Ex,qfa a b = true -> a = b
 | [],[],_=>rfl
 | [],_ :: _,h=>by simp [qfa] at h
 | _ :: _,[],h=>by simp [qfa] at h
 | a :: l,b :: k,h=>by
  simp only [qfa,Bool.and_eq_true] at h
  rw [same_eq a b h.1,qzv l k h.2]
end
theorem qdB {e:Ex} (hn:e.nodes <= big) {U:List Tok} (hU:U.length < (wrB e).length) (hT:(wrB e).length <= 1000000) (hb:∀ t ∈ U,t.text.length <= 1000000):paB IP 10 (ET U) 0 = true /\ ∃ y2,br (paE IP 10 (ET U) 0 == 0) (some (paK IP 10 (ET U) 0 == ((ET U).length:Int))) (some false) = some y2 /\
  br y2 (br (sm (qaJ (paO IP 10 (ET U) 0) (paN IP 10 (ET U) 0) (paS IP 10 (ET U) 0) (paX IP 10 (ET U) 0) e.op e.num e.txt (EX e.args))) (some (gv (qaJ (paO IP 10 (ET U) 0) (paN IP 10 (ET U) 0) (paS IP 10 (ET U) 0) (paX IP 10 (ET U) 0) e.op e.num e.txt (EX e.args)))) none) (some false) = some false:=by
 have hU':U.length <= 1000000:=by omega
 obtain ⟨b0,o0,n0,t0,x0,k0,c0⟩:=qvO hU' hb 0
 refine ⟨b0,?_⟩
 rw [o0,n0,t0,x0,k0,c0]
 have hp:qje U 0 = qX2 U 0 (exS U):=by
  unfold qje
  rw [if_neg (by omega)]; rfl
 rw [hp]
 have hev:=qmm U
 have hg:=hev.good
 revert hev hg
 generalize exS U = x
 intro hev hg
 cases x with
 | bad r=>exact ⟨false,rfl,rfl⟩
 | ok f r=>
  have hfn:f.nodes <= big:=by
   have h1:=hg.2
   simp only [wtM] at h1
   simp only [big]; omega
  rw [qrv]
  cases hv:(qaX f == 0)
  ·refine ⟨false,?_,rfl⟩
   rw [cond_false]
   show br (qaX f == 0) _ _ = _
   rw [hv]; rfl
  ·rw [cond_true]
   refine ⟨_,rfl,?_⟩
   show br (pos U r == ((ET U).length:Int)) (br (sm (qaJ f.op f.num f.txt (EX f.args) e.op e.num e.txt (EX e.args))) (some (gv (qaJ f.op f.num f.txt (EX f.args) e.op e.num e.txt (EX e.args)))) none) (some false) = _
   have hs:qhX f e = false:=by
    rw [<- Bool.not_eq_true]
    intro hs
    have:=same_eq f e hs
    subst this
    have:=qVx hev
    omega
   rw [qep hfn hn,hs]
   cases (pos U r == ((ET U).length:Int)) <;> rfl
theorem qs1 (a b:List Tok):ET (a ++ b) = ET a ++ ET b:=List.map_append
theorem qCK (n:Nat) (l:List Tok):List.take n (ET l) = ET (l.take n):=List.map_take.symm
theorem qCJ (n:Nat) (l:List Tok):List.drop n (ET l) = ET (l.drop n):=List.map_drop.symm
theorem qBS {l:List Tok} (h:l = []):(decide ((ET l).length = 0) && decide (3 = 3)) = true:=by subst h; rfl
theorem qwP {e:Ex} (hn:e.nodes <= big) (hT:(wrB e).length <= 1000000) (hb:∀ t ∈ wrB e,t.text.length <= 1000000) (hbal:Bal (wrB e)) {i:Nat} (hi:i < (wrB e).length):(qrP (ET (wrB e),(i:Int),e.op,e.num,e.txt,EX e.args)).ev = some (.next (ET (wrB e),((i + 1:Nat):Int),e.op,e.num,e.txt,EX e.args)):=by
 show (qhi (ET (wrB e)) (i:Int) e.op e.num e.txt (EX e.args)).ev = _
 have hw:=qat hi (show (wrB e).length <= big by simp only [big]; omega)
 rw [qhi,hw]
 have hlt:decide ((i:Int) < ((ET (wrB e)).length:Int)) = true:=by rw [List.length_map]; exact qbn hi
 refine (brT hlt).trans ((brT (okT hi)).trans ?_)
 rw [qt2 hi]
 have hy:∃ y,br (!(wrB e)[i].text == [40]) (some true) (br (decide ((i:Int) > 0)) (br (qaQ [CS.int IntKind.i64,CS.int IntKind.i64,CS.str] (ET (wrB e)) (IntKind.i64.wrap ((i:Int) - 1)))
   (br (strOf (cellAt (ET (wrB e)) (IntKind.i64.wrap ((i:Int) - 1)) 2) == [109,105,110]) (some true) (br (qaQ [CS.int IntKind.i64,CS.int IntKind.i64,CS.str] (ET (wrB e)) (IntKind.i64.wrap ((i:Int) - 1))) (some (strOf (cellAt (ET (wrB e)) (IntKind.i64.wrap ((i:Int) - 1)) 2) == [109,97,120])) none)) none) (some false)) = some y /\ (y = false -> (wrB e)[i].text = [40]):=by
  by_cases h40:(wrB e)[i].text = [40]
  ·rw [h40]
   by_cases h0:i = 0
   ·subst h0
    exact ⟨false,rfl,fun _=>rfl⟩
   ·obtain ⟨j,rfl⟩:∃ j,i = j + 1:=⟨i - 1,by omega⟩
    have hj:j < (wrB e).length:=by omega
    have wj:IntKind.i64.wrap (((j + 1:Nat):Int) - 1) = (j:Int):=by rw [wrap64 (by omega) (by omega)]; omega
    have ok:qaQ [CS.int IntKind.i64,CS.int IntKind.i64,CS.str] (ET (wrB e)) (j:Int) = true:=okT hj
    have hp:decide (((j + 1:Nat):Int) > 0) = true:=decide_eq_true (by omega)
    rw [wj,ok,hp]
    refine ⟨(strOf (cellAt (ET (wrB e)) (j:Int) 2) == [109,105,110]) || (strOf (cellAt (ET (wrB e)) (j:Int) 2) == [109,97,120]),?_,fun _=>rfl⟩
    cases (strOf (cellAt (ET (wrB e)) (j:Int) 2) == [109,105,110]) <;> rfl
  ·have:(!(wrB e)[i].text == [40]) = true:=by simpa using h40
   rw [this]
   exact ⟨true,rfl,fun h=>nomatch h⟩
 obtain ⟨y,hy,hy40⟩:=hy
 refine (biS hy).trans ?_
 cases y with
 | true=>exact (brT rfl).trans rfl
 | false=>
  have h40:=hy40 rfl
  obtain ⟨c1,c2⟩:=qY0 hbal hi h40
  refine (brF rfl).trans ((biS (qAW hT (by omega))).trans ?_)
  revert c1 c2
  generalize clF 0 i ((wrB e).drop i) = c
  intro c1 c2
  have hwc:=qat c2 (show (wrB e).length <= big by simp only [big]; omega)
  have hd:decide ((c:Int) <= (i:Int)) = false:=decide_eq_false (by omega)
  rw [hwc]
  have t1:List.take ((i:Int)).toNat (ET (wrB e)) = ET ((wrB e).take i):=by rw [Int.toNat_natCast,qCK]
  have t2:List.take (((c:Int)).toNat - (((i + 1:Nat):Int)).toNat) (List.drop (((i + 1:Nat):Int)).toNat (ET (wrB e))) = ET (((wrB e).drop (i + 1)).take (c - (i + 1))):=by
   rw [Int.toNat_natCast,Int.toNat_natCast,qCJ,qCK]
  have t3:List.drop (((c + 1:Nat):Int)).toNat (ET (wrB e)) = ET ((wrB e).drop (c + 1)):=by rw [Int.toNat_natCast,qCJ]
  rw [t1,t2,t3]
  have k1:(leB (i:Int) (ET (wrB e)).length && true) = true:=by
   simp only [leB,List.length_map,Bool.and_true,Bool.and_eq_true,decide_eq_true_eq]; omega
  have k2:(leB (c:Int) (ET (wrB e)).length && leB ((i + 1:Nat):Int) ((c:Int)).toNat) = true:=by
   simp only [leB,List.length_map,Bool.and_eq_true,decide_eq_true_eq,Int.toNat_natCast]; omega
  have k3:leB ((c + 1:Nat):Int) (ET (wrB e)).length = true:=by
   simp only [leB,List.length_map,Bool.and_eq_true,decide_eq_true_eq]; omega
  have l1:((wrB e).take i).length = i:=by rw [List.length_take]; omega
  have l2:(((wrB e).drop (i + 1)).take (c - (i + 1))).length = c - (i + 1):=by rw [List.length_take,List.length_drop]; omega
  have l3:((wrB e).drop (c + 1)).length = (wrB e).length - (c + 1):=List.length_drop
  have hP:∀ t,(t ∈ (wrB e).take i \/ t ∈ ((wrB e).drop (i + 1)).take (c - (i + 1)) \/ t ∈ (wrB e).drop (c + 1)) -> t.text.length <= 1000000:=by
   intro t ht
   rcases ht with ht | ht | ht
   ·exact hb t (List.mem_of_mem_take ht)
   ·exact hb t (List.mem_of_mem_drop (List.mem_of_mem_take ht))
   ·exact hb t (List.mem_of_mem_drop ht)
  refine (brF hd).trans ((brT k1).trans ?_)
  revert l1 l2 l3 hP
  generalize (wrB e).take i = P1
  generalize ((wrB e).drop (i + 1)).take (c - (i + 1)) = P2
  generalize (wrB e).drop (c + 1) = P3
  intro l1 l2 l3 hP
  by_cases q1:P1 = [] <;> by_cases q2:P2 = [] <;> by_cases q3:P3 = []
  ·have hf:=qdB (e:=e) hn (U:=([]:List Tok)) (by simp only [List.length_append,List.length_nil]; omega) hT (by
    intro t ht
    cases ht
    )
   skip
   obtain ⟨b,y2,f1,f2⟩:=hf
   refine (brT (qBS q1)).trans ((brT k2).trans ((brT (qBS q2)).trans ((brT k3).trans ((brT (qBS q3)).trans ((brT b).trans ((biS f1).trans ((biS f2).trans ((brF rfl).trans rfl))))))))
  ·have hf:=qdB (e:=e) hn (U:=P3) (by omega) hT (by
    intro t ht
    skip
    exact hP _ (by first | exact .inl ht | exact .inr (.inl ht) | exact .inr (.inr ht)))
   skip
   obtain ⟨b,y2,f1,f2⟩:=hf
   refine (brT (qBS q1)).trans ((brT k2).trans ((brT (qBS q2)).trans ((brT k3).trans ((brF (qjF q3)).trans ((brT (qiI q3 ?_)).trans ((brT b).trans ((biS f1).trans ((biS f2).trans ((brF rfl).trans rfl)))))))))
   ·simp only [List.length_append,List.length_map]; omega
  ·have hf:=qdB (e:=e) hn (U:=P2) (by omega) hT (by
    intro t ht
    skip
    exact hP _ (by first | exact .inl ht | exact .inr (.inl ht) | exact .inr (.inr ht)))
   skip
   obtain ⟨b,y2,f1,f2⟩:=hf
   refine (brT (qBS q1)).trans ((brT k2).trans ((brF (qjF q2)).trans ((brT (qiI q2 ?_)).trans ((brT k3).trans ((brT (qBS q3)).trans ((brT b).trans ((biS f1).trans ((biS f2).trans ((brF rfl).trans rfl)))))))))
   ·simp only [List.length_append,List.length_map]; omega
  ·have hf:=qdB (e:=e) hn (U:=P2 ++ P3) (by simp only [List.length_append,List.length_nil]; omega) hT (by
    intro t ht
    simp only [List.mem_append] at ht
    exact hP _ (by rcases ht with ht | ht <;> first | exact .inl ht | exact .inr (.inl ht) | exact .inr (.inr ht)))
   rw [qs1] at hf
   obtain ⟨b,y2,f1,f2⟩:=hf
   refine (brT (qBS q1)).trans ((brT k2).trans ((brF (qjF q2)).trans ((brT (qiI q2 ?_)).trans ((brT k3).trans ((brF (qjF q3)).trans ((brT (qiI q3 ?_)).trans ((brT b).trans ((biS f1).trans ((biS f2).trans ((brF rfl).trans rfl))))))))))
   ·simp only [List.length_append,List.length_map]; omega
   ·simp only [List.length_append,List.length_map]; omega
  ·have hf:=qdB (e:=e) hn (U:=P1) (by omega) hT (by
    intro t ht
    skip
    exact hP _ (by first | exact .inl ht | exact .inr (.inl ht) | exact .inr (.inr ht)))
   skip
   obtain ⟨b,y2,f1,f2⟩:=hf
   refine (brF (qjF q1)).trans ((brT (qiI q1 ?_)).trans ((brT k2).trans ((brT (qBS q2)).trans ((brT k3).trans ((brT (qBS q3)).trans ((brT b).trans ((biS f1).trans ((biS f2).trans ((brF rfl).trans rfl)))))))))
   ·simp only [List.length_append,List.length_map]; omega
  ·have hf:=qdB (e:=e) hn (U:=P1 ++ P3) (by simp only [List.length_append,List.length_nil]; omega) hT (by
    intro t ht
    simp only [List.mem_append] at ht
    exact hP _ (by rcases ht with ht | ht <;> first | exact .inl ht | exact .inr (.inl ht) | exact .inr (.inr ht)))
   rw [qs1] at hf
   obtain ⟨b,y2,f1,f2⟩:=hf
   refine (brF (qjF q1)).trans ((brT (qiI q1 ?_)).trans ((brT k2).trans ((brT (qBS q2)).trans ((brT k3).trans ((brF (qjF q3)).trans ((brT (qiI q3 ?_)).trans ((brT b).trans ((biS f1).trans ((biS f2).trans ((brF rfl).trans rfl))))))))))
   ·simp only [List.length_append,List.length_map]; omega
   ·simp only [List.length_append,List.length_map]; omega
  ·have hf:=qdB (e:=e) hn (U:=P1 ++ P2) (by simp only [List.length_append,List.length_nil]; omega) hT (by
    intro t ht
    simp only [List.mem_append] at ht
    exact hP _ (by rcases ht with ht | ht <;> first | exact .inl ht | exact .inr (.inl ht) | exact .inr (.inr ht)))
   rw [qs1] at hf
   obtain ⟨b,y2,f1,f2⟩:=hf
   refine (brF (qjF q1)).trans ((brT (qiI q1 ?_)).trans ((brT k2).trans ((brF (qjF q2)).trans ((brT (qiI q2 ?_)).trans ((brT k3).trans ((brT (qBS q3)).trans ((brT b).trans ((biS f1).trans ((biS f2).trans ((brF rfl).trans rfl))))))))))
   ·simp only [List.length_append,List.length_map]; omega
   ·simp only [List.length_append,List.length_map]; omega
  ·have hf:=qdB (e:=e) hn (U:=P1 ++ P2 ++ P3) (by simp only [List.length_append,List.length_nil]; omega) hT (by
    intro t ht
    simp only [List.mem_append] at ht
    exact hP _ (by rcases ht with (ht | ht) | ht <;> first | exact .inl ht | exact .inr (.inl ht) | exact .inr (.inr ht)))
   rw [qs1,qs1] at hf
   obtain ⟨b,y2,f1,f2⟩:=hf
   refine (brF (qjF q1)).trans ((brT (qiI q1 ?_)).trans ((brT k2).trans ((brF (qjF q2)).trans ((brT (qiI q2 ?_)).trans ((brT k3).trans ((brF (qjF q3)).trans ((brT (qiI q3 ?_)).trans ((brT b).trans ((biS f1).trans ((biS f2).trans ((brF rfl).trans rfl)))))))))))
   ·simp only [List.length_append,List.length_map]; omega
   ·simp only [List.length_append,List.length_map]; omega
   ·simp only [List.length_append,List.length_map]; omega
theorem qzJ {e:Ex} (hw:Wd e):qx9 e.op e.num e.txt (EX e.args) = some true:=by
 rw [qEp,qsv]
 refine (biS (qdm hw (most:=300) (by omega))).trans ?_
 by_cases hg:e.nodes > 300
 ·rw [decide_eq_true hg]
  exact (biS (v:=true) rfl).trans ((brT rfl).trans ((biS qb7).trans rfl))
 rw [decide_eq_false hg]
 have hn:e.nodes <= big:=by simp only [big]; omega
 have hV:=qec hn
 refine (biS (v:=qaX e != 0) ?_).trans ?_
 ·rw [hV]; rfl
 cases hv:(qaX e != 0)
 ·have h0:qaX e = 0:=by simpa using hv
  obtain ⟨v1,v2,v3⟩:=qgz h0
  have hwl:=qeG e
  have hsh:=qzI e v2 v3
  have hT:(wrB e).length <= 1000000:=by omega
  have hb:∀ t ∈ wrB e,t.text.length <= 1000000:=fun t ht=>Nat.le_trans (hsh t ht) (by decide)
  have hL:qtL (ET (wrB e),0,e.op,e.num,e.txt,EX e.args) = some (1,ET (wrB e),((wrB e).length:Int),e.op,e.num,e.txt,EX e.args):=by
   rw [qtM]
   refine qdt (fun i=>(ET (wrB e),(i:Int),e.op,e.num,e.txt,EX e.args)) (wrB e).length 1 0 (Nat.zero_le _) (fun m _ hm=>?_) ?_
   ·exact qwP hn hT hb (qXb e v2 v3) hm
   ·show (qhi (ET (wrB e)) ((wrB e).length:Int) e.op e.num e.txt (EX e.args)).ev = _
    rw [qhi]
    exact (brF (by simp)).trans rfl
  refine (brF rfl).trans ((biS (qf9 hn)).trans ?_)
  rw [hv,cond_false]
  exact (brF rfl).trans ((biN (pj0 hL)).trans ((biS (pj1 hL)).trans ((biS qb7).trans rfl)))
 ·exact (brT rfl).trans ((biS qb7).trans rfl)
end Go.Proofs.H10

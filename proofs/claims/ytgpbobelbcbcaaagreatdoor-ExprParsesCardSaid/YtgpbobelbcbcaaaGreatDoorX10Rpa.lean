/- Expressions from tokens: what the document's reader comes to. -/
import Derived.Test.YtgpbobelbcbcaaaGreatDoorX10Int
set_option linter.unusedVariables false
set_option linter.unusedSimpArgs false
set_option linter.unnecessarySimpa false
namespace Go.Proofs.H10
open Go Go.Eng Go.Tk
set_option maxRecDepth 20000
section
variable {T:List Tok}
def rsR (T:List Tok):Rs -> Int × Int × Bs × List AV × Int × Bool
 | .ok e r=>(e.op,e.num,e.txt,EX e.args,pos T r,true)
 | .bad r=>(0,0,[],[],pos T r,false)
theorem qaZ {s:Bs} {k:Int} (hk:qgB s = k) {l:List Tok} (hl:l <:+ T):qa3 (ET T) (pos T l) k s = some (isW s l):=by
 rw [qAD,qlU,List.length_map]
 cases l with
 | nil=>
  have h0:decide (pos T [] < (T.length:Int)) = false:=decide_eq_false (by rw [qiv]; omega)
  rw [h0]; rfl
 | cons t l=>
  rw [qOT hl,qBQ hl,qA7 hl,qxz hl,qbc,hk]
  cases (t.kind == k) <;> cases (t.text == s) <;> rfl
theorem qeX (hT:T.length <= 1000000) {s:Bs} {l:List Tok} (hl:l <:+ T) (h:isW s l = true):IntKind.i64.wrap (pos T l + 1) = pos T l.tail:=by
 obtain ⟨t,r,rfl⟩:=qbr h
 exact qcA hl hT
theorem qWf (hT:T.length <= 1000000) {k:Nat} {l:List Tok} (hl:l <:+ T) (h:opAt k l ≠ 0):IntKind.i64.wrap (pos T l + 1) = pos T l.tail:=by
 obtain ⟨t,r,rfl⟩:=qnw h
 exact qcA hl hT
def opsL:List (Bs × Int):=[([43],5),([45],6),([42],7),([47],8),([61,61],10),([33,61],11),([60],12),([60,61],13)]
def rkI:Int -> Int
 | 5 | 6=>5
 | 7 | 8=>6
 | _=>4
def qLl (x:Bs × Int):AV:=.str x.1
def qJP (x:Bs × Int):AV:=.int .i64 x.2
theorem qK3 {x:Bs × Int} (h:x ∈ opsL):qeo x.2 = some (rkI x.2) /\ qgB x.1 = 4:=by
 simp only [opsL,List.mem_cons,List.not_mem_nil,or_false] at h
 rcases h with rfl | rfl | rfl | rfl | rfl | rfl | rfl | rfl <;> exact ⟨by rw [qhA,qgy]; rfl,rfl⟩
theorem qhE {l:List Tok} (hl:l <:+ T) (r:Int):qt4 (ET T,pos T l,r,0,opsL.map qLl,opsL.map qJP) = some (qhf (fun x=>rkI x.2 == r && isW x.1 l) (fun _=>0) 1 opsL,ET T,pos T l,r,((opsL.findIdx (fun x=>rkI x.2 == r && isW x.1 l):Nat):Int),opsL.map qLl,opsL.map qJP):=by
 rw [qt5]
 refine qa8 (hd:=fun i=>(ET T,pos T l,r,(i:Int),opsL.map qLl,opsL.map qJP)) _ _ 1 (fun i hn=>?_) ?_
 ·show (qho (ET T) (pos T l) r (i:Int) (opsL.map qLl) (opsL.map qJP)).ev = _
  have hm:=qK3 (List.getElem_mem hn)
  have i1:inB (opsL.map qLl).length (i:Int) = true:=qcp (by rw [List.length_map]; exact hn)
  have i2:inB (opsL.map qJP).length (i:Int) = true:=qcp (by rw [List.length_map]; exact hn)
  have c1:intOf (qfl (opsL.map qJP) i 0) = opsL[i].2:=by rw [qtf hn]; rfl
  have c2:strOf (qfl (opsL.map qLl) i 0) = opsL[i].1:=by rw [qtf hn]; rfl
  have o1:okP [CS.int IntKind.i64] (opsL.map qJP) i 0 = true:=by rw [qGF hn]; rfl
  have o2:okP [CS.str] (opsL.map qLl) i 0 = true:=by rw [qGF hn]; rfl
  have hlt:decide ((i:Int) < ((opsL.map qLl).length:Int)) = true:=by rw [List.length_map]; exact qbn hn
  rw [qho]
  simp only [Int.toNat_natCast,hlt,i1,i2,c1,c2,o1,o2,hm.1,qaZ hm.2 hl,sm_some,gv_some,br_eq,cond_true]
  refine (brT rfl).trans ((brT rfl).trans ((brT rfl).trans ((biS rfl).trans ?_)))
  cases (rkI opsL[i].2 == r)
  ·refine (biS rfl).trans ((brF rfl).trans ?_)
   simp only [ev_at,qat hn (show opsL.length <= big by decide)]; rfl
  ·cases isW opsL[i].1 l
   ·refine (biS rfl).trans ((brF rfl).trans ?_)
    simp only [ev_at,qat hn (show opsL.length <= big by decide)]; rfl
   ·exact (biS rfl).trans ((brT rfl).trans ((brT rfl).trans ((brT rfl).trans rfl)))
 ·show (qho (ET T) (pos T l) r ((opsL.length:Nat):Int) (opsL.map qLl) (opsL.map qJP)).ev = _
  rw [qho]
  exact (brF (by simp)).trans rfl
def rkB:Nat -> Int
 | 0=>1
 | 1=>2
 | 2=>4
 | 3=>5
 | 4=>6
 | _=>7
def rkO:Nat -> Int
 | 0=>1
 | 1=>2
 | 2=>3
 | 3=>5
 | 4=>6
 | _=>7
theorem qrJ {k:Nat} (h:k < 5):IntKind.i64.wrap (rkB k + 1) = rkO (k + 1):=by
 match k,h with
 | 0,_ | 1,_ | 2,_ | 3,_ | 4,_=>decide
theorem qIq:qeo 14 = some 2:=by rw [qhA,qgy]; rfl
theorem qIr:qeo 15 = some 1:=by rw [qhA,qgy]; rfl
theorem qoY {k:Nat} (hk:k < 5) {l:List Tok} (hl:l <:+ T):qdl (ET T) (pos T l) (rkB k) = some (opAt k l):=by
 have wa:=qaZ (T:=T) (s:=[97,110,100]) (k:=5) rfl hl
 have wo:=qaZ (T:=T) (s:=[111,114]) (k:=5) rfl hl
 have step:∀ (b:Bool) (s:Bs) (w:Bool),qa3 (ET T) (pos T l) 5 s = some w -> br b (br (sm (qa3 (ET T) (pos T l) 5 s)) (some (gv (qa3 (ET T) (pos T l) 5 s))) none) (some false) = some (b && w):=by
  intro b s w h
  rw [h]; cases b <;> rfl
 have miss:∀ k,k < 5 -> opsL.any (fun x=>rkI x.2 == rkB k && isW x.1 l) = false -> (rkB k == 2) = false -> (rkB k == 1) = false -> opAt k l = 0 -> qdl (ET T) (pos T l) (rkB k) = some (opAt k l):=by
  intro k hk h0 h2 h1 ho
  have hL:=qhE hl (rkB k)
  rw [qoh h0] at hL
  rw [qhz,qgx,ho]
  refine (biN (pj0 hL)).trans ((biS (pj1 hL)).trans ((biS qIq).trans ((biS (step _ _ _ wa)).trans ((brF ?_).trans ((biS qIr).trans ((biS (step _ _ _ wo)).trans ((brF ?_).trans rfl)))))))
  ·rw [h2]; rfl
  ·rw [h1]; rfl
 have hit:∀ (k i:Nat) (op:Int),k < 5 -> qhf (fun x=>rkI x.2 == rkB k && isW x.1 l) (fun _=>0) 1 opsL = 0 -> opsL.findIdx (fun x=>rkI x.2 == rkB k && isW x.1 l) = i -> intOf (qfl (opsL.map qJP) i 0) = op -> opAt k l = op -> qdl (ET T) (pos T l) (rkB k) = some (opAt k l):=by
  intro k i op hk h0 h1 hv ho
  have hL:=qhE hl (rkB k)
  rw [h0,h1] at hL
  rw [qhz,qgx,ho]
  refine (biS (qSw hL)).trans ?_
  show some (intOf (qfl (opsL.map qJP) i 0)) = _
  rw [hv]
 match k,hk with
 | 0,_=>
  have hL:=qhE hl (rkB 0)
  rw [qoh (by rfl)] at hL
  rw [qhz,qgx]
  refine (biN (pj0 hL)).trans ((biS (pj1 hL)).trans ((biS qIq).trans ((biS (step _ _ _ wa)).trans ((brF rfl).trans ((biS qIr).trans ((biS (step _ _ _ wo)).trans ?_))))))
  simp only [opAt,lvS,List.find?_cons,List.find?_nil]
  cases isW [111,114] l <;> rfl
 | 1,_=>
  have hL:=qhE hl (rkB 1)
  rw [qoh (by rfl)] at hL
  rw [qhz,qgx]
  refine (biN (pj0 hL)).trans ((biS (pj1 hL)).trans ((biS qIq).trans ((biS (step _ _ _ wa)).trans ?_)))
  simp only [opAt,lvS,List.find?_cons,List.find?_nil]
  cases isW [97,110,100] l
  ·exact (brF rfl).trans ((biS qIr).trans ((biS (step _ _ _ wo)).trans ((brF rfl).trans rfl)))
  ·exact (brT rfl).trans rfl
 | 2,_=>
  by_cases h0:isW [61,61] l = true
  ·exact hit 2 4 10 (by decide) (by simp [qhf,opsL,rkI,rkB,h0]) (by simp [opsL,rkI,rkB,List.findIdx_cons,h0]) rfl (by simp [opAt,lvS,h0])
  rw [Bool.not_eq_true] at h0
  by_cases h1:isW [33,61] l = true
  ·exact hit 2 5 11 (by decide) (by simp [qhf,opsL,rkI,rkB,h0,h1]) (by simp [opsL,rkI,rkB,List.findIdx_cons,h0,h1]) rfl (by simp [opAt,lvS,h0,h1])
  rw [Bool.not_eq_true] at h1
  by_cases h2:isW [60] l = true
  ·exact hit 2 6 12 (by decide) (by simp [qhf,opsL,rkI,rkB,h0,h1,h2]) (by simp [opsL,rkI,rkB,List.findIdx_cons,h0,h1,h2]) rfl (by simp [opAt,lvS,h0,h1,h2])
  rw [Bool.not_eq_true] at h2
  by_cases h3:isW [60,61] l = true
  ·exact hit 2 7 13 (by decide) (by simp [qhf,opsL,rkI,rkB,h0,h1,h2,h3]) (by simp [opsL,rkI,rkB,List.findIdx_cons,h0,h1,h2,h3]) rfl (by simp [opAt,lvS,h0,h1,h2,h3])
  rw [Bool.not_eq_true] at h3
  exact miss 2 (by decide) (by simp [opsL,rkI,rkB,h0,h1,h2,h3]) (by decide) (by decide) (by simp [opAt,lvS,h0,h1,h2,h3])
 | 3,_=>
  by_cases h0:isW [43] l = true
  ·exact hit 3 0 5 (by decide) (by simp [qhf,opsL,rkI,rkB,h0]) (by simp [opsL,rkI,rkB,List.findIdx_cons,h0]) rfl (by simp [opAt,lvS,h0])
  rw [Bool.not_eq_true] at h0
  by_cases h1:isW [45] l = true
  ·exact hit 3 1 6 (by decide) (by simp [qhf,opsL,rkI,rkB,h0,h1]) (by simp [opsL,rkI,rkB,List.findIdx_cons,h0,h1]) rfl (by simp [opAt,lvS,h0,h1])
  rw [Bool.not_eq_true] at h1
  exact miss 3 (by decide) (by simp [opsL,rkI,rkB,h0,h1]) (by decide) (by decide) (by simp [opAt,lvS,h0,h1])
 | 4,_=>
  by_cases h0:isW [42] l = true
  ·exact hit 4 2 7 (by decide) (by simp [qhf,opsL,rkI,rkB,h0]) (by simp [opsL,rkI,rkB,List.findIdx_cons,h0]) rfl (by simp [opAt,lvS,h0])
  rw [Bool.not_eq_true] at h0
  by_cases h1:isW [47] l = true
  ·exact hit 4 3 8 (by decide) (by simp [qhf,opsL,rkI,rkB,h0,h1]) (by simp [opsL,rkI,rkB,List.findIdx_cons,h0,h1]) rfl (by simp [opAt,lvS,h0,h1])
  rw [Bool.not_eq_true] at h1
  exact miss 4 (by decide) (by simp [opsL,rkI,rkB,h0,h1]) (by decide) (by decide) (by simp [opAt,lvS,h0,h1])
theorem rr1 (o:Int) (a:Ex) (r:List Tok):rsR T (.ok (exN o [a]) r) = (o,0,[],[.agg [.int .i64 a.op,.int .i64 a.num,.str a.txt,.view 4 (EX a.args)]],pos T r,true):=by rw [<- EX1]; rfl
theorem rr2 (o:Int) (a b:Ex) (r:List Tok):rsR T (.ok (exN o [a,b]) r) = (o,0,[],[.agg [.int .i64 a.op,.int .i64 a.num,.str a.txt,.view 4 (EX a.args)],.agg [.int .i64 b.op,.int .i64 b.num,.str b.txt,.view 4 (EX b.args)]],pos T r,true):=by rw [<- EX2]; rfl
theorem rr3 (o:Int) (a b c:Ex) (r:List Tok):rsR T (.ok (exN o [a,b,c]) r) = (o,0,[],[.agg [.int .i64 a.op,.int .i64 a.num,.str a.txt,.view 4 (EX a.args)],.agg [.int .i64 b.op,.int .i64 b.num,.str b.txt,.view 4 (EX b.args)],.agg [.int .i64 c.op,.int .i64 c.num,.str c.txt,.view 4 (EX c.args)]],pos T r,true):=by rw [<- EX3]; rfl
abbrev BR:=qc0
def bsr (s:Bool) (rk:Int) (A:List AV) (p:Int) (ok:Bool) (y4 y5:Int) (y6:Bs) (e:Ex):BR:=bif s then .inr (A,rk,p,ok,y4,y5,y6,e.op,e.num,e.txt,EX e.args) else .inl (A,rk,p,ok,y4,y5,y6,e.op,e.num,e.txt,EX e.args)
def qYs (T:List Tok) (K:Nat) (rk:Int) (v:BR) (x:Rs):Prop:=∃ (s:Bool) (p y4 y5:Int) (y6:Bs) (e:Ex),
 (∃ r,x = .ok e r /\ p = pos T r /\ qc3 (qaa K).1 (qaa K).2.1 (qaa K).2.2.1 (qaa K).2.2.2.1 (qaa K).2.2.2.2 v = some (bif s then 3 else 0,bsr s rk (ET T) p true y4 y5 y6 e)) \/
 (∃ op b r,x = .ok (exN op [e,b]) r /\ qdl (ET T) p rk = some op /\ (qaa K).1 (ET T) (IntKind.i64.wrap (p + 1)) (IntKind.i64.wrap (rk + 1)) = some (rsR T (.ok b r)) /\ qc3 (qaa K).1 (qaa K).2.1 (qaa K).2.2.1 (qaa K).2.2.2.1 (qaa K).2.2.2.2 v = some (bif s then 5 else 2,bsr s rk (ET T) p true y4 y5 y6 e)) \/
 (∃ r,x = .bad r /\ (qaa K).1 (ET T) (IntKind.i64.wrap (p + 1)) (IntKind.i64.wrap (rk + 1)) = some (rsR T (.bad r)) /\ qc3 (qaa K).1 (qaa K).2.1 (qaa K).2.2.1 (qaa K).2.2.2.1 (qaa K).2.2.2.2 v = some (bif s then 4 else 1,bsr s rk (ET T) p true y4 y5 y6 e))
def AtR (T:List Tok) (l:List Tok) (x:Rs) (K:Nat):Md -> Prop
 | .ex=>(qaa K).1 (ET T) (pos T l) 0 = some (rsR T x)
 | .bin k=>k <= 5 -> (qaa K).1 (ET T) (pos T l) (rkO k) = some (rsR T x)
 | .cmp=>(qaa K).1 (ET T) (pos T l) 4 = some (rsR T x)
 | .lp k e=>k < 5 -> ∀ s y4 y5 y6,qYs T K (rkB k) (bsr s (rkB k) (ET T) (pos T l) true y4 y5 y6 e) x
 | .neg=>(qaa K).1 (ET T) (pos T l) 7 = some (rsR T x)
 | .prim=>(qaa K).1 (ET T) (pos T l) 8 = some (rsR T x)
theorem qVN (hT:T.length <= 1000000) {n K:Nat} (ih:∀ m l x,prs n m l = some x -> l <:+ T -> AtR T l x K m) {k:Nat} {e:Ex} {l:List Tok} {x:Rs} (h:prs (n + 1) (.lp k e) l = some x) (hl:l <:+ T):AtR T l x K (.lp k e):=by
 intro hk s y4 y5 y6
 rw [qzq] at h
 have hop:=qoY hk hl
 cases h0:(opAt k l == 0)
 ·rw [h0] at h
  simp only [cond_false] at h
  have hne:opAt k l ≠ 0:=by simpa using h0
  have hw:=qWf hT hl hne
  rcases qbi h with ⟨r,hb,rfl⟩ | ⟨b,r,hb,h⟩
  ·have hc:=ih _ _ _ hb (qaU hl) (by omega)
   rw [<- hw,<- qrJ hk] at hc
   refine ⟨s,pos T l,y4,y5,y6,e,.inr (.inr ⟨r,rfl,hc,?_⟩)⟩
   rw [qds]
   refine qaj ?_
   cases s
   ·exact (brT rfl).trans ((biS hop).trans ((brF h0).trans ((biS hc).trans ((brT rfl).trans rfl))))
   ·exact (brT rfl).trans ((biS hop).trans ((brF h0).trans ((biS hc).trans ((brT rfl).trans rfl))))
  ·have hc:=ih _ _ _ hb (qaU hl) (by omega)
   rw [<- hw,<- qrJ hk] at hc
   have hr:r <:+ T:=qeD hb (qaU hl)
   cases h2:(k == 2)
   ·rw [h2] at h
    simp only [cond_false] at h
    have h2':(rkB k == 4) = false:=by
     have:k ≠ 2:=by simpa using h2
     match k,hk,this with
     | 0,_,_ | 1,_,_ | 3,_,_ | 4,_,_=>decide
    obtain ⟨s',p',z4,z5,z6,e',hx⟩:=ih _ _ _ h hr hk true y4 y5 y6
    have hstep:qc3 (qaa K).1 (qaa K).2.1 (qaa K).2.2.1 (qaa K).2.2.2.1 (qaa K).2.2.2.2 (bsr s (rkB k) (ET T) (pos T l) true y4 y5 y6 e) = qc3 (qaa K).1 (qaa K).2.1 (qaa K).2.2.1 (qaa K).2.2.2.1 (qaa K).2.2.2.2 (bsr true (rkB k) (ET T) (pos T r) true y4 y5 y6 (exN (opAt k l) [e,b])):=by
     rw [qds,qds]
     refine qau ?_
     cases s
     ·refine (brT rfl).trans ((biS hop).trans ((brF h0).trans ((biS hc).trans ((brF rfl).trans ((brF h2').trans ?_)))))
      unfold bsr
      simp only [cond_true,qxX,EX2]; rfl
     ·refine (brT rfl).trans ((biS hop).trans ((brF h0).trans ((biS hc).trans ((brF rfl).trans ((brF h2').trans ?_)))))
      unfold bsr
      simp only [cond_true,qxX,EX2]; rfl
    refine ⟨s',p',z4,z5,z6,e',?_⟩
    rw [hstep]; exact hx
   ·rw [h2] at h
    cases h
    have h2':(rkB k == 4) = true:=by
     have:k = 2:=by simpa using h2
     subst this; rfl
    refine ⟨s,pos T l,y4,y5,y6,e,.inr (.inl ⟨opAt k l,b,r,rfl,hop,hc,?_⟩)⟩
    rw [qds]
    refine qaj ?_
    cases s
    ·exact (brT rfl).trans ((biS hop).trans ((brF h0).trans ((biS hc).trans ((brF rfl).trans ((brT h2').trans rfl)))))
    ·exact (brT rfl).trans ((biS hop).trans ((brF h0).trans ((biS hc).trans ((brF rfl).trans ((brT h2').trans rfl)))))
 ·rw [h0] at h
  cases h
  refine ⟨s,pos T l,y4,y5,y6,e,.inl ⟨l,rfl,rfl,?_⟩⟩
  rw [qds]
  refine qaj ?_
  cases s
  ·exact (brT rfl).trans ((biS hop).trans ((brT h0).trans rfl))
  ·exact (brT rfl).trans ((biS hop).trans ((brT h0).trans rfl))
def okG (e:Ex) (o1:Option Int) (o:Option qee):Option qee:=some (gv o1,0,[],[AV.agg [AV.int .i64 e.op,AV.int .i64 e.num,AV.str e.txt,AV.view 4 (EX e.args)],AV.agg [AV.int .i64 (gv o).fst,AV.int .i64 (gv o).snd.fst,AV.str (gv o).snd.snd.fst,AV.view 4 (gv o).snd.snd.snd.fst]],(gv o).snd.snd.snd.snd.fst,true)
def q05 (o:Option qee):Option qee:=some ((gv o).fst,(gv o).snd.fst,(gv o).snd.snd.fst,(gv o).snd.snd.snd.fst,(gv o).snd.snd.snd.snd.fst,false)
theorem q07 {τ α:Type} [Inhabited τ] {o:Option (Nat × τ)} {w:τ} {f0 f1 f2 f3 f4 f5:τ -> DT α} (h:o = some (0,w)):(DT.bi (pj 0 o) f0 (.bi (pj 1 o) f1 (.bi (pj 2 o) f2 (.bi (pj 3 o) f3 (.bi (pj 4 o) f4 (.bi (pj 5 o) f5 .no)))))).ev = (f0 w).ev:=by subst h; rfl
theorem q08 {τ α:Type} [Inhabited τ] {o:Option (Nat × τ)} {w:τ} {f0 f1 f2 f3 f4 f5:τ -> DT α} (h:o = some (1,w)):(DT.bi (pj 0 o) f0 (.bi (pj 1 o) f1 (.bi (pj 2 o) f2 (.bi (pj 3 o) f3 (.bi (pj 4 o) f4 (.bi (pj 5 o) f5 .no)))))).ev = (f1 w).ev:=by subst h; rfl
theorem q1t {τ α:Type} [Inhabited τ] {o:Option (Nat × τ)} {w:τ} {f0 f1 f2 f3 f4 f5:τ -> DT α} (h:o = some (2,w)):(DT.bi (pj 0 o) f0 (.bi (pj 1 o) f1 (.bi (pj 2 o) f2 (.bi (pj 3 o) f3 (.bi (pj 4 o) f4 (.bi (pj 5 o) f5 .no)))))).ev = (f2 w).ev:=by subst h; rfl
theorem qYY {τ α:Type} [Inhabited τ] {o:Option (Nat × τ)} {w:τ} {f0 f1 f2 f3 f4 f5:τ -> DT α} (h:o = some (3,w)):(DT.bi (pj 0 o) f0 (.bi (pj 1 o) f1 (.bi (pj 2 o) f2 (.bi (pj 3 o) f3 (.bi (pj 4 o) f4 (.bi (pj 5 o) f5 .no)))))).ev = (f3 w).ev:=by subst h; rfl
theorem qYZ {τ α:Type} [Inhabited τ] {o:Option (Nat × τ)} {w:τ} {f0 f1 f2 f3 f4 f5:τ -> DT α} (h:o = some (4,w)):(DT.bi (pj 0 o) f0 (.bi (pj 1 o) f1 (.bi (pj 2 o) f2 (.bi (pj 3 o) f3 (.bi (pj 4 o) f4 (.bi (pj 5 o) f5 .no)))))).ev = (f4 w).ev:=by subst h; rfl
theorem q09 {τ α:Type} [Inhabited τ] {o:Option (Nat × τ)} {w:τ} {f0 f1 f2 f3 f4 f5:τ -> DT α} (h:o = some (5,w)):(DT.bi (pj 0 o) f0 (.bi (pj 1 o) f1 (.bi (pj 2 o) f2 (.bi (pj 3 o) f3 (.bi (pj 4 o) f4 (.bi (pj 5 o) f5 .no)))))).ev = (f5 w).ev:=by subst h; rfl
theorem qIs (hT:T.length <= 1000000) {n K:Nat} (ih:∀ m l x,prs n m l = some x -> l <:+ T -> AtR T l x K m) {k:Nat} {r:Int} (hr:rkB k = r) (h0:(r == 0) = false) (h3:(r == 3) = false) (h7:(r == 7) = false) (h8:(r == 8) = false) (hk:k < 5) {l:List Tok} {x:Rs} (h:(qcO (prs n (.bin (k + 1)) l) fun e r=>prs n (.lp k e) r) = some x) (hl:l <:+ T):(qaa (K + 1)).1 (ET T) (pos T l) r = some (rsR T x):=by
 show (qbD (qaa K).1 (qaa K).2.1 (qaa K).2.2.1 (qaa K).2.2.2.1 (qaa K).2.2.2.2 (ET T) (pos T l) r).ev = _
 rw [qbD]
 refine (biS (v:=false) (by rw [h0]; rfl)).trans ((brF rfl).trans ((brF h0).trans ((biS (v:=false) (by rw [h3]; rfl)).trans ((brF rfl).trans ((biS (v:=false) (by rw [h7]; rfl)).trans ((brF rfl).trans ((biS (v:=false) (by rw [h3,h7]; rfl)).trans ((brF rfl).trans ((brF h8).trans ?_)))))))))
 subst hr
 rcases qbi h with ⟨r,hb,rfl⟩ | ⟨a,r,hb,h⟩
 ·have hc:=ih _ _ _ hb hl (by omega)
  rw [<- qrJ hk] at hc
  refine (biS hc).trans ?_
  have hL:qc3 (qaa K).1 (qaa K).2.1 (qaa K).2.2.1 (qaa K).2.2.2.1 (qaa K).2.2.2.2 (Sum.inl (ET T,rkB k,pos T r,false,0,0,[],0,0,[],[])) = some (0,Sum.inl (ET T,rkB k,pos T r,false,0,0,[],0,0,[],[])):=by
   rw [qds]
   exact qaj ((brF rfl).trans rfl)
  exact (q07 hL).trans rfl
 ·have hc:=ih _ _ _ hb hl (by omega)
  rw [<- qrJ hk] at hc
  have s1:=qeD hb hl
  have hloop:=ih _ _ _ h s1 hk false 0 0 []
  refine (biS hc).trans ?_
  obtain ⟨s,p,y4,y5,y6,e',(⟨r,rfl,rfl,hL⟩ | ⟨op,b,r,rfl,hO,hG,hL⟩ | ⟨r,rfl,hG,hL⟩)⟩:=hloop
  ·cases s
   ·exact (q07 hL).trans rfl
   ·exact (qYY hL).trans rfl
  ·rw [rr2]
   cases s
   ·exact (q1t hL).trans (((congrArg (okG e' · _) hO).trans (congrArg (okG e' _) hG)).trans rfl)
   ·exact (q09 hL).trans (((congrArg (okG e' · _) hO).trans (congrArg (okG e' _) hG)).trans rfl)
  ·cases s
   ·exact (q08 hL).trans ((congrArg q05 hG).trans rfl)
   ·exact (qYZ hL).trans ((congrArg q05 hG).trans rfl)
theorem qzG {K:Nat} {l r:List Tok} {rk op p:Int} {a:Ex} (hw:IntKind.i64.wrap (p + 1) = pos T l) (hc:(qaa K).1 (ET T) (pos T l) rk = some (rsR T (.ok a r))):(qaa (K + 1)).2.2.1 (ET T) p rk op = some (rsR T (.ok (exN op [a]) r)):=by
 show (qhT (qaa K).1 (qaa K).2.1 (qaa K).2.2.1 (qaa K).2.2.2.1 (qaa K).2.2.2.2 (ET T) p rk op).ev = _
 rw [qhT,hw,rr1]
 exact (biS hc).trans ((brF rfl).trans rfl)
theorem qvr {K:Nat} {l r:List Tok} {rk op p:Int} (hw:IntKind.i64.wrap (p + 1) = pos T l) (hc:(qaa K).1 (ET T) (pos T l) rk = some (rsR T (.bad r))):(qaa (K + 1)).2.2.1 (ET T) p rk op = some (rsR T (.bad r)):=by
 show (qhT (qaa K).1 (qaa K).2.1 (qaa K).2.2.1 (qaa K).2.2.2.1 (qaa K).2.2.2.2 (ET T) p rk op).ev = _
 rw [qhT,hw]
 exact (biS hc).trans ((brT rfl).trans rfl)
theorem qSC {m n:Nat} (h:m = n) (hn:n <= 10):room (m + 1) 56 = true:=by
 subst h
 exact qiy (by simp only [lim]; omega)
def qUi (o:Option qee):Option qee:=some (0,0,[],[],(gv o).snd.snd.snd.snd.fst,false)
theorem qRV (hT:T.length <= 1000000) {n K:Nat} (ih:∀ m l x,prs n m l = some x -> l <:+ T -> AtR T l x K m) {l:List Tok} {x:Rs} (hi:isW [105,102] l = true) (h:(qcO (prs n .ex l.tail) fun a r=>qbV [116,104,101,110] r fun r=>qcO (prs n .ex r) fun b r=>qbV [101,108,115,101] r fun r=>qcO (prs n .ex r) fun c r=>some (.ok (exN 19 [a,b,c]) r)) = some x) (hl:l <:+ T):(qaa (K + 1)).2.1 (ET T) (pos T l) = some (rsR T x):=by
 show (qsF (qaa K).1 (qaa K).2.1 (qaa K).2.2.1 (qaa K).2.2.2.1 (qaa K).2.2.2.2 (ET T) (pos T l)).ev = _
 rw [qsF]
 have is1:=qaZ (k:=5) rfl hl (s:=[105,102])
 rw [hi] at is1
 have w1:=qeX hT hl hi
 have s1:=qaU hl
 rcases qbi h with ⟨r,hb,rfl⟩ | ⟨a,r,hb,h⟩
 ·have hc:=ih _ _ _ hb s1
  simp only [AtR] at hc
  rw [<- w1] at hc
  have hL:qcK (qaa K).1 (qaa K).2.1 (qaa K).2.2.1 (qaa K).2.2.2.1 (qaa K).2.2.2.2 (Sum.inl (ET T,pos T l,0,0,0,[],[AV.str [105,102],AV.str [116,104,101,110],AV.str [101,108,115,101]],19,0,[])) = some (1,Sum.inl (ET T,pos T l,0,0,0,[],[AV.str [105,102],AV.str [116,104,101,110],AV.str [101,108,115,101]],19,0,[])):=by
   rw [qbU]
   exact qaj ((brT rfl).trans ((brT rfl).trans ((brT rfl).trans ((biS is1).trans ((brF rfl).trans ((biS hc).trans ((brT rfl).trans rfl)))))))
  exact (q08 hL).trans ((congrArg qUi hc).trans rfl)
 have hc:=ih _ _ _ hb s1
 simp only [AtR] at hc
 rw [<- w1] at hc
 have s2:=qeD hb s1
 have L1:qcK (qaa K).1 (qaa K).2.1 (qaa K).2.2.1 (qaa K).2.2.2.1 (qaa K).2.2.2.2 (Sum.inl (ET T,pos T l,0,0,0,[],[AV.str [105,102],AV.str [116,104,101,110],AV.str [101,108,115,101]],19,0,[])) = qcK (qaa K).1 (qaa K).2.1 (qaa K).2.2.1 (qaa K).2.2.2.1 (qaa K).2.2.2.2 (Sum.inr (ET T,pos T r,1,0,0,[],[AV.str [105,102],AV.str [116,104,101,110],AV.str [101,108,115,101]],19,0,[],[AV.agg [AV.int .i64 a.op,AV.int .i64 a.num,AV.str a.txt,AV.view 4 (EX a.args)]])):=by
  rw [qbU,qbU]
  exact qau ((brT rfl).trans ((brT rfl).trans ((brT rfl).trans ((biS is1).trans ((brF rfl).trans ((biS hc).trans ((brF rfl).trans rfl)))))))
 have is2:=qaZ (k:=5) rfl s2 (s:=[116,104,101,110])
 rcases qb1 h with ⟨hw,rfl⟩ | ⟨hw,h⟩
 ·rw [hw] at is2
  have hL:qcK (qaa K).1 (qaa K).2.1 (qaa K).2.2.1 (qaa K).2.2.2.1 (qaa K).2.2.2.2 (Sum.inl (ET T,pos T l,0,0,0,[],[AV.str [105,102],AV.str [116,104,101,110],AV.str [101,108,115,101]],19,0,[])) = some (3,Sum.inr (ET T,pos T r,1,0,0,[],[AV.str [105,102],AV.str [116,104,101,110],AV.str [101,108,115,101]],19,0,[],[AV.agg [AV.int .i64 a.op,AV.int .i64 a.num,AV.str a.txt,AV.view 4 (EX a.args)]])):=by
   rw [L1,qbU]
   exact qaj ((brT rfl).trans ((brT rfl).trans ((brT rfl).trans ((biS is2).trans ((brT rfl).trans rfl)))))
  exact (qYY hL).trans rfl
 rw [hw] at is2
 have w2:=qeX hT s2 hw
 have s3:=qaU s2
 rcases qbi h with ⟨r2,hb2,rfl⟩ | ⟨b,r2,hb2,h⟩
 ·have hc2:=ih _ _ _ hb2 s3
  simp only [AtR] at hc2
  rw [<- w2] at hc2
  have hL:qcK (qaa K).1 (qaa K).2.1 (qaa K).2.2.1 (qaa K).2.2.2.1 (qaa K).2.2.2.2 (Sum.inl (ET T,pos T l,0,0,0,[],[AV.str [105,102],AV.str [116,104,101,110],AV.str [101,108,115,101]],19,0,[])) = some (4,Sum.inr (ET T,pos T r,1,0,0,[],[AV.str [105,102],AV.str [116,104,101,110],AV.str [101,108,115,101]],19,0,[],[AV.agg [AV.int .i64 a.op,AV.int .i64 a.num,AV.str a.txt,AV.view 4 (EX a.args)]])):=by
   rw [L1,qbU]
   exact qaj ((brT rfl).trans ((brT rfl).trans ((brT rfl).trans ((biS is2).trans ((brF rfl).trans ((biS hc2).trans ((brT rfl).trans rfl)))))))
  exact (qYZ hL).trans ((congrArg qUi hc2).trans rfl)
 have hc2:=ih _ _ _ hb2 s3
 simp only [AtR] at hc2
 rw [<- w2] at hc2
 have s4:=qeD hb2 s3
 have L2:qcK (qaa K).1 (qaa K).2.1 (qaa K).2.2.1 (qaa K).2.2.2.1 (qaa K).2.2.2.2 (Sum.inr (ET T,pos T r,1,0,0,[],[AV.str [105,102],AV.str [116,104,101,110],AV.str [101,108,115,101]],19,0,[],[AV.agg [AV.int .i64 a.op,AV.int .i64 a.num,AV.str a.txt,AV.view 4 (EX a.args)]])) = qcK (qaa K).1 (qaa K).2.1 (qaa K).2.2.1 (qaa K).2.2.2.1 (qaa K).2.2.2.2 (Sum.inr (ET T,pos T r2,2,0,0,[],[AV.str [105,102],AV.str [116,104,101,110],AV.str [101,108,115,101]],19,0,[],[AV.agg [AV.int .i64 a.op,AV.int .i64 a.num,AV.str a.txt,AV.view 4 (EX a.args)],AV.agg [AV.int .i64 b.op,AV.int .i64 b.num,AV.str b.txt,AV.view 4 (EX b.args)]])):=by
  rw [qbU,qbU]
  exact qau ((brT rfl).trans ((brT rfl).trans ((brT rfl).trans ((biS is2).trans ((brF rfl).trans ((biS hc2).trans ((brF rfl).trans ((brT (qSC (n:=1) rfl (by decide))).trans rfl))))))))
 have is3:=qaZ (k:=5) rfl s4 (s:=[101,108,115,101])
 rcases qb1 h with ⟨hw2,rfl⟩ | ⟨hw2,h⟩
 ·rw [hw2] at is3
  have hL:qcK (qaa K).1 (qaa K).2.1 (qaa K).2.2.1 (qaa K).2.2.2.1 (qaa K).2.2.2.2 (Sum.inl (ET T,pos T l,0,0,0,[],[AV.str [105,102],AV.str [116,104,101,110],AV.str [101,108,115,101]],19,0,[])) = some (3,Sum.inr (ET T,pos T r2,2,0,0,[],[AV.str [105,102],AV.str [116,104,101,110],AV.str [101,108,115,101]],19,0,[],[AV.agg [AV.int .i64 a.op,AV.int .i64 a.num,AV.str a.txt,AV.view 4 (EX a.args)],AV.agg [AV.int .i64 b.op,AV.int .i64 b.num,AV.str b.txt,AV.view 4 (EX b.args)]])):=by
   rw [L1,L2,qbU]
   exact qaj ((brT rfl).trans ((brT rfl).trans ((brT rfl).trans ((biS is3).trans ((brT rfl).trans rfl)))))
  exact (qYY hL).trans rfl
 rw [hw2] at is3
 have w3:=qeX hT s4 hw2
 have s5:=qaU s4
 rcases qbi h with ⟨r3,hb3,rfl⟩ | ⟨c,r3,hb3,h⟩
 ·have hc3:=ih _ _ _ hb3 s5
  simp only [AtR] at hc3
  rw [<- w3] at hc3
  have hL:qcK (qaa K).1 (qaa K).2.1 (qaa K).2.2.1 (qaa K).2.2.2.1 (qaa K).2.2.2.2 (Sum.inl (ET T,pos T l,0,0,0,[],[AV.str [105,102],AV.str [116,104,101,110],AV.str [101,108,115,101]],19,0,[])) = some (4,Sum.inr (ET T,pos T r2,2,0,0,[],[AV.str [105,102],AV.str [116,104,101,110],AV.str [101,108,115,101]],19,0,[],[AV.agg [AV.int .i64 a.op,AV.int .i64 a.num,AV.str a.txt,AV.view 4 (EX a.args)],AV.agg [AV.int .i64 b.op,AV.int .i64 b.num,AV.str b.txt,AV.view 4 (EX b.args)]])):=by
   rw [L1,L2,qbU]
   exact qaj ((brT rfl).trans ((brT rfl).trans ((brT rfl).trans ((biS is3).trans ((brF rfl).trans ((biS hc3).trans ((brT rfl).trans rfl)))))))
  exact (qYZ hL).trans ((congrArg qUi hc3).trans rfl)
 have hc3:=ih _ _ _ hb3 s5
 simp only [AtR] at hc3
 rw [<- w3] at hc3
 cases h
 have L3:qcK (qaa K).1 (qaa K).2.1 (qaa K).2.2.1 (qaa K).2.2.2.1 (qaa K).2.2.2.2 (Sum.inr (ET T,pos T r2,2,0,0,[],[AV.str [105,102],AV.str [116,104,101,110],AV.str [101,108,115,101]],19,0,[],[AV.agg [AV.int .i64 a.op,AV.int .i64 a.num,AV.str a.txt,AV.view 4 (EX a.args)],AV.agg [AV.int .i64 b.op,AV.int .i64 b.num,AV.str b.txt,AV.view 4 (EX b.args)]])) = qcK (qaa K).1 (qaa K).2.1 (qaa K).2.2.1 (qaa K).2.2.2.1 (qaa K).2.2.2.2 (Sum.inr (ET T,pos T r3,3,0,0,[],[AV.str [105,102],AV.str [116,104,101,110],AV.str [101,108,115,101]],19,0,[],[AV.agg [AV.int .i64 a.op,AV.int .i64 a.num,AV.str a.txt,AV.view 4 (EX a.args)],AV.agg [AV.int .i64 b.op,AV.int .i64 b.num,AV.str b.txt,AV.view 4 (EX b.args)],AV.agg [AV.int .i64 c.op,AV.int .i64 c.num,AV.str c.txt,AV.view 4 (EX c.args)]])):=by
  rw [qbU,qbU]
  exact qau ((brT rfl).trans ((brT rfl).trans ((brT rfl).trans ((biS is3).trans ((brF rfl).trans ((biS hc3).trans ((brF rfl).trans ((brT (qSC (n:=2) rfl (by decide))).trans rfl))))))))
 have hL:qcK (qaa K).1 (qaa K).2.1 (qaa K).2.2.1 (qaa K).2.2.2.1 (qaa K).2.2.2.2 (Sum.inl (ET T,pos T l,0,0,0,[],[AV.str [105,102],AV.str [116,104,101,110],AV.str [101,108,115,101]],19,0,[])) = some (5,Sum.inr (ET T,pos T r3,3,0,0,[],[AV.str [105,102],AV.str [116,104,101,110],AV.str [101,108,115,101]],19,0,[],[AV.agg [AV.int .i64 a.op,AV.int .i64 a.num,AV.str a.txt,AV.view 4 (EX a.args)],AV.agg [AV.int .i64 b.op,AV.int .i64 b.num,AV.str b.txt,AV.view 4 (EX b.args)],AV.agg [AV.int .i64 c.op,AV.int .i64 c.num,AV.str c.txt,AV.view 4 (EX c.args)]])):=by
  rw [L1,L2,L3,qbU]
  exact qaj ((brF rfl).trans rfl)
 rw [rr3]
 exact (q09 hL).trans rfl
theorem cq0 {τ α:Type} [Inhabited τ] {o:Option (Nat × τ)} {w:τ} {f0 f1 f2 f3 f4 f5 f6 f7:τ -> DT α} (h:o = some (0,w)):(DT.bi (pj 0 o) f0 (.bi (pj 1 o) f1 (.bi (pj 2 o) f2 (.bi (pj 3 o) f3 (.bi (pj 4 o) f4 (.bi (pj 5 o) f5 (.bi (pj 6 o) f6 (.bi (pj 7 o) f7 .no)))))))).ev = (f0 w).ev:=by subst h; rfl
theorem cq2 {τ α:Type} [Inhabited τ] {o:Option (Nat × τ)} {w:τ} {f0 f1 f2 f3 f4 f5 f6 f7:τ -> DT α} (h:o = some (2,w)):(DT.bi (pj 0 o) f0 (.bi (pj 1 o) f1 (.bi (pj 2 o) f2 (.bi (pj 3 o) f3 (.bi (pj 4 o) f4 (.bi (pj 5 o) f5 (.bi (pj 6 o) f6 (.bi (pj 7 o) f7 .no)))))))).ev = (f2 w).ev:=by subst h; rfl
theorem cq4 {τ α:Type} [Inhabited τ] {o:Option (Nat × τ)} {w:τ} {f0 f1 f2 f3 f4 f5 f6 f7:τ -> DT α} (h:o = some (4,w)):(DT.bi (pj 0 o) f0 (.bi (pj 1 o) f1 (.bi (pj 2 o) f2 (.bi (pj 3 o) f3 (.bi (pj 4 o) f4 (.bi (pj 5 o) f5 (.bi (pj 6 o) f6 (.bi (pj 7 o) f7 .no)))))))).ev = (f4 w).ev:=by subst h; rfl
theorem cq5 {τ α:Type} [Inhabited τ] {o:Option (Nat × τ)} {w:τ} {f0 f1 f2 f3 f4 f5 f6 f7:τ -> DT α} (h:o = some (5,w)):(DT.bi (pj 0 o) f0 (.bi (pj 1 o) f1 (.bi (pj 2 o) f2 (.bi (pj 3 o) f3 (.bi (pj 4 o) f4 (.bi (pj 5 o) f5 (.bi (pj 6 o) f6 (.bi (pj 7 o) f7 .no)))))))).ev = (f5 w).ev:=by subst h; rfl
theorem cq6 {τ α:Type} [Inhabited τ] {o:Option (Nat × τ)} {w:τ} {f0 f1 f2 f3 f4 f5 f6 f7:τ -> DT α} (h:o = some (6,w)):(DT.bi (pj 0 o) f0 (.bi (pj 1 o) f1 (.bi (pj 2 o) f2 (.bi (pj 3 o) f3 (.bi (pj 4 o) f4 (.bi (pj 5 o) f5 (.bi (pj 6 o) f6 (.bi (pj 7 o) f7 .no)))))))).ev = (f6 w).ev:=by subst h; rfl
theorem qDC (hT:T.length <= 1000000) {n K:Nat} (ih:∀ m l x,prs n m l = some x -> l <:+ T -> AtR T l x K m) {op:Int} {s:Bs} {l:List Tok} {x:Rs} (hi:isW s l = true) (h:qew op (prs n .ex) l.tail = some x) (hl:l <:+ T):(qaa (K + 1)).2.2.2.2 (ET T) (pos T l) op = some (rsR T x):=by
 show (qls (qaa K).1 (qaa K).2.1 (qaa K).2.2.1 (qaa K).2.2.2.1 (qaa K).2.2.2.2 (ET T) (pos T l) op).ev = _
 rw [qls,qeX hT hl hi]
 have s0:=qaU hl
 have is1:=qaZ (k:=4) rfl s0 (s:=[40])
 unfold qew at h
 rcases qb1 h with ⟨hw,rfl⟩ | ⟨hw,h⟩
 ·rw [hw] at is1
  have hL:qcL (qaa K).1 (qaa K).2.1 (qaa K).2.2.1 (qaa K).2.2.2.1 (qaa K).2.2.2.2 (Sum.inl (ET T,pos T l.tail,0,0,0,[],[AV.str [40],AV.str [44],AV.str [41]],op,0,[])) = some (0,(Sum.inl (ET T,pos T l.tail,0,0,0,[],[AV.str [40],AV.str [44],AV.str [41]],op,0,[]))):=by
   rw [qcf]
   exact qaj ((brT rfl).trans ((brT rfl).trans ((brT rfl).trans ((biS is1).trans ((brT rfl).trans rfl)))))
  exact (cq0 hL).trans rfl
 rw [hw] at is1
 have w1:=qeX hT s0 hw
 have s1:=qaU s0
 rcases qbi h with ⟨r,hb,rfl⟩ | ⟨a,r,hb,h⟩
 ·have hc:=ih _ _ _ hb s1
  simp only [AtR] at hc
  rw [<- w1] at hc
  have hL:qcL (qaa K).1 (qaa K).2.1 (qaa K).2.2.1 (qaa K).2.2.2.1 (qaa K).2.2.2.2 (Sum.inl (ET T,pos T l.tail,0,0,0,[],[AV.str [40],AV.str [44],AV.str [41]],op,0,[])) = some (2,(Sum.inl (ET T,pos T l.tail,0,0,0,[],[AV.str [40],AV.str [44],AV.str [41]],op,0,[]))):=by
   rw [qcf]
   exact qaj ((brT rfl).trans ((brT rfl).trans ((brT rfl).trans ((biS is1).trans ((brF rfl).trans ((brF rfl).trans ((biS hc).trans ((brT rfl).trans rfl))))))))
  exact (cq2 hL).trans ((congrArg qUi hc).trans rfl)
 have hc:=ih _ _ _ hb s1
 simp only [AtR] at hc
 rw [<- w1] at hc
 have s2:=qeD hb s1
 have L1:qcL (qaa K).1 (qaa K).2.1 (qaa K).2.2.1 (qaa K).2.2.2.1 (qaa K).2.2.2.2 (Sum.inl (ET T,pos T l.tail,0,0,0,[],[AV.str [40],AV.str [44],AV.str [41]],op,0,[])) = qcL (qaa K).1 (qaa K).2.1 (qaa K).2.2.1 (qaa K).2.2.2.1 (qaa K).2.2.2.2 (Sum.inr (ET T,pos T r,1,0,0,[],[AV.str [40],AV.str [44],AV.str [41]],op,0,[],[AV.agg [AV.int .i64 a.op,AV.int .i64 a.num,AV.str a.txt,AV.view 4 (EX a.args)]])):=by
  rw [qcf,qcf]
  exact qau ((brT rfl).trans ((brT rfl).trans ((brT rfl).trans ((biS is1).trans ((brF rfl).trans ((brF rfl).trans ((biS hc).trans ((brF rfl).trans rfl))))))))
 have is2:=qaZ (k:=4) rfl s2 (s:=[44])
 rcases qb1 h with ⟨hw,rfl⟩ | ⟨hw,h⟩
 ·rw [hw] at is2
  have hL:qcL (qaa K).1 (qaa K).2.1 (qaa K).2.2.1 (qaa K).2.2.2.1 (qaa K).2.2.2.2 (Sum.inl (ET T,pos T l.tail,0,0,0,[],[AV.str [40],AV.str [44],AV.str [41]],op,0,[])) = some (4,(Sum.inr (ET T,pos T r,1,0,0,[],[AV.str [40],AV.str [44],AV.str [41]],op,0,[],[AV.agg [AV.int .i64 a.op,AV.int .i64 a.num,AV.str a.txt,AV.view 4 (EX a.args)]]))):=by
   rw [L1,qcf]
   exact qaj ((brT rfl).trans ((brT rfl).trans ((brT rfl).trans ((biS is2).trans ((brT rfl).trans rfl)))))
  exact (cq4 hL).trans rfl
 rw [hw] at is2
 have w2:=qeX hT s2 hw
 have s3:=qaU s2
 rcases qbi h with ⟨r2,hb2,rfl⟩ | ⟨b,r2,hb2,h⟩
 ·have hc2:=ih _ _ _ hb2 s3
  simp only [AtR] at hc2
  rw [<- w2] at hc2
  have hL:qcL (qaa K).1 (qaa K).2.1 (qaa K).2.2.1 (qaa K).2.2.2.1 (qaa K).2.2.2.2 (Sum.inl (ET T,pos T l.tail,0,0,0,[],[AV.str [40],AV.str [44],AV.str [41]],op,0,[])) = some (6,(Sum.inr (ET T,pos T r,1,0,0,[],[AV.str [40],AV.str [44],AV.str [41]],op,0,[],[AV.agg [AV.int .i64 a.op,AV.int .i64 a.num,AV.str a.txt,AV.view 4 (EX a.args)]]))):=by
   rw [L1,qcf]
   exact qaj ((brT rfl).trans ((brT rfl).trans ((brT rfl).trans ((biS is2).trans ((brF rfl).trans ((brF rfl).trans ((biS hc2).trans ((brT rfl).trans rfl))))))))
  exact (cq6 hL).trans ((congrArg qUi hc2).trans rfl)
 have hc2:=ih _ _ _ hb2 s3
 simp only [AtR] at hc2
 rw [<- w2] at hc2
 have s4:=qeD hb2 s3
 have L2:qcL (qaa K).1 (qaa K).2.1 (qaa K).2.2.1 (qaa K).2.2.2.1 (qaa K).2.2.2.2 (Sum.inr (ET T,pos T r,1,0,0,[],[AV.str [40],AV.str [44],AV.str [41]],op,0,[],[AV.agg [AV.int .i64 a.op,AV.int .i64 a.num,AV.str a.txt,AV.view 4 (EX a.args)]])) = qcL (qaa K).1 (qaa K).2.1 (qaa K).2.2.1 (qaa K).2.2.2.1 (qaa K).2.2.2.2 (Sum.inr (ET T,pos T r2,2,0,0,[],[AV.str [40],AV.str [44],AV.str [41]],op,0,[],[AV.agg [AV.int .i64 a.op,AV.int .i64 a.num,AV.str a.txt,AV.view 4 (EX a.args)],AV.agg [AV.int .i64 b.op,AV.int .i64 b.num,AV.str b.txt,AV.view 4 (EX b.args)]])):=by
  rw [qcf,qcf]
  exact qau ((brT rfl).trans ((brT rfl).trans ((brT rfl).trans ((biS is2).trans ((brF rfl).trans ((brF rfl).trans ((biS hc2).trans ((brF rfl).trans ((brT (qSC (n:=1) rfl (by decide))).trans rfl)))))))))
 have is3:=qaZ (k:=4) rfl s4 (s:=[41])
 rcases qb1 h with ⟨hw2,rfl⟩ | ⟨hw2,h⟩
 ·rw [hw2] at is3
  have hL:qcL (qaa K).1 (qaa K).2.1 (qaa K).2.2.1 (qaa K).2.2.2.1 (qaa K).2.2.2.2 (Sum.inl (ET T,pos T l.tail,0,0,0,[],[AV.str [40],AV.str [44],AV.str [41]],op,0,[])) = some (4,(Sum.inr (ET T,pos T r2,2,0,0,[],[AV.str [40],AV.str [44],AV.str [41]],op,0,[],[AV.agg [AV.int .i64 a.op,AV.int .i64 a.num,AV.str a.txt,AV.view 4 (EX a.args)],AV.agg [AV.int .i64 b.op,AV.int .i64 b.num,AV.str b.txt,AV.view 4 (EX b.args)]]))):=by
   rw [L1,L2,qcf]
   exact qaj ((brT rfl).trans ((brT rfl).trans ((brT rfl).trans ((biS is3).trans ((brT rfl).trans rfl)))))
  exact (cq4 hL).trans rfl
 rw [hw2] at is3
 have w3:=qeX hT s4 hw2
 cases h
 have hL:qcL (qaa K).1 (qaa K).2.1 (qaa K).2.2.1 (qaa K).2.2.2.1 (qaa K).2.2.2.2 (Sum.inl (ET T,pos T l.tail,0,0,0,[],[AV.str [40],AV.str [44],AV.str [41]],op,0,[])) = some (5,(Sum.inr (ET T,pos T r2,2,0,0,[],[AV.str [40],AV.str [44],AV.str [41]],op,0,[],[AV.agg [AV.int .i64 a.op,AV.int .i64 a.num,AV.str a.txt,AV.view 4 (EX a.args)],AV.agg [AV.int .i64 b.op,AV.int .i64 b.num,AV.str b.txt,AV.view 4 (EX b.args)]]))):=by
  rw [L1,L2,qcf]
  exact qaj ((brT rfl).trans ((brT rfl).trans ((brT rfl).trans ((biS is3).trans ((brF rfl).trans ((brT rfl).trans rfl))))))
 rw [rr2,<- w3]
 exact (cq5 hL).trans rfl
theorem qpY (t:Tok) (r:List Tok):qgj (t :: r) = bif t.kind == 1 then .ok (.mk 4 0 t.text []) r
  else bif t.kind == 3 then (bif (qbN t.text).2 == 0 then .ok (.mk 3 (qbN t.text).1 [] []) r else .bad (t :: r))
  else match qdP (t :: r) with
   | some n=>.ok (.mk 1 n [] []) r
   | none=>.bad (t :: r):=rfl
theorem qgh {s:Bs} {l:List Tok} {n:Int} (h:qdP l = some n):isW s l = false:=by
 cases l with
 | nil=>rfl
 | cons t l=>
  rw [qhG] at h
  cases hk:(t.kind == 2)
  ·rw [hk] at h; cases h
  ·have:t.kind = 2:=by simpa using hk
   rw [qbc,this]
   have:((2:Int) == qgB s) = false:=by unfold qgB; cases qeK s <;> decide
   rw [this,Bool.and_false]
theorem quu {l:List Tok} {n:Int} (hb:∀ t ∈ T,t.text.length <= 1000000) (hl:l <:+ T) (h:qdP l = some n):qgT (ET T) (pos T l) = some (n,true):=by
 obtain ⟨v,b,h1,h2⟩:=qmu hb hl
 rw [h] at h2
 obtain ⟨rfl,rfl⟩:=h2
 exact h1
theorem qut {l:List Tok} (hb:∀ t ∈ T,t.text.length <= 1000000) (hl:l <:+ T) (h:qdP l = none):∃ v,qgT (ET T) (pos T l) = some (v,false):=by
 obtain ⟨v,b,h1,h2⟩:=qmu hb hl
 rw [h] at h2
 exact ⟨v,by rw [h1,h2]⟩
theorem qLb (hT:T.length <= 1000000) (hb:∀ t ∈ T,t.text.length <= 1000000) {n K:Nat} (ih:∀ m l x,prs n m l = some x -> l <:+ T -> ∀ K,3 * n <= K -> AtR T l x K m) (hK:3 * n + 1 <= K) {l:List Tok} {x:Rs} (h:prs (n + 1) .prim l = some x) (hl:l <:+ T):(qaa (K + 1)).2.2.2.1 (ET T) (pos T l) = some (rsR T x):=by
 obtain ⟨J,rfl⟩:∃ J,K = J + 1:=⟨K - 1,by omega⟩
 have hpair:∀ op s x',isW s l = true -> qew op (prs n .ex) l.tail = some x' -> (qaa (J + 1)).2.2.2.2 (ET T) (pos T l) op = some (rsR T x'):=fun op s x' hi h'=>qDC hT (fun m l x h hl=>ih m l x h hl J (by omega)) hi h' hl
 generalize J + 1 = K at hpair hK ⊢
 show (qli (qaa K).1 (qaa K).2.1 (qaa K).2.2.1 (qaa K).2.2.2.1 (qaa K).2.2.2.2 (ET T) (pos T l)).ev = _
 rw [qli]
 rw [qld] at h
 have i1:=qaZ (k:=4) rfl hl (s:=[36])
 have i2:=qaZ (k:=5) rfl hl (s:=[109,105,110])
 have i3:=qaZ (k:=5) rfl hl (s:=[109,97,120])
 have i4:=qaZ (k:=4) rfl hl (s:=[40])
 cases hn:qdP l with
 | some v=>
  have hne:∃ t r,l = t :: r:=by
   cases l with
   | nil=>cases hn
   | cons t r=>exact ⟨t,r,rfl⟩
  rw [qgh hn,qgh hn,qgh hn,qgh hn] at h
  simp only [cond_false] at h
  cases h
  obtain ⟨t,r,rfl⟩:=hne
  have hk2:(t.kind == 2) = true:=by
   rw [qhG] at hn
   cases hk:(t.kind == 2)
   ·rw [hk] at hn; cases hn
   ·rfl
  have hk2':t.kind = 2:=by simpa using hk2
  have:qgj (t :: r) = .ok (.mk 1 v [] []) r:=by
   rw [qpY,hn,hk2']; rfl
  rw [this]
  refine (biS (quu hb hl hn)).trans ((brT rfl).trans ?_)
  show some (1,v,[],[],IntKind.i64.wrap (pos T (t :: r) + 1),true) = _
  rw [qcA hl hT]; rfl
 | none=>
  obtain ⟨v0,hn0⟩:=qut hb hl hn
  refine (biS hn0).trans ((brF rfl).trans ?_)
  refine (biS i1).trans ?_
  cases h1:isW [36] l
  ·rw [h1] at h
   simp only [cond_false] at h
   refine (brF rfl).trans ((biS i2).trans ?_)
   cases h2:isW [109,105,110] l
   ·rw [h2] at h
    simp only [cond_false] at h
    refine (brF rfl).trans ((biS i3).trans ?_)
    cases h3:isW [109,97,120] l
    ·rw [h3] at h
     simp only [cond_false] at h
     refine (brF rfl).trans ((biS i4).trans ?_)
     cases h4:isW [40] l
     ·rw [h4] at h
      cases h
      refine (brF rfl).trans ?_
      cases l with
      | nil=>
       have h0:decide (pos T [] < ((ET T).length:Int)) = false:=decide_eq_false (by rw [qiv,List.length_map]; omega)
       rw [h0]
       exact (biS (v:=false) rfl).trans ((brF rfl).trans ((biS (v:=false) rfl).trans ((brF rfl).trans rfl)))
      | cons t r=>
       rw [qw7 hl,qBQ hl,qA7 hl,qxz hl]
       rw [qpY,hn]
       cases k1:(t.kind == 1)
       ·refine (biS (v:=false) rfl).trans ((brF rfl).trans ?_)
        cases k3:(t.kind == 3)
        ·exact (biS (v:=false) rfl).trans ((brF rfl).trans rfl)
        ·refine (biS (v:=true) rfl).trans ((brT rfl).trans ((brT rfl).trans ?_))
         have hbt:=hb t (hl.subset (by simp))
         refine (biS (qwJ hbt)).trans ?_
         cases hr:((qbN t.text).2 == 0)
         ·exact (brF rfl).trans rfl
         ·refine (brT rfl).trans ?_
          show some (3,(qbN t.text).1,[],[],IntKind.i64.wrap (pos T (t :: r) + 1),true) = _
          rw [qcA hl hT]; rfl
       ·refine (biS (v:=true) rfl).trans ((brT rfl).trans ((brT rfl).trans ?_))
        show some (4,0,t.text,[],IntKind.i64.wrap (pos T (t :: r) + 1),true) = _
        rw [qcA hl hT]; rfl
     ·rw [h4] at h
      simp only [cond_true] at h
      have w:=qeX hT hl h4
      have s0:=qaU hl
      refine (brT rfl).trans ?_
      rcases qbi h with ⟨r,hb2,rfl⟩ | ⟨a,r,hb2,h⟩
      ·have hc:=ih _ _ _ hb2 s0 K (by omega)
       simp only [AtR] at hc
       rw [<- w] at hc
       exact (biS hc).trans ((biS (v:=true) rfl).trans ((brT rfl).trans rfl))
      ·have hc:=ih _ _ _ hb2 s0 K (by omega)
       simp only [AtR] at hc
       rw [<- w] at hc
       have s1:=qeD hb2 s0
       have i5:=qaZ (k:=4) rfl s1 (s:=[41])
       refine (biS hc).trans ?_
       rcases qb1 h with ⟨hw,rfl⟩ | ⟨hw,h⟩
       ·rw [hw] at i5
        refine (biS (v:=true) ?_).trans ((brT rfl).trans rfl)
        show br (!true) (some true) (br (sm (qa3 (ET T) (pos T r) 4 [41])) (some (!gv (qa3 (ET T) (pos T r) 4 [41]))) none) = _
        rw [i5]; rfl
       ·rw [hw] at i5
        cases h
        refine (biS (v:=false) ?_).trans ((brF rfl).trans ?_)
        ·show br (!true) (some true) (br (sm (qa3 (ET T) (pos T r) 4 [41])) (some (!gv (qa3 (ET T) (pos T r) 4 [41]))) none) = _
         rw [i5]; rfl
        ·show some (a.op,a.num,a.txt,EX a.args,IntKind.i64.wrap (pos T r + 1),true) = _
         rw [qeX hT s1 hw]; rfl
    ·rw [h3] at h
     simp only [cond_true] at h
     refine (brT rfl).trans ?_
     have hc:=hpair 18 _ _ h3 h
     exact (biS hc).trans (by cases x <;> rfl)
   ·rw [h2] at h
    simp only [cond_true] at h
    refine (brT rfl).trans ?_
    have hc:=hpair 17 _ _ h2 h
    exact (biS hc).trans (by cases x <;> rfl)
  ·rw [h1] at h
   simp only [cond_true] at h
   refine (brT rfl).trans ?_
   have w:=qeX hT hl h1
   have s0:=qaU hl
   rw [w]
   cases hn2:qdP l.tail with
   | none=>
    rw [hn2] at h; cases h
    obtain ⟨v1,hn3⟩:=qut hb s0 hn2
    exact (biS hn3).trans ((brT rfl).trans rfl)
   | some v=>
    rw [hn2] at h; cases h
    refine (biS (quu hb s0 hn2)).trans ((brF rfl).trans ?_)
    obtain ⟨t,r,rfl⟩:=qbr h1
    cases r with
    | nil=>cases hn2
    | cons u r=>
     show some (2,v,[],[],IntKind.i64.wrap (pos T (t :: u :: r) + 2),true) = _
     have e:=qcA s0 hT
     have e0:=qcA hl hT
     have b1:=hl.length_le
     simp only [List.length_cons] at b1
     have e2:IntKind.i64.wrap (pos T (t :: u :: r) + 2) = pos T r:=by
      unfold pos
      rw [wrap64 (by omega) (by omega)]
      simp only [List.length_cons]
      omega
     rw [e2]; rfl
theorem qwU {o:Option qee} {x:Rs} (h:o = some (rsR T x)):(DT.bi o (fun y1=>DT.at ((y1.fst,y1.snd.fst,y1.snd.snd.fst,y1.snd.snd.snd.fst,y1.snd.snd.snd.snd.fst,y1.snd.snd.snd.snd.snd):qee)) DT.no).ev = some (rsR T x):=by
 subst h; rfl
theorem qWo (hT:T.length <= 1000000) (hb:∀ t ∈ T,t.text.length <= 1000000):∀ n m l x,prs n m l = some x -> l <:+ T -> ∀ K,3 * n <= K -> AtR T l x K m:=by
 intro n
 induction n with
 | zero=>intro m l x h; cases h
 | succ n ih=>
  intro m l x h hl K hK
  cases m with
  | lp k e=>exact qVN hT (fun m l x h hl=>ih m l x h hl K (by omega)) h hl
  | cmp=>
   obtain ⟨K,rfl⟩:∃ J,K = J + 1:=⟨K - 1,by omega⟩
   exact qIs hT (fun m l x h hl=>ih m l x h hl K (by omega)) (k:=2) rfl (by decide) (by decide) (by decide) (by decide) (by decide) h hl
  | ex=>
   obtain ⟨K,rfl⟩:∃ J,K = J + 1 + 1:=⟨K - 2,by omega⟩
   have i1:=qaZ (k:=5) rfl hl (s:=[105,102])
   rw [qzo] at h
   cases hi:isW [105,102] l
   ·rw [hi] at h i1
    generalize hK1:K + 1 = K1
    show (qbD (qaa K1).1 (qaa K1).2.1 (qaa K1).2.2.1 (qaa K1).2.2.2.1 (qaa K1).2.2.2.2 (ET T) (pos T l) 0).ev = _
    rw [qbD,i1]
    refine (biS (v:=false) rfl).trans ((brF rfl).trans ((brT rfl).trans (qwU ?_)))
    exact ih (.bin 0) _ _ h hl K1 (by omega) (by decide)
   ·rw [hi] at h i1
    have hc:=qRV hT (fun m l x h hl=>ih m l x h hl K (by omega)) hi h hl
    generalize K + 1 = K1 at hc
    show (qbD (qaa K1).1 (qaa K1).2.1 (qaa K1).2.2.1 (qaa K1).2.2.2.1 (qaa K1).2.2.2.2 (ET T) (pos T l) 0).ev = _
    rw [qbD,i1]
    exact (biS (v:=true) rfl).trans ((brT rfl).trans (qwU hc))
  | neg=>
   obtain ⟨K,rfl⟩:∃ J,K = J + 1 + 1:=⟨K - 2,by omega⟩
   have i1:=qaZ (k:=4) rfl hl (s:=[45])
   rw [qrC] at h
   cases hi:isW [45] l
   ·rw [hi] at h i1
    generalize hK1:K + 1 = K1
    show (qbD (qaa K1).1 (qaa K1).2.1 (qaa K1).2.2.1 (qaa K1).2.2.2.1 (qaa K1).2.2.2.2 (ET T) (pos T l) 7).ev = _
    rw [qbD,i1]
    refine (biS (v:=false) rfl).trans ((brF rfl).trans ((brF rfl).trans ((biS (v:=false) rfl).trans ((brF rfl).trans ((biS (v:=false) rfl).trans ((brF rfl).trans ((biS (v:=true) rfl).trans ((brT rfl).trans (qwU ?_)))))))))
    exact ih .prim _ _ h hl K1 (by omega)
   ·rw [hi] at h i1
    have hu:(qaa (K + 1)).2.2.1 (ET T) (pos T l) 7 9 = some (rsR T x):=by
     rcases qbi h with ⟨r,hb2,rfl⟩ | ⟨a,r,hb2,h⟩
     ·exact qvr (qeX hT hl hi) (ih .neg _ _ hb2 (qaU hl) K (by omega))
     ·cases h
      exact qzG (qeX hT hl hi) (ih .neg _ _ hb2 (qaU hl) K (by omega))
    generalize K + 1 = K1 at hu
    show (qbD (qaa K1).1 (qaa K1).2.1 (qaa K1).2.2.1 (qaa K1).2.2.2.1 (qaa K1).2.2.2.2 (ET T) (pos T l) 7).ev = _
    rw [qbD,i1]
    exact (biS (v:=false) rfl).trans ((brF rfl).trans ((brF rfl).trans ((biS (v:=false) rfl).trans ((brF rfl).trans ((biS (v:=true) rfl).trans ((brT rfl).trans (qwU hu)))))))
  | prim=>
   obtain ⟨K,rfl⟩:∃ J,K = J + 1 + 1:=⟨K - 2,by omega⟩
   have hp:=qLb hT hb ih (K:=K) (by omega) h hl
   generalize K + 1 = K1 at hp
   show (qbD (qaa K1).1 (qaa K1).2.1 (qaa K1).2.2.1 (qaa K1).2.2.2.1 (qaa K1).2.2.2.2 (ET T) (pos T l) 8).ev = _
   rw [qbD]
   exact (biS (v:=false) rfl).trans ((brF rfl).trans ((brF rfl).trans ((biS (v:=false) rfl).trans ((brF rfl).trans ((biS (v:=false) rfl).trans ((brF rfl).trans ((biS (v:=false) rfl).trans ((brF rfl).trans ((brT rfl).trans (qwU hp))))))))))
  | bin k=>
   intro hk5
   rw [qrA] at h
   cases h5:(k == 5)
   ·rw [h5] at h
    simp only [cond_false] at h
    have n5:k ≠ 5:=by simpa using h5
    cases h2:(k == 2)
    ·rw [h2] at h
     obtain ⟨K,rfl⟩:∃ J,K = J + 1:=⟨K - 1,by omega⟩
     have n2:k ≠ 2:=by simpa using h2
     have hkk:k = 0 \/ k = 1 \/ k = 3 \/ k = 4:=by omega
     rcases hkk with rfl | rfl | rfl | rfl <;> exact qIs hT (fun m l x h hl=>ih m l x h hl K (by omega)) rfl (by decide) (by decide) (by decide) (by decide) (by decide) h hl
    ·rw [h2] at h
     simp only [cond_true] at h
     have e2:k = 2:=by simpa using h2
     subst e2
     obtain ⟨K,rfl⟩:∃ J,K = J + 1 + 1:=⟨K - 2,by omega⟩
     have i1:=qaZ (k:=5) rfl hl (s:=[110,111,116])
     cases hi:isW [110,111,116] l
     ·rw [hi] at h i1
      generalize hK1:K + 1 = K1
      show (qbD (qaa K1).1 (qaa K1).2.1 (qaa K1).2.2.1 (qaa K1).2.2.2.1 (qaa K1).2.2.2.2 (ET T) (pos T l) 3).ev = _
      rw [qbD,i1]
      refine (biS (v:=false) rfl).trans ((brF rfl).trans ((brF rfl).trans ((biS (v:=false) rfl).trans ((brF rfl).trans ((biS (v:=false) rfl).trans ((brF rfl).trans ((biS (v:=true) rfl).trans ((brT rfl).trans (qwU ?_)))))))))
      exact ih .cmp _ _ h hl K1 (by omega)
     ·rw [hi] at h i1
      have hu:(qaa (K + 1)).2.2.1 (ET T) (pos T l) 3 16 = some (rsR T x):=by
       rcases qbi h with ⟨r,hb2,rfl⟩ | ⟨a,r,hb2,h⟩
       ·exact qvr (qeX hT hl hi) (ih (.bin 2) _ _ hb2 (qaU hl) K (by omega) (by decide))
       ·cases h
        exact qzG (qeX hT hl hi) (ih (.bin 2) _ _ hb2 (qaU hl) K (by omega) (by decide))
      generalize K + 1 = K1 at hu
      show (qbD (qaa K1).1 (qaa K1).2.1 (qaa K1).2.2.1 (qaa K1).2.2.2.1 (qaa K1).2.2.2.2 (ET T) (pos T l) 3).ev = _
      rw [qbD,i1]
      exact (biS (v:=false) rfl).trans ((brF rfl).trans ((brF rfl).trans ((biS (v:=true) rfl).trans ((brT rfl).trans (qwU hu)))))
   ·rw [h5] at h
    simp only [cond_true] at h
    have e5:k = 5:=by simpa using h5
    subst e5
    exact ih .neg _ _ h hl K (by omega)
theorem qwG (hT:T.length <= 1000000) (hb:∀ t ∈ T,t.text.length <= 1000000) {l:List Tok} {x:Rs} (h:Ev .ex l x) (hl:l <:+ T):qq5 (ET T) (pos T l) 0 = some (rsR T x):=by
 obtain ⟨n,hn⟩:=h
 exact qb3 (n:=3 * n) fun m hm=>qWo hT hb n .ex l x hn hl m hm
theorem qrv (k:Int) (e:Ex) (r:List Tok):qX2 T k (.ok e r) = bif qaX e == 0 then (e.op,e.num,e.txt,EX e.args,pos T r,0) else qQV k (qaX e):=rfl
theorem qwF (hT:T.length <= 1000000) (hb:∀ t ∈ T,t.text.length <= 1000000) (k:Int):qmG (ET T) k = some (qje T k):=by
 rw [qAp,qlE,List.length_map]
 unfold qje
 by_cases hk:k < 0 \/ (T.length:Int) < k
 ·rw [if_pos hk]
  refine (biS (v:=true) ?_).trans ((brT rfl).trans rfl)
  rcases hk with hk | hk
  ·rw [decide_eq_true hk]; rfl
  ·rw [show decide (k > (T.length:Int)) = true from decide_eq_true hk]
   cases decide (k < 0) <;> rfl
 ·rw [if_neg hk]
  have h1:¬ (k < 0):=fun h=>hk (.inl h)
  have h2:¬ (k > (T.length:Int)):=fun h=>hk (.inr h)
  have hp:=qzn (T:=T) (k:=k) (by omega) (by omega)
  have hl:T.drop k.toNat <:+ T:=List.drop_suffix _ _
  have hv:=qwG hT hb (qmm (T.drop k.toNat)) hl
  have hgood:=(qmm (T.drop k.toNat)).good
  rw [hp] at hv
  refine (biS (v:=false) (by rw [decide_eq_false h1,decide_eq_false h2]; rfl)).trans ((brF rfl).trans ((biS hv).trans ?_))
  revert hgood
  generalize exS (T.drop k.toNat) = x
  intro hgood
  cases x with
  | bad r=>exact (brT rfl).trans rfl
  | ok e r=>
   have hn:e.nodes <= 1000000:=by
    have h1:=hgood.2
    have h2:=hl.length_le
    simp only [wtM] at h1
    omega
   refine (brF rfl).trans ((biS (qjZ (qXa (by simp only [big]; omega)))).trans ?_)
   rw [qrv]
   cases h0:(qaX e == 0)
   ·exact (brT (by rw [bne,h0]; rfl)).trans rfl
   ·exact (brF (by rw [bne,h0]; rfl)).trans rfl
end
end Go.Proofs.H10

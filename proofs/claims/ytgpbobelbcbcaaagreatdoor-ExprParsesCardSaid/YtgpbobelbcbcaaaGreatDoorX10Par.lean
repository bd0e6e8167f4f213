/- Expressions from tokens: what the program's reader comes to. -/
import Derived.Test.YtgpbobelbcbcaaaGreatDoorX10Pri
import Derived.Test.YtgpbobelbcbcaaaGreatDoorPsD
set_option linter.unusedVariables false
set_option linter.unusedSimpArgs false
set_option linter.unnecessarySimpa false
namespace Go.Proofs.H10
open Go Go.Eng Go.Tk
set_option maxRecDepth 20000
theorem qzb {s:Bs} {n:Int} (h:qk4 s = some n):Lib.atoiAll s = .ok n /\ 0 <= n /\ Lib.itoa n = s:=by
 unfold qk4 at h
 cases hi:qgG s
 ·rw [hi] at h; cases h
 ·have hg:=qiY hi
  rw [hi,hg] at h
  have ha:=(qbb.1 hi).1
  have hne:=(qbb.1 hi).2.1
  by_cases hb:9223372036854775808 <= qa1 0 s
  ·rw [decide_eq_true hb] at h; cases h
  ·rw [decide_eq_false hb] at h
   cases h
   refine ⟨?_,by omega,?_⟩
   ·rw [qqO ha hne,if_pos (by omega)]
   ·rw [qi1 (by omega),show ((qa1 0 s:Nat):Int).toNat = qa1 0 s by omega]
    exact qpm _ _ (Nat.le_refl _) hi
abbrev pos (T l:List Tok):Int:=((T.length - l.length:Nat):Int)
section
variable {T:List Tok}
theorem qqa {t:Tok} {l:List Tok} (h:t :: l <:+ T):T.length - (t :: l).length < T.length:=by
 have:=h.length_le
 simp only [List.length_cons] at this ⊢
 omega
theorem qOa {t:Tok} {l:List Tok} (h:t :: l <:+ T):T[T.length - (t :: l).length]'(qqa h) = t:=by
 obtain ⟨p,rfl⟩:=h
 have e:(p ++ t :: l).length - (t :: l).length = p.length:=by simp
 simp only [e]
 simp
theorem qcA {t:Tok} {l:List Tok} (h:t :: l <:+ T) (hT:T.length <= 1000000):IntKind.i64.wrap (pos T (t :: l) + 1) = pos T l:=by
 have:=h.length_le
 simp only [List.length_cons] at this
 unfold pos
 rw [wrap64 (by omega) (by omega)]
 simp only [List.length_cons]
 omega
theorem qiv:pos T [] = (T.length:Int):=by simp [pos]
theorem qK1 {t:Tok} {l:List Tok} (h:t :: l <:+ T) (hT:T.length <= 1000000):IntKind.i64.wrap (pos T l - 1) = pos T (t :: l):=by
 have:=h.length_le
 simp only [List.length_cons] at this
 unfold pos
 rw [wrap64 (by omega) (by omega)]
 simp only [List.length_cons]
 omega
theorem qE1 {t:Tok} {l:List Tok} (h:t :: l <:+ T):decide (pos T (t :: l) >= (T.length:Int)) = false:=decide_eq_false (by have:=qqa h; unfold pos; omega)
theorem qOT {t:Tok} {l:List Tok} (h:t :: l <:+ T):decide (pos T (t :: l) < (T.length:Int)) = true:=decide_eq_true (by have:=qqa h; unfold pos; omega)
theorem qBQ {t:Tok} {l:List Tok} (h:t :: l <:+ T):qaQ ksT (ET T) (pos T (t :: l)) = true:=okT (qqa h)
theorem qA7 {t:Tok} {l:List Tok} (h:t :: l <:+ T):intOf (cellAt (ET T) (pos T (t :: l)) 0) = t.kind:=by
 have:=qt0 (qqa h)
 rw [qOa h] at this; exact this
theorem qxz {t:Tok} {l:List Tok} (h:t :: l <:+ T):strOf (cellAt (ET T) (pos T (t :: l)) 2) = t.text:=by
 have:=qt2 (qqa h)
 rw [qOa h] at this; exact this
theorem qaU {l:List Tok} (h:l <:+ T):l.tail <:+ T:=by
 cases l with
 | nil=>exact h
 | cons t l=>exact (List.suffix_cons t l).trans h
theorem qbc (s:Bs) (t:Tok) (l:List Tok):isW s (t :: l) = (t.text == s && t.kind == qgB s):=rfl
theorem qhG (t:Tok) (l:List Tok):qdP (t :: l) = bif t.kind == 2 then qk4 t.text else none:=rfl
def q1D (T l:List Tok):Option Int -> (Int × List AV × Int) ⊕ (Int × List AV × Int)
 | some v=>.inl (v,ET T,pos T l.tail)
 | none=>.inr (pos T l,ET T,pos T l)
theorem qAJ (s:Bs) {l:List Tok} (hl:l <:+ T):qtu s (ET T) (pos T l) = some (isW s l,ET T,pos T l):=by
 rw [qEt,qsz,List.length_map]
 cases l with
 | nil=>
  refine (brT (decide_eq_true ?_)).trans rfl
  rw [qiv]; omega
 | cons t l=>
  refine (brF (qE1 hl)).trans ((brT (qBQ hl)).trans ?_)
  rw [qxz hl,qA7 hl]
  rw [qbc]
  unfold qgB
  cases hs:(t.text == s)
  ·exact (brT (by rfl)).trans rfl
  ·refine (brF (by rfl)).trans ((biS (qgb s)).trans ?_)
   cases hw:qeK s
   ·exact (brF rfl).trans ((brT (qBQ hl)).trans rfl)
   ·exact (brT rfl).trans ((brT (qBQ hl)).trans rfl)
theorem qfn (hT:T.length <= 1000000) (s:Bs) {l:List Tok} (hl:l <:+ T):qct s (ET T) (pos T l) = some (isW s l,ET T,bif isW s l then pos T l.tail else pos T l):=by
 rw [qEd,qsg]
 refine (biS (qAJ s hl)).trans ?_
 cases hi:isW s l
 ·exact (brT rfl).trans rfl
 ·obtain ⟨t,l',rfl⟩:=qbr hi
  refine (brF rfl).trans ?_
  show some _ = _
  rw [qcA hl hT]; rfl
theorem qjX (l:List Tok):qfo (ET T) (pos T l) = some (pos T l,ET T,pos T l):=by
 rw [qEm,qsq]; rfl
theorem qzH (hT:T.length <= 1000000) (s:Bs) {l:List Tok} (hl:l <:+ T):qde s (ET T) (pos T l) = some (bif isW s l then .inr (ET T,pos T l.tail) else .inl (pos T l,ET T,pos T l)):=by
 rw [qEn,qss]
 refine (biS (qfn hT s hl)).trans ?_
 cases isW s l
 ·exact (brT rfl).trans ((biS (qjX l)).trans rfl)
 ·exact (brF rfl).trans rfl
theorem qzm (hT:T.length <= 1000000) (hb:∀ t ∈ T,t.text.length <= 1000000) {l:List Tok} (hl:l <:+ T):qdd (ET T) (pos T l) = some (q1D T l (qdP l)):=by
 rw [qEe,qsh,List.length_map]
 have fl:∀ {l:List Tok},(DT.bi (qfo (ET T) (pos T l)) (fun y0=>DT.at ((.inr (y0.fst,y0.snd.fst,y0.snd.snd)):qCB)) .no).ev = some (.inr (pos T l,ET T,pos T l)):=fun {l}=>(biS (qjX l)).trans rfl
 cases l with
 | nil=>
  refine (brT (decide_eq_true ?_)).trans fl
  rw [qiv]; omega
 | cons t l=>
  have hp:pOk t.text = true:=by
   have:=hb t (hl.subset (by simp))
   simp only [pOk,decide_eq_true_eq]; omega
  refine (brF (qE1 hl)).trans ((brT (qBQ hl)).trans ?_)
  rw [qA7 hl]
  rw [qhG]
  cases hk:(t.kind == 2)
  ·have:(t.kind != 2) = true:=by simpa using hk
   exact (brT this).trans fl
  ·have:(t.kind != 2) = false:=by simpa using hk
   refine (brF this).trans ((brT (qBQ hl)).trans ?_)
   rw [qxz hl,hp,cond_true]
   simp only [Bool.true_and]
   have hn:∀ n,qk4 t.text = some n -> Lib.atoiAll t.text = .ok n /\ 0 <= n /\ Lib.itoa n = t.text:=fun n h=>qzb h
   cases ha:Lib.atoiAll t.text with
   | ok v=>
    refine (brT rfl).trans ?_
    have hbd:-9223372036854775808 <= v /\ v <= 9223372036854775807:=Lib.atoiAll_bounds ha
    by_cases h0:v < 0
    ·have hnone:qk4 t.text = none:=by
      cases hq:qk4 t.text with
      | none=>rfl
      | some n=>
       obtain ⟨q1,q2,_⟩:=hn n hq
       rw [ha] at q1; cases q1; omega
     rw [hnone]
     refine (biS (v:=true) ?_).trans ((brT rfl).trans fl)
     show br (decide (v < 0)) (some true) _ = _
     rw [decide_eq_true h0]; rfl
    ·have hr:(decide (-9223372036854775808 <= v) && decide (v <= 9223372036854775807)) = true:=by rw [decide_eq_true hbd.1,decide_eq_true hbd.2]; rfl
     refine (biS (v:=!(Lib.itoa v == t.text)) ?_).trans ?_
     ·show br (decide (v < 0)) (some true) (br (decide (-9223372036854775808 <= v) && decide (v <= 9223372036854775807)) (some (!(Lib.itoa v == t.text))) none) = _
      rw [decide_eq_false h0,hr]; rfl
     ·by_cases he:Lib.itoa v = t.text
      ·have hsome:qk4 t.text = some v:=by rw [<- he]; exact qns (by omega) hbd.2
       rw [hsome]
       have:(!(Lib.itoa v == t.text)) = false:=by simpa using he
       refine (brF this).trans ?_
       show some (Sum.inl (v,ET T,IntKind.i64.wrap (pos T (t :: l) + 1))) = _
       rw [qcA hl hT]; rfl
      ·have hnone:qk4 t.text = none:=by
        cases hq:qk4 t.text with
        | none=>rfl
        | some n=>
         obtain ⟨q1,q2,q3⟩:=hn n hq
         rw [ha] at q1; cases q1; exact absurd q3 he
       rw [hnone]
       have:(!(Lib.itoa v == t.text)) = true:=by simpa using he
       exact (brT this).trans fl
   | range=>
    have hnone:qk4 t.text = none:=by
     cases hq:qk4 t.text with
     | none=>rfl
     | some n=>have:=(hn n hq).1; rw [ha] at this; cases this
    rw [hnone]
    exact (brF rfl).trans ((brT rfl).trans fl)
   | _=>
    have hnone:qk4 t.text = none:=by
     cases hq:qk4 t.text with
     | none=>rfl
     | some n=>have:=(hn n hq).1; rw [ha] at this; cases this
    rw [hnone]
    exact (brF rfl).trans ((brF rfl).trans ((brT rfl).trans fl))
theorem qo3 (hT:T.length <= 1000000) {l:List Tok} (hl:l <:+ T) {vs:List Va} (hv:vs.length <= big):qtJ (EV vs,(vs.length:Int),0,ET T,pos T l) = some (qhf (fun v=>isW v.name l) (fun _=>0) 1 vs,EV vs,(vs.length:Int),((vs.findIdx (fun v=>isW v.name l):Nat):Int),ET T,pos T l):=by
 rw [qtK]
 refine qa8 (hd:=fun i=>(EV vs,(vs.length:Int),(i:Int),ET T,pos T l)) _ _ 1 (fun i hn=>?_) ?_
 ·show (qhh (EV vs) (vs.length:Int) (i:Int) (ET T) (pos T l)).ev = _
  rw [qhh,qbn hn]
  refine (brT rfl).trans ((brT (okV hn)).trans ?_)
  rw [qv0 hn]
  refine (biS (qfn hT _ hl)).trans ?_
  cases isW vs[i].name l
  ·refine (brF rfl).trans ?_
   simp only [qat hn hv,cond_false]; rfl
  ·exact (brT rfl).trans rfl
 ·show (qhh (EV vs) (vs.length:Int) (vs.length:Int) (ET T) (pos T l)).ev = _
  rw [qhh]
  exact (brF (by simp)).trans rfl
theorem qR4 (k:Nat) (l:List Tok):opAt k l = match (lvV k).find? (fun v=>isW v.name l) with | some v=>v.ty | none=>0:=by
 unfold opAt lvV
 rw [List.find?_map]
 have:(fun v:Va=>isW v.name l) ∘ (fun x:Bs × Int=>(⟨x.1,x.2⟩:Va)) = fun x=>isW x.1 l:=rfl
 rw [this]
 cases (lvS k).find? (fun x=>isW x.1 l) <;> rfl
theorem qVQ (k:Nat):(lvV k).length <= 4:=by
 match k with
 | 0 | 1 | 2 | 3 | 4=>decide
 | k + 5=>exact Nat.zero_le _
theorem qZl {k:Nat} {v:Va} (h:v ∈ lvV k):v.ty ≠ 0:=by
 match k with
 | 0 | 1 | 2 | 3 | 4=>
  simp only [lvV,lvS,List.map_cons,List.map_nil,List.mem_cons,List.not_mem_nil,or_false] at h
  first
   | (rcases h with rfl | rfl | rfl | rfl <;> decide)
   | (rcases h with rfl | rfl <;> decide)
   | (rcases h with rfl; decide)
 | k + 5=>cases h
def opP (T:List Tok) (k:Nat) (l:List Tok):List Tok:=bif opAt k l == 0 then l else l.tail
theorem qeV (hT:T.length <= 1000000) {k:Nat} (hk:k < 5) {l:List Tok} (hl:l <:+ T):qkM (k:Int) (ET T) (pos T l) = some (opAt k l,ET T,pos T (opP T k l)):=by
 rw [qEb,qsd]
 refine (biS qdk).trans ((brT (q1k (l:=lvs) (n:=k) hk)).trans ?_)
 rw [qLv (l:=lvs) hk,List.length_map]
 have hlk:lvs[k] = lvV k:=by
  match k,hk with
  | 0,_ | 1,_ | 2,_ | 3,_ | 4,_=>rfl
 rw [hlk]
 have hv:(lvV k).length <= big:=by have:=qVQ k; simp only [big]; omega
 have hL:=qo3 hT hl hv
 have hfo:=qR4 k l
 unfold qhf at hL
 cases hf:(lvV k).find? (fun v=>isW v.name l) with
 | none=>
  rw [hf] at hL hfo
  rw [hL]
  refine (biN rfl).trans ((biS rfl).trans ?_)
  have h0:opAt k l = 0:=hfo
  unfold opP
  rw [h0]; rfl
 | some v=>
  rw [hf] at hL hfo
  rw [hL]
  refine (biS rfl).trans ?_
  have hp:isW v.name l = true:=List.find?_some (p:=fun v:Va=>isW v.name l) hf
  have hm:=List.mem_of_find?_eq_some hf
  have h0:opAt k l = v.ty:=hfo
  have hlt:(lvV k).findIdx (fun v=>isW v.name l) < (lvV k).length:=List.findIdx_lt_length.2 ⟨v,hm,hp⟩
  have hg:(lvV k)[(lvV k).findIdx (fun v=>isW v.name l)] = v:=by
   have:=List.find?_eq_getElem?_findIdx (p:=fun v:Va=>isW v.name l) (xs:=lvV k)
   rw [hf,List.getElem?_eq_getElem hlt] at this
   exact (Option.some.inj this).symm
  show some (intOf (cellAt (EV (lvV k)) _ 1),(gv (qct (strOf (cellAt (EV (lvV k)) _ 0)) (ET T) (pos T l))).snd.fst,(gv (qct (strOf (cellAt (EV (lvV k)) _ 0)) (ET T) (pos T l))).snd.snd) = _
  rw [qv1 hlt,qv0 hlt,hg,qfn hT _ hl,hp,h0]
  have hne:(v.ty == 0) = false:=by simpa using qZl hm
  unfold opP
  rw [h0,hne]; rfl
def rsP (T:List Tok):Rs -> (Int × Int × Bs × List AV × List AV × Int) ⊕ (Int × List AV × Int)
 | .ok e r=>.inl (e.op,e.num,e.txt,EX e.args,ET T,pos T r)
 | .bad r=>.inr (pos T r,ET T,pos T r)
def rsQ (T:List Tok):Rs -> (Int × List AV × Int) ⊕ (Int × Int × Bs × List AV × List AV × Int)
 | .ok e r=>.inr (e.op,e.num,e.txt,EX e.args,ET T,pos T r)
 | .bad r=>.inl (pos T r,ET T,pos T r)
theorem qbi {o:Option Rs} {f:Ex -> List Tok -> Option Rs} {x:Rs} (h:qcO o f = some x):(∃ r,o = some (.bad r) /\ x = .bad r) \/ ∃ e r,o = some (.ok e r) /\ f e r = some x:=by
 unfold qcO at h
 cases o with
 | none=>cases h
 | some y=>
  cases y with
  | bad r=>cases h; exact .inl ⟨r,rfl,rfl⟩
  | ok e r=>exact .inr ⟨e,r,rfl,h⟩
theorem qb1 {s:Bs} {r:List Tok} {f:List Tok -> Option Rs} {x:Rs} (h:qbV s r f = some x):(isW s r = false /\ x = .bad r) \/ (isW s r = true /\ f r.tail = some x):=by
 unfold qbV at h
 cases hi:isW s r
 ·rw [hi] at h; cases h; exact .inl ⟨rfl,rfl⟩
 ·rw [hi] at h; exact .inr ⟨rfl,h⟩
theorem qeD {n:Nat} {m:Md} {l r:List Tok} {e:Ex} (h:prs n m l = some (.ok e r)) (hl:l <:+ T):r <:+ T:=(qzp _ _ _ _ h).1.trans hl
theorem qxX (o:Int) (l:List Ex):(exN o l).op = o /\ (exN o l).num = 0 /\ (exN o l).txt = [] /\ (exN o l).args = l:=⟨rfl,rfl,rfl,rfl⟩
theorem EX1 (a:Ex):EX [a] = [.agg [.int .i64 a.op,.int .i64 a.num,.str a.txt,.view 4 (EX a.args)]]:=by rw [<- qk0]; rfl
theorem EX2 (a b:Ex):EX [a,b] = [.agg [.int .i64 a.op,.int .i64 a.num,.str a.txt,.view 4 (EX a.args)],.agg [.int .i64 b.op,.int .i64 b.num,.str b.txt,.view 4 (EX b.args)]]:=by rw [<- qk0,<- qk0]; rfl
theorem EX3 (a b c:Ex):EX [a,b,c] = [.agg [.int .i64 a.op,.int .i64 a.num,.str a.txt,.view 4 (EX a.args)],.agg [.int .i64 b.op,.int .i64 b.num,.str b.txt,.view 4 (EX b.args)],.agg [.int .i64 c.op,.int .i64 c.num,.str c.txt,.view 4 (EX c.args)]]:=by rw [<- qk0,<- qk0,<- qk0]; rfl
theorem rs1 (o:Int) (a:Ex) (r:List Tok):rsP T (.ok (exN o [a]) r) = .inl (o,0,[],[.agg [.int .i64 a.op,.int .i64 a.num,.str a.txt,.view 4 (EX a.args)]],ET T,pos T r):=by rw [<- EX1]; rfl
theorem rs2 (o:Int) (a b:Ex) (r:List Tok):rsP T (.ok (exN o [a,b]) r) = .inl (o,0,[],[.agg [.int .i64 a.op,.int .i64 a.num,.str a.txt,.view 4 (EX a.args)],.agg [.int .i64 b.op,.int .i64 b.num,.str b.txt,.view 4 (EX b.args)]],ET T,pos T r):=by rw [<- EX2]; rfl
theorem rq2 (o:Int) (a b:Ex) (r:List Tok):rsQ T (.ok (exN o [a,b]) r) = .inr (o,0,[],[.agg [.int .i64 a.op,.int .i64 a.num,.str a.txt,.view 4 (EX a.args)],.agg [.int .i64 b.op,.int .i64 b.num,.str b.txt,.view 4 (EX b.args)]],ET T,pos T r):=by rw [<- EX2]; rfl
theorem rs3 (o:Int) (a b c:Ex) (r:List Tok):rsP T (.ok (exN o [a,b,c]) r) = .inl (o,0,[],[.agg [.int .i64 a.op,.int .i64 a.num,.str a.txt,.view 4 (EX a.args)],.agg [.int .i64 b.op,.int .i64 b.num,.str b.txt,.view 4 (EX b.args)],.agg [.int .i64 c.op,.int .i64 c.num,.str c.txt,.view 4 (EX c.args)]],ET T,pos T r):=by rw [<- EX3]; rfl
abbrev BT:=qek
def bst (s:Bool) (k:Nat) (op:Int) (A:List AV) (p y4 y5:Int) (y6:Bs) (e:Ex):BT:=bif s then .inr ((k:Int),op,A,p,y4,y5,y6,e.op,e.num,e.txt,EX e.args) else .inl ((k:Int),op,A,p,y4,y5,y6,e.op,e.num,e.txt,EX e.args)
def qYt (T:List Tok) (K k:Nat) (v:BT) (x:Rs):Prop:=∃ (s:Bool) (op p y4 y5:Int) (y6:Bs) (e:Ex),
 (∃ r,x = .ok e r /\ p = pos T r /\ qc4 (qaf K).1 (qaf K).2.1 (qaf K).2.2.1 (qaf K).2.2.2.1 (qaf K).2.2.2.2 v = some (bif s then 5 else 2,bst s k op (ET T) p y4 y5 y6 e)) \/
 (∃ b r,x = .ok (exN op [e,b]) r /\ (qaf K).2.1 ((k + 1:Nat):Int) (ET T) p = some (rsP T (.ok b r)) /\ qc4 (qaf K).1 (qaf K).2.1 (qaf K).2.2.1 (qaf K).2.2.2.1 (qaf K).2.2.2.2 v = some (bif s then 3 else 0,bst s k op (ET T) p y4 y5 y6 e)) \/
 (∃ r,x = .bad r /\ (qaf K).2.1 ((k + 1:Nat):Int) (ET T) p = some (rsP T (.bad r)) /\ qc4 (qaf K).1 (qaf K).2.1 (qaf K).2.2.1 (qaf K).2.2.2.1 (qaf K).2.2.2.2 v = some (bif s then 4 else 1,bst s k op (ET T) p y4 y5 y6 e))
theorem wr1 {k:Nat} (h:k < 5):IntKind.i64.wrap ((k:Int) + 1) = ((k + 1:Nat):Int):=by rw [wrap64 (by omega) (by omega)]; rfl
def AtM (T:List Tok) (l:List Tok) (x:Rs) (K:Nat):Md -> Prop
 | .ex=>(qaf K).1 (ET T) (pos T l) = some (rsP T x)
 | .bin k=>k <= 5 -> (qaf K).2.1 (k:Int) (ET T) (pos T l) = some (rsP T x)
 | .cmp=>isW [110,111,116] l = false -> (qaf (K + 1)).2.1 2 (ET T) (pos T l) = some (rsP T x)
 | .lp k e=>k < 5 -> ∀ s y4 y5 y6,qYt T K k (bst s k (opAt k l) (ET T) (pos T (opP T k l)) y4 y5 y6 e) x
 | .neg=>(qaf K).2.2.1 (ET T) (pos T l) = some (rsP T x)
 | .prim=>(qaf K).2.2.2.1 (ET T) (pos T l) = some (rsP T x)
theorem qZk (hT:T.length <= 1000000) {n K:Nat} (ih:∀ m l x,prs n m l = some x -> l <:+ T -> AtM T l x K m) {k:Nat} {e:Ex} {l:List Tok} {x:Rs} (h:prs (n + 1) (.lp k e) l = some x) (hl:l <:+ T):AtM T l x K (.lp k e):=by
 intro hk s y4 y5 y6
 rw [qzq] at h
 cases h0:(opAt k l == 0)
 ·rw [h0] at h
  simp only [cond_false] at h
  have hne:(opAt k l != 0) = true:=by rw [bne,h0]; rfl
  have hp:opP T k l = l.tail:=by unfold opP; rw [h0]; rfl
  rw [hp]
  rcases qbi h with ⟨r,hb,rfl⟩ | ⟨b,r,hb,h⟩
  ·have hc:=ih _ _ _ hb (qaU hl) (by omega)
   refine ⟨s,opAt k l,pos T l.tail,y4,y5,y6,e,.inr (.inr ⟨r,rfl,hc,?_⟩)⟩
   rw [qfw]
   rw [<- wr1 hk] at hc
   refine qaj ?_
   cases s
   ·refine (brT hne).trans ?_
    exact (qk1 hc).trans ((biR hc).trans rfl)
   ·refine (brT hne).trans ?_
    exact (qk1 hc).trans ((biR hc).trans rfl)
  ·have hc:=ih _ _ _ hb (qaU hl) (by omega)
   have hc':=hc
   rw [<- wr1 hk] at hc'
   have hr:r <:+ T:=qeD hb (qaU hl)
   cases h2:(k == 2)
   ·rw [h2] at h
    simp only [cond_false] at h
    have h2':((k:Int) == 2) = false:=by
     have:k ≠ 2:=by simpa using h2
     simpa using (by omega:¬ (k:Int) = 2)
    obtain ⟨s',op',p',z4,z5,z6,e',hx⟩:=ih _ _ _ h hr hk true y4 y5 y6
    have hstep:qc4 (qaf K).1 (qaf K).2.1 (qaf K).2.2.1 (qaf K).2.2.2.1 (qaf K).2.2.2.2 (bst s k (opAt k l) (ET T) (pos T l.tail) y4 y5 y6 e) = qc4 (qaf K).1 (qaf K).2.1 (qaf K).2.2.1 (qaf K).2.2.2.1 (qaf K).2.2.2.2 (bst true k (opAt k r) (ET T) (pos T (opP T k r)) y4 y5 y6 (exN (opAt k l) [e,b])):=by
     rw [qfw,qfw]
     refine qau ?_
     cases s
     ·refine (brT hne).trans ((biL hc').trans ((brF h2').trans ((biS (qeV hT hk hr)).trans ?_)))
      unfold bst
      simp only [cond_true,qxX,EX2]; rfl
     ·refine (brT hne).trans ((biL hc').trans ((brF h2').trans ((biS (qeV hT hk hr)).trans ?_)))
      unfold bst
      simp only [cond_true,qxX,EX2]; rfl
    refine ⟨s',op',p',z4,z5,z6,e',?_⟩
    rw [hstep]; exact hx
   ·rw [h2] at h
    cases h
    have h2':((k:Int) == 2) = true:=by
     have:k = 2:=by simpa using h2
     subst this; rfl
    refine ⟨s,opAt k l,pos T l.tail,y4,y5,y6,e,.inr (.inl ⟨b,r,rfl,hc,?_⟩)⟩
    rw [qfw]
    refine qaj ?_
    cases s
    ·exact (brT hne).trans ((biL hc').trans ((brT h2').trans rfl))
    ·exact (brT hne).trans ((biL hc').trans ((brT h2').trans rfl))
 ·rw [h0] at h
  cases h
  have hne:(opAt k l != 0) = false:=by rw [bne,h0]; rfl
  have hp:opP T k l = l:=by unfold opP; rw [h0]; rfl
  refine ⟨s,opAt k l,pos T (opP T k l),y4,y5,y6,e,.inl ⟨l,rfl,by rw [hp],?_⟩⟩
  rw [qfw]
  refine qaj ?_
  cases s
  ·exact (brF hne).trans rfl
  ·exact (brF hne).trans rfl
theorem ch0 {α:Type} {o:Option (Nat × BT)} {w:BT} {f0 f1 f2 f3 f4 f5:BT -> DT α} (h:o = some (0,w)):(DT.bi (pj 0 o) f0 (.bi (pj 1 o) f1 (.bi (pj 2 o) f2 (.bi (pj 3 o) f3 (.bi (pj 4 o) f4 (.bi (pj 5 o) f5 .no)))))).ev = (f0 w).ev:=by subst h; rfl
theorem ch1 {α:Type} {o:Option (Nat × BT)} {w:BT} {f0 f1 f2 f3 f4 f5:BT -> DT α} (h:o = some (1,w)):(DT.bi (pj 0 o) f0 (.bi (pj 1 o) f1 (.bi (pj 2 o) f2 (.bi (pj 3 o) f3 (.bi (pj 4 o) f4 (.bi (pj 5 o) f5 .no)))))).ev = (f1 w).ev:=by subst h; rfl
theorem ch2 {α:Type} {o:Option (Nat × BT)} {w:BT} {f0 f1 f2 f3 f4 f5:BT -> DT α} (h:o = some (2,w)):(DT.bi (pj 0 o) f0 (.bi (pj 1 o) f1 (.bi (pj 2 o) f2 (.bi (pj 3 o) f3 (.bi (pj 4 o) f4 (.bi (pj 5 o) f5 .no)))))).ev = (f2 w).ev:=by subst h; rfl
theorem ch3 {α:Type} {o:Option (Nat × BT)} {w:BT} {f0 f1 f2 f3 f4 f5:BT -> DT α} (h:o = some (3,w)):(DT.bi (pj 0 o) f0 (.bi (pj 1 o) f1 (.bi (pj 2 o) f2 (.bi (pj 3 o) f3 (.bi (pj 4 o) f4 (.bi (pj 5 o) f5 .no)))))).ev = (f3 w).ev:=by subst h; rfl
theorem ch4 {α:Type} {o:Option (Nat × BT)} {w:BT} {f0 f1 f2 f3 f4 f5:BT -> DT α} (h:o = some (4,w)):(DT.bi (pj 0 o) f0 (.bi (pj 1 o) f1 (.bi (pj 2 o) f2 (.bi (pj 3 o) f3 (.bi (pj 4 o) f4 (.bi (pj 5 o) f5 .no)))))).ev = (f4 w).ev:=by subst h; rfl
theorem ch5 {α:Type} {o:Option (Nat × BT)} {w:BT} {f0 f1 f2 f3 f4 f5:BT -> DT α} (h:o = some (5,w)):(DT.bi (pj 0 o) f0 (.bi (pj 1 o) f1 (.bi (pj 2 o) f2 (.bi (pj 3 o) f3 (.bi (pj 4 o) f4 (.bi (pj 5 o) f5 .no)))))).ev = (f5 w).ev:=by subst h; rfl
theorem qZg {o:Option ((Int × Int × Bs × List AV × List AV × Int) ⊕ (Int × List AV × Int))} {x:Rs} (h:o = some (rsP T x)):(DT.bi (pl o) (fun y1=>DT.at ((.inl (y1.fst,y1.snd.fst,y1.snd.snd.fst,y1.snd.snd.snd.fst,y1.snd.snd.snd.snd.fst,y1.snd.snd.snd.snd.snd)):(Int × Int × Bs × List AV × List AV × Int) ⊕ (Int × List AV × Int))) (DT.bi (pr o) (fun y1=>DT.at (.inr (y1.fst,y1.snd.fst,y1.snd.snd))) DT.no)).ev = some (rsP T x):=by
 subst h; cases x <;> rfl
theorem qk5 (hT:T.length <= 1000000) {s:Bs} {l:List Tok} (hl:l <:+ T) (h:isW s l = true):qde s (ET T) (pos T l) = some (.inr (ET T,pos T l.tail)):=by rw [qzH hT s hl,h]; rfl
theorem qBP (hT:T.length <= 1000000) {s:Bs} {l:List Tok} (hl:l <:+ T) (h:isW s l = false):qde s (ET T) (pos T l) = some (.inl (pos T l,ET T,pos T l)):=by rw [qzH hT s hl,h]; rfl
theorem paT (hT:T.length <= 1000000) {s:Bs} {l:List Tok} (hl:l <:+ T) (h:isW s l = true):qct s (ET T) (pos T l) = some (true,ET T,pos T l.tail):=by rw [qfn hT s hl,h]; rfl
theorem qSr (hT:T.length <= 1000000) {s:Bs} {l:List Tok} (hl:l <:+ T) (h:isW s l = false):qct s (ET T) (pos T l) = some (false,ET T,pos T l):=by rw [qfn hT s hl,h]; rfl
theorem qY8 (hT:T.length <= 1000000) {n K:Nat} (ih:∀ m l x,prs n m l = some x -> l <:+ T -> AtM T l x K m) {l:List Tok} {x:Rs} (h:prs (n + 1) .ex l = some x) (hl:l <:+ T):AtM T l x (K + 1) .ex:=by
 show (qsp (qaf K).1 (qaf K).2.1 (qaf K).2.2.1 (qaf K).2.2.2.1 (qaf K).2.2.2.2 (ET T) (pos T l)).ev = _
 rw [qsp]
 rw [qzo] at h
 cases hi:isW [105,102] l
 ·rw [hi] at h
  exact (biS (qSr hT hl hi)).trans ((brT rfl).trans (qZg (ih (.bin 0) _ _ h hl (by decide))))
 ·rw [hi] at h
  simp only [cond_true] at h
  refine (biS (paT hT hl hi)).trans ((brF rfl).trans ?_)
  have h1:=qaU hl
  rcases qbi h with ⟨r,hb,rfl⟩ | ⟨a,r1,hb,h⟩
  ·have hc:=ih _ _ _ hb h1
   exact (qk1 hc).trans ((biR hc).trans rfl)
  ·have hc:=ih _ _ _ hb h1
   have s1:=qeD hb h1
   refine (biL hc).trans ?_
   rcases qb1 h with ⟨hw,rfl⟩ | ⟨hw,h⟩
   ·exact (biL (qBP hT s1 hw)).trans rfl
   ·refine (qk1 (qk5 hT s1 hw)).trans ((biR (qk5 hT s1 hw)).trans ?_)
    have s2:=qaU s1
    rcases qbi h with ⟨r,hb2,rfl⟩ | ⟨b,r2,hb2,h⟩
    ·have hc2:=ih _ _ _ hb2 s2
     exact (qk1 hc2).trans ((biR hc2).trans rfl)
    ·have hc2:=ih _ _ _ hb2 s2
     have s3:=qeD hb2 s2
     refine (biL hc2).trans ?_
     rcases qb1 h with ⟨hw2,rfl⟩ | ⟨hw2,h⟩
     ·exact (biL (qBP hT s3 hw2)).trans rfl
     ·refine (qk1 (qk5 hT s3 hw2)).trans ((biR (qk5 hT s3 hw2)).trans ?_)
      have s4:=qaU s3
      rcases qbi h with ⟨r,hb3,rfl⟩ | ⟨c,r3,hb3,h⟩
      ·have hc3:=ih _ _ _ hb3 s4
       exact (qk1 hc3).trans ((biR hc3).trans rfl)
      ·have hc3:=ih _ _ _ hb3 s4
       cases h
       rw [rs3]
       exact (biL hc3).trans rfl
theorem qV7 (hT:T.length <= 1000000) {n K:Nat} (ih:∀ m l x,prs n m l = some x -> l <:+ T -> AtM T l x K m) {l:List Tok} {x:Rs} (h:prs (n + 1) .neg l = some x) (hl:l <:+ T):AtM T l x (K + 1) .neg:=by
 show (qsu (qaf K).1 (qaf K).2.1 (qaf K).2.2.1 (qaf K).2.2.2.1 (qaf K).2.2.2.2 (ET T) (pos T l)).ev = _
 rw [qsu]
 rw [qrC] at h
 cases hi:isW [45] l
 ·rw [hi] at h
  exact (biS (qSr hT hl hi)).trans ((brF rfl).trans (qZg (ih _ _ _ h hl)))
 ·rw [hi] at h
  simp only [cond_true] at h
  refine (biS (paT hT hl hi)).trans ((brT rfl).trans ?_)
  rcases qbi h with ⟨r,hb,rfl⟩ | ⟨a,r1,hb,h⟩
  ·have hc:=ih _ _ _ hb (qaU hl)
   exact (qk1 hc).trans ((biR hc).trans rfl)
  ·have hc:=ih _ _ _ hb (qaU hl)
   cases h
   rw [rs1]
   exact (biL hc).trans rfl
theorem qSt (hT:T.length <= 1000000) {n K:Nat} (ih:∀ m l x,prs n m l = some x -> l <:+ T -> AtM T l x K m) (op:Int) {l:List Tok} {x:Rs} (h:qew op (prs n .ex) l = some x) (hl:l <:+ T):(qaf (K + 1)).2.2.2.2 op (ET T) (pos T l) = some (rsQ T x):=by
 show (qsr (qaf K).1 (qaf K).2.1 (qaf K).2.2.1 (qaf K).2.2.2.1 (qaf K).2.2.2.2 op (ET T) (pos T l)).ev = _
 rw [qsr]
 unfold qew at h
 rcases qb1 h with ⟨hw,rfl⟩ | ⟨hw,h⟩
 ·exact (biL (qBP hT hl hw)).trans rfl
 ·refine (qk1 (qk5 hT hl hw)).trans ((biR (qk5 hT hl hw)).trans ?_)
  have h1:=qaU hl
  rcases qbi h with ⟨r,hb,rfl⟩ | ⟨a,r1,hb,h⟩
  ·have hc:=ih _ _ _ hb h1
   exact (qk1 hc).trans ((biR hc).trans rfl)
  ·have hc:=ih _ _ _ hb h1
   have s1:=qeD hb h1
   refine (biL hc).trans ?_
   rcases qb1 h with ⟨hw,rfl⟩ | ⟨hw,h⟩
   ·exact (biL (qBP hT s1 hw)).trans rfl
   ·refine (qk1 (qk5 hT s1 hw)).trans ((biR (qk5 hT s1 hw)).trans ?_)
    have s2:=qaU s1
    rcases qbi h with ⟨r,hb2,rfl⟩ | ⟨b,r2,hb2,h⟩
    ·have hc2:=ih _ _ _ hb2 s2
     exact (qk1 hc2).trans ((biR hc2).trans rfl)
    ·have hc2:=ih _ _ _ hb2 s2
     have s3:=qeD hb2 s2
     refine (biL hc2).trans ?_
     rcases qb1 h with ⟨hw2,rfl⟩ | ⟨hw2,h⟩
     ·exact (biL (qBP hT s3 hw2)).trans rfl
     ·cases h
      rw [rq2]
      exact (qk1 (qk5 hT s3 hw2)).trans ((biR (qk5 hT s3 hw2)).trans rfl)
theorem qWe {l:List Tok} {v:Int} (hT:T.length <= 1000000) (hb:∀ t ∈ T,t.text.length <= 1000000) (hl:l <:+ T) (h:qdP l = some v):qdd (ET T) (pos T l) = some (.inl (v,ET T,pos T l.tail)):=by rw [qzm hT hb hl,h]; rfl
theorem qK0 {l:List Tok} (hT:T.length <= 1000000) (hb:∀ t ∈ T,t.text.length <= 1000000) (hl:l <:+ T) (h:qdP l = none):qdd (ET T) (pos T l) = some (.inr (pos T l,ET T,pos T l)):=by rw [qzm hT hb hl,h]; rfl
theorem qw7 {t:Tok} {l:List Tok} (h:t :: l <:+ T):decide (pos T (t :: l) < ((ET T).length:Int)) = true:=by rw [List.length_map]; exact qOT h
theorem qSA (hT:T.length <= 1000000) (hb:∀ t ∈ T,t.text.length <= 1000000) {n K:Nat} (ih:∀ m l x,prs n m l = some x -> l <:+ T -> ∀ K,2 * n <= K -> AtM T l x K m) (hK:2 * n + 1 <= K) {l:List Tok} {x:Rs} (h:prs (n + 1) .prim l = some x) (hl:l <:+ T):AtM T l x (K + 1) .prim:=by
 obtain ⟨J,rfl⟩:∃ J,K = J + 1:=⟨K - 1,by omega⟩
 have hpair:∀ op l' x',qew op (prs n .ex) l' = some x' -> l' <:+ T -> (qaf (J + 1)).2.2.2.2 op (ET T) (pos T l') = some (rsQ T x'):=fun op l' x' h' hl'=>qSt hT (fun m l x h hl=>ih m l x h hl J (by omega)) op h' hl'
 generalize J + 1 = K at hpair hK ⊢
 show (qse (qaf K).1 (qaf K).2.1 (qaf K).2.2.1 (qaf K).2.2.2.1 (qaf K).2.2.2.2 (ET T) (pos T l)).ev = _
 rw [qse]
 rw [qld] at h
 cases h1:isW [36] l
 ·rw [h1] at h
  simp only [cond_false] at h
  refine (biS (qSr hT hl h1)).trans ((brF rfl).trans ?_)
  cases h2:isW [109,105,110] l
  ·rw [h2] at h
   simp only [cond_false] at h
   refine (biS (qSr hT hl h2)).trans ((brF rfl).trans ?_)
   cases h3:isW [109,97,120] l
   ·rw [h3] at h
    simp only [cond_false] at h
    refine (biS (qSr hT hl h3)).trans ((brF rfl).trans ?_)
    cases h4:isW [40] l
    ·rw [h4] at h
     cases h
     refine (biS (qSr hT hl h4)).trans ((brF rfl).trans ?_)
     have fin:∀ {x:Rs},(match qdP l with | some n=>Rs.ok (.mk 1 n [] []) l.tail | none=>.bad l) = x -> (DT.bi (pl (qdd (ET T) (pos T l))) (fun y4=>DT.at ((.inl (1,y4.fst,[],[],y4.snd.fst,y4.snd.snd)):qxK)) (.bi (pr (qdd (ET T) (pos T l))) (fun y4=>.at (.inr (y4.fst,y4.snd.fst,y4.snd.snd))) .no)).ev = some (rsP T x):=by
      intro x hx
      subst hx
      cases hn:qdP l with
      | none=>exact (qk1 (qK0 hT hb hl hn)).trans ((biR (qK0 hT hb hl hn)).trans rfl)
      | some v=>exact (biL (qWe hT hb hl hn)).trans rfl
     cases l with
     | nil=>
      have:decide (pos T [] < ((ET T).length:Int)) = false:=decide_eq_false (by rw [qiv,List.length_map]; omega)
      exact (brF this).trans ((brF this).trans (fin rfl))
     | cons t r=>
      refine (brT (qw7 hl)).trans ((brT (qBQ hl)).trans ?_)
      unfold qgj
      simp only [qA7 hl,qxz hl]
      cases k1:(t.kind == 1)
      ·refine (brF rfl).trans ((brT (qw7 hl)).trans ((brT (qBQ hl)).trans ?_))
       cases k3:(t.kind == 3)
       ·exact (brF rfl).trans (fin rfl)
       ·refine (brT rfl).trans ((brT (qBQ hl)).trans ?_)
        have hbt:=hb t (hl.subset (by simp))
        refine (biS (qmA (by simp only [big]; omega))).trans ?_
        cases hr:((qbN t.text).2 == 0)
        ·refine (brT (by rw [bne,hr]; rfl)).trans ((biS (qjX _)).trans rfl)
        ·refine (brF (by rw [bne,hr]; rfl)).trans ?_
         show some (Sum.inl (3,(qbN t.text).1,[],[],ET T,IntKind.i64.wrap (pos T (t :: r) + 1))) = _
         rw [qcA hl hT]; rfl
      ·refine (brT rfl).trans ?_
       have e:IntKind.i64.wrap (IntKind.i64.wrap (pos T (t :: r) + 1) - 1) = pos T (t :: r):=by rw [qcA hl hT,qK1 hl hT]
       refine (brT (by rw [e]; exact qBQ hl)).trans ?_
       show some (Sum.inl (4,0,strOf (cellAt (ET T) (IntKind.i64.wrap (IntKind.i64.wrap (pos T (t :: r) + 1) - 1)) 2),[],ET T,IntKind.i64.wrap (pos T (t :: r) + 1))) = _
       rw [e,qxz hl,qcA hl hT]; rfl
    ·rw [h4] at h
     simp only [cond_true] at h
     refine (biS (paT hT hl h4)).trans ((brT rfl).trans ?_)
     have s0:=qaU hl
     rcases qbi h with ⟨r,hb2,rfl⟩ | ⟨a,r,hb2,h⟩
     ·have hc:=ih _ _ _ hb2 s0 K (by omega)
      exact (qk1 hc).trans ((biR hc).trans rfl)
     ·have hc:=ih _ _ _ hb2 s0 K (by omega)
      have s1:=qeD hb2 s0
      refine (biL hc).trans ?_
      rcases qb1 h with ⟨hw,rfl⟩ | ⟨hw,h⟩
      ·exact (biL (qBP hT s1 hw)).trans rfl
      ·cases h
       exact (qk1 (qk5 hT s1 hw)).trans ((biR (qk5 hT s1 hw)).trans rfl)
   ·rw [h3] at h
    simp only [cond_true] at h
    refine (biS (paT hT hl h3)).trans ((brT rfl).trans ?_)
    have hc:=hpair 18 _ _ h (qaU hl)
    cases x with
    | ok e r=>exact (qk1 hc).trans ((biR hc).trans rfl)
    | bad r=>exact (biL hc).trans rfl
  ·rw [h2] at h
   simp only [cond_true] at h
   refine (biS (paT hT hl h2)).trans ((brT rfl).trans ?_)
   have hc:=hpair 17 _ _ h (qaU hl)
   cases x with
   | ok e r=>exact (qk1 hc).trans ((biR hc).trans rfl)
   | bad r=>exact (biL hc).trans rfl
 ·rw [h1] at h
  simp only [cond_true] at h
  refine (biS (paT hT hl h1)).trans ((brT rfl).trans ?_)
  have s0:=qaU hl
  cases hn:qdP l.tail with
  | none=>
   rw [hn] at h; cases h
   exact (qk1 (qK0 hT hb s0 hn)).trans ((biR (qK0 hT hb s0 hn)).trans rfl)
  | some v=>
   rw [hn] at h; cases h
   exact (biL (qWe hT hb s0 hn)).trans rfl
def okF (op:Int) (e:Ex) (o:Option qlX):Option qlX:=some (Sum.inl (op,0,[],[AV.agg [AV.int .i64 e.op,AV.int .i64 e.num,AV.str e.txt,AV.view 4 (EX e.args)],AV.agg [AV.int .i64 (gv (pl o)).fst,AV.int .i64 (gv (pl o)).snd.fst,AV.str (gv (pl o)).snd.snd.fst,AV.view 4 (gv (pl o)).snd.snd.snd.fst]],(gv (pl o)).snd.snd.snd.snd.fst,(gv (pl o)).snd.snd.snd.snd.snd))
def qXI (o:Option qlX):Option qlX:=some (Sum.inr ((gv (pr o)).fst,(gv (pr o)).snd.fst,(gv (pr o)).snd.snd))
theorem qUj (hT:T.length <= 1000000) {n K:Nat} (ih:∀ m l x,prs n m l = some x -> l <:+ T -> AtM T l x K m) {k:Nat} (h2:k ≠ 2) (hk:k < 5) {l:List Tok} {x:Rs} (h:(qcO (prs n (.bin (k + 1)) l) fun e r=>prs n (.lp k e) r) = some x) (hl:l <:+ T):(qaf (K + 1)).2.1 (k:Int) (ET T) (pos T l) = some (rsP T x):=by
 show (qfe (qaf K).1 (qaf K).2.1 (qaf K).2.2.1 (qaf K).2.2.2.1 (qaf K).2.2.2.2 (k:Int) (ET T) (pos T l)).ev = _
 rw [qfe]
 refine (biS qdk).trans ((brF (by rw [List.length_map]; simpa [lvs] using (by omega:¬ (k:Int) = 5))).trans ((brF (by simpa using (by omega:¬ (k:Int) = 2))).trans ?_))
 rcases qbi h with ⟨r,hb,rfl⟩ | ⟨a,r,hb,h⟩
 ·have hc:=ih _ _ _ hb hl (by omega)
  rw [<- wr1 hk] at hc
  exact (qk1 hc).trans ((biR hc).trans rfl)
 ·have hc:=ih _ _ _ hb hl (by omega)
  rw [<- wr1 hk] at hc
  have s1:=qeD hb hl
  have hloop:=ih _ _ _ h s1 hk false 0 0 []
  refine (biL hc).trans ((biS (qeV hT hk s1)).trans ?_)
  obtain ⟨s,op,p,y4,y5,y6,e',(⟨r,rfl,rfl,hL⟩ | ⟨b,r,rfl,hG,hL⟩ | ⟨r,rfl,hG,hL⟩)⟩:=hloop
  ·cases s
   ·exact (ch2 hL).trans rfl
   ·exact (ch5 hL).trans rfl
  ·rw [<- wr1 hk] at hG
   rw [rs2]
   cases s
   ·exact (ch0 hL).trans ((congrArg (okF op e') hG).trans rfl)
   ·exact (ch3 hL).trans ((congrArg (okF op e') hG).trans rfl)
  ·rw [<- wr1 hk] at hG
   cases s
   ·exact (ch1 hL).trans ((congrArg qXI hG).trans rfl)
   ·exact (ch4 hL).trans ((congrArg qXI hG).trans rfl)
theorem qVn (hT:T.length <= 1000000) {n K:Nat} (ih:∀ m l x,prs n m l = some x -> l <:+ T -> AtM T l x K m) {l:List Tok} {x:Rs} (h:prs (n + 1) .cmp l = some x) (hl:l <:+ T):AtM T l x K .cmp:=by
 intro hnot
 rw [qxe] at h
 have hk:2 < 5:=by decide
 show (qfe (qaf K).1 (qaf K).2.1 (qaf K).2.2.1 (qaf K).2.2.2.1 (qaf K).2.2.2.2 ((2:Nat):Int) (ET T) (pos T l)).ev = _
 rw [qfe]
 refine (biS qdk).trans ((brF rfl).trans ((brT rfl).trans ((biS (qSr hT hl hnot)).trans ((brF rfl).trans ?_))))
 rcases qbi h with ⟨r,hb,rfl⟩ | ⟨a,r,hb,h⟩
 ·have hc:=ih _ _ _ hb hl (by omega)
  exact (qk1 hc).trans ((biR hc).trans rfl)
 ·have hc:=ih _ _ _ hb hl (by omega)
  have s1:=qeD hb hl
  have hloop:=ih _ _ _ h s1 hk false 0 0 []
  refine (biL hc).trans ((biS (qeV hT hk s1)).trans ?_)
  obtain ⟨s,op,p,y4,y5,y6,e',(⟨r,rfl,rfl,hL⟩ | ⟨b,r,rfl,hG,hL⟩ | ⟨r,rfl,hG,hL⟩)⟩:=hloop
  ·cases s
   ·exact (ch2 hL).trans rfl
   ·exact (ch5 hL).trans rfl
  ·rw [<- wr1 hk] at hG
   rw [rs2]
   cases s
   ·exact (ch0 hL).trans ((congrArg (okF op e') hG).trans rfl)
   ·exact (ch3 hL).trans ((congrArg (okF op e') hG).trans rfl)
  ·rw [<- wr1 hk] at hG
   cases s
   ·exact (ch1 hL).trans ((congrArg qXI hG).trans rfl)
   ·exact (ch4 hL).trans ((congrArg qXI hG).trans rfl)
theorem qWg (hT:T.length <= 1000000) (hb:∀ t ∈ T,t.text.length <= 1000000):∀ n m l x,prs n m l = some x -> l <:+ T -> ∀ K,2 * n <= K -> AtM T l x K m:=by
 intro n
 induction n with
 | zero=>intro m l x h; cases h
 | succ n ih=>
  intro m l x h hl K hK
  cases m with
  | lp k e=>exact qZk hT (fun m l x h hl=>ih m l x h hl K (by omega)) h hl
  | cmp=>exact qVn hT (fun m l x h hl=>ih m l x h hl K (by omega)) h hl
  | ex=>
   obtain ⟨K,rfl⟩:∃ J,K = J + 1:=⟨K - 1,by omega⟩
   exact qY8 hT (fun m l x h hl=>ih m l x h hl K (by omega)) h hl
  | neg=>
   obtain ⟨K,rfl⟩:∃ J,K = J + 1:=⟨K - 1,by omega⟩
   exact qV7 hT (fun m l x h hl=>ih m l x h hl K (by omega)) h hl
  | prim=>
   obtain ⟨K,rfl⟩:∃ J,K = J + 1:=⟨K - 1,by omega⟩
   exact qSA hT hb ih (by omega) h hl
  | bin k=>
   obtain ⟨K,rfl⟩:∃ J,K = J + 1:=⟨K - 1,by omega⟩
   intro hk5
   rw [qrA] at h
   cases h5:(k == 5)
   ·rw [h5] at h
    simp only [cond_false] at h
    have n5:k ≠ 5:=by simpa using h5
    cases h2:(k == 2)
    ·rw [h2] at h
     exact qUj hT (fun m l x h hl=>ih m l x h hl K (by omega)) (by simpa using h2) (by omega) h hl
    ·rw [h2] at h
     simp only [cond_true] at h
     have e2:k = 2:=by simpa using h2
     subst e2
     cases hi:isW [110,111,116] l
     ·rw [hi] at h
      exact ih _ _ _ h hl K (by omega) hi
     ·rw [hi] at h
      simp only [cond_true] at h
      show (qfe (qaf K).1 (qaf K).2.1 (qaf K).2.2.1 (qaf K).2.2.2.1 (qaf K).2.2.2.2 ((2:Nat):Int) (ET T) (pos T l)).ev = _
      rw [qfe]
      refine (biS qdk).trans ((brF rfl).trans ((brT rfl).trans ((biS (paT hT hl hi)).trans ((brT rfl).trans ?_))))
      rcases qbi h with ⟨r,hb2,rfl⟩ | ⟨a,r,hb2,h⟩
      ·have hc:=ih _ _ _ hb2 (qaU hl) K (by omega) (by omega)
       exact (qk1 hc).trans ((biR hc).trans rfl)
      ·have hc:=ih _ _ _ hb2 (qaU hl) K (by omega) (by omega)
       cases h
       rw [rs1]
       exact (biL hc).trans rfl
   ·rw [h5] at h
    simp only [cond_true] at h
    have e5:k = 5:=by simpa using h5
    subst e5
    show (qfe (qaf K).1 (qaf K).2.1 (qaf K).2.2.1 (qaf K).2.2.2.1 (qaf K).2.2.2.2 ((5:Nat):Int) (ET T) (pos T l)).ev = _
    rw [qfe]
    exact (biS qdk).trans ((brT rfl).trans (qZg (ih _ _ _ h hl K (by omega))))
theorem qAI (hT:T.length <= 1000000) (hb:∀ t ∈ T,t.text.length <= 1000000) {l:List Tok} {x:Rs} (h:Ev .ex l x) (hl:l <:+ T):qEl (ET T) (pos T l) = some (rsP T x):=by
 obtain ⟨n,hn⟩:=h
 exact qb3 (n:=2 * n) fun m hm=>qWg hT hb n .ex l x hn hl m hm
end
def qQV (k f:Int):PaR:=(0,0,[],[],k,f)
noncomputable def exS (l:List Tok):Rs:=(qxW (m:=.ex) rfl l).choose
theorem qmm (l:List Tok):Ev .ex l (exS l):=(qxW (m:=.ex) rfl l).choose_spec
theorem qOv {l:List Tok} {x:Rs} (h:Ev .ex l x):exS l = x:=(qmm l).fn h
def qX2 (T:List Tok) (k:Int):Rs -> PaR
 | .ok e r=>bif qaX e == 0 then (e.op,e.num,e.txt,EX e.args,pos T r,0) else qQV k (qaX e)
 | .bad r=>qQV (pos T r) 2
noncomputable def qje (T:List Tok) (k:Int):PaR:=if k < 0 \/ (T.length:Int) < k then qQV k 2 else qX2 T k (exS (T.drop k.toNat))
theorem qzn {T:List Tok} {k:Int} (h0:0 <= k) (h1:k <= T.length):pos T (T.drop k.toNat) = k:=by
 unfold pos
 rw [List.length_drop]
 omega
theorem qvP {T:List Tok} (hT:T.length <= 1000000) (hb:∀ t ∈ T,t.text.length <= 1000000) (k:Int):qbs IP 10 [.view 3 (ET T),.int .i64 k] [] = some (paF (qje T k)):=by
 have pc:=fun {r}=>@qHz IP 10 29 17 53 (by kernel_rfl) (by kernel_rfl) rfl (ET T) k r
 unfold qje
 by_cases hk:k < 0 \/ (T.length:Int) < k
 ·rw [if_pos hk]
  refine pc ?_
  simp only [qzj,if_true,List.length_map,if_pos hk]
  rfl
 ·rw [if_neg hk]
  have hp:=qzn (T:=T) (k:=k) (by omega) (by omega)
  have hl:T.drop k.toNat <:+ T:=List.drop_suffix _ _
  have hv:=qAI hT hb (qmm (T.drop k.toNat)) hl
  have hgood:=(qmm (T.drop k.toNat)).good
  rw [hp] at hv
  have hc:=qOf (ET T,k) _ hv
  refine pc ?_
  simp only [qzj,if_true,List.length_map,if_neg hk]
  revert hc hgood
  generalize exS (T.drop k.toNat) = x
  intro hgood hc
  cases x with
  | bad r=>
   have hc':qbs IP 29 [.ref 0 0 0] [(0,.box [.view 3 (ET T),.int .i64 k] false)] = some (.pan (.iface 53 (.agg [.int .i64 (pos T r)])),[(0,.box [.view 3 (ET T),.int .i64 (pos T r)] false)]):=hc
   rw [hc']; rfl
  | ok e r=>
   have hc':qbs IP 29 [.ref 0 0 0] [(0,.box [.view 3 (ET T),.int .i64 k] false)] = some (.ret (.agg [.int .i64 e.op,.int .i64 e.num,.str e.txt,.view 4 (EX e.args)]),[(0,.box [.view 3 (ET T),.int .i64 (pos T r)] false)]):=hc
   have hn:e.nodes <= big:=by
    have h1:=hgood.2
    have h2:=hl.length_le
    simp only [wtM] at h1
    simp only [big]; omega
   have hv2:=qOk (e.op,e.num,e.txt,EX e.args) _ (qec hn)
   have hv':qbs IP 17 [.agg [.int .i64 e.op,.int .i64 e.num,.str e.txt,.view 4 (EX e.args)]] [] = some (.ret (.int .i64 (qaX e)),[]):=hv2
   rw [hc']
   simp only [hv',qX2]
   by_cases h0:qaX e = 0
   ·rw [if_pos h0,beq_iff_eq.2 h0]; rfl
   ·rw [if_neg h0,beq_eq_false_iff_ne.2 h0]; rfl
theorem qJR {T:List Tok} (hT:T.length <= 1000000) (hb:∀ t ∈ T,t.text.length <= 1000000) (k:Int):paB IP 10 (ET T) k = true /\ paV IP 10 (ET T) k = qje T k:=qWb (qvP hT hb k)
end Go.Proofs.H10

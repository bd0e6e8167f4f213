/- Expressions as tokens: what the program prints. -/
import Derived.Test.YtgpbobelbcbcaaaGreatDoorX10Exp
import Derived.Test.YtgpbobelbcbcaaaGreatDoorX10Tkt
import Derived.Test.YtgpbobelbcbcaaaGreatDoorPsE
import Derived.Test.YtgpbobelbcbcaaaGreatDoorTyA
set_option linter.unusedVariables false
set_option linter.unusedSimpArgs false
set_option linter.unnecessarySimpa false
namespace Go.Proofs.H10
open Go Go.Eng Go.Tk
set_option maxRecDepth 20000
theorem qbh (op:Int):qaW op = some (qaL op:Int):=by
 rw [qAr,qlH]
 by_cases h1:op = 19
 ·subst h1; rfl
 by_cases h2:op = 15
 ·subst h2; rfl
 by_cases h3:op = 14
 ·subst h3; rfl
 by_cases h4:op = 16
 ·subst h4; rfl
 by_cases h5:op = 10
 ·subst h5; rfl
 by_cases h6:op = 11
 ·subst h6; rfl
 by_cases h7:op = 12
 ·subst h7; rfl
 by_cases h8:op = 13
 ·subst h8; rfl
 by_cases h9:op = 5
 ·subst h9; rfl
 by_cases h10:op = 6
 ·subst h10; rfl
 by_cases h11:op = 7
 ·subst h11; rfl
 by_cases h12:op = 8
 ·subst h12; rfl
 by_cases h13:op = 9
 ·subst h13; rfl
 have e:∀ k:Int,op ≠ k -> (op == k) = false:=fun k h=>by simpa using h
 simp only [ev_br,ev_at,e _ h1,e _ h2,e _ h3,e _ h4,e _ h5,e _ h6,e _ h7,e _ h8,e _ h9,e _ h10,e _ h11,e _ h12,e _ h13,cond_false,qaL,h1,h2,h3,h4,h5,h6,h7,h8,h9,h10,h11,h12,h13,if_false,or_self]
 rfl
def lvV (k:Nat):List Va:=(lvS k).map fun x=>⟨x.1,x.2⟩
def lvA (l:List Va):AV:=.view 2 (EV l)
abbrev lvs:List (List Va):=[lvV 0,lvV 1,lvV 2,lvV 3,lvV 4]
theorem q1k {l:List (List Va)} {n:Nat} (h:n < l.length):qaQ [CS.slice 2] (l.map lvA) (n:Int) = true:=qkc (fun _=>rfl) h
theorem qLv {l:List (List Va)} {n:Nat} (h:n < l.length):qai (cellAt (l.map lvA) (n:Int) 0) = EV l[n]:=by rw [qbF h]; rfl
theorem qdk:qic = some (lvs.map lvA):=by
 rw [qz6,qll]; rfl
theorem qfp (k:Int) (s:Bs):qiU k s = some (ET [mkT k s]):=by
 rw [qEo,qst]; rfl
theorem qdn (k:Int) (s:Bs) {acc:List Tok} (h:acc.length <= 1000000):qgY k s (ET acc) = some (ET (acc ++ [mkT k s])):=by
 rw [qEh,qsl,List.length_map]
 refine (brT (qiy (by simp only [lim]; omega))).trans ?_
 rw [show ET (acc ++ [mkT k s]) = ET acc ++ ET [mkT k s] from List.map_append ..]; rfl
theorem qdo (s:Bs):qgZ s = some (ET [wT s]):=by
 rw [qEi,qsm]
 refine (biS (qgb s)).trans ?_
 unfold wT qgB
 cases qeK s
 ·exact (biS (qfp 4 s)).trans rfl
 ·exact (biS (qfp 5 s)).trans rfl
theorem qaD (s:Bs) {acc:List Tok} (h:acc.length <= 1000000):qa5 s (ET acc) = some (ET (acc ++ [wT s])):=by
 rw [qEf,qsj]
 refine (biS (qgb s)).trans ?_
 unfold wT qgB
 cases qeK s
 ·exact (biS (qdn 4 s h)).trans rfl
 ·exact (biS (qdn 5 s h)).trans rfl
theorem qnf (op m n:Int) (A:List AV) {vs:List Va} (hl:vs.length <= big):qet (op,A,m,n,EV vs,(vs.length:Int),0) = some (qhf (fun v=>v.ty == op) (fun _=>0) 1 vs,op,A,m,n,EV vs,(vs.length:Int),((vs.findIdx (fun v=>v.ty == op):Nat):Int)):=by
 rw [qpT]
 refine qa8 (hd:=fun i=>(op,A,m,n,EV vs,(vs.length:Int),(i:Int))) _ _ 1 (fun i hn=>?_) ?_
 ·simp only [qjp,qkt,qbn hn,okV hn,qv1 hn,ev_br,ev_at,cond_true,qat hn hl]
  cases (vs[i].ty == op) <;> rfl
 ·simp [qjp,qkt]
theorem qwX (op:Int) {ls:List (List Va)} (hl:ls.length <= big) (hb:∀ l ∈ ls,l.length <= big):qne (op,ls.map lvA,(ls.length:Int),0) = some (qhf (fun l=>l.any (fun v=>v.ty == op)) (fun _=>0) 1 ls,op,ls.map lvA,(ls.length:Int),((ls.findIdx (fun l=>l.any (fun v=>v.ty == op)):Nat):Int)):=by
 rw [qpS]
 refine qa8 (hd:=fun i=>(op,ls.map lvA,(ls.length:Int),(i:Int))) _ _ 1 (fun i hn=>?_) ?_
 ·have h1:=qnf op (ls.length:Int) (i:Int) (ls.map lvA) (hb ls[i] (List.getElem_mem hn))
  rw [qbG] at h1
  simp only [qjo,qks,qbn hn,q1k hn,qLv hn,List.length_map,ev_br,cond_true,h1]
  cases ls[i].any (fun v=>v.ty == op)
  ·refine (biN (by rfl)).trans ((biS (by rfl)).trans ?_)
   simp only [ev_at,qat hn hl]
   rfl
  ·exact (biS (by rfl)).trans rfl
 ·simp [qjo,qks]
theorem qfd {op:Int} {k i n:Nat} {v:Va} (hk:k < 5) (h0:qhf (fun l:List Va=>l.any (fun v=>v.ty == op)) (fun _=>0) 1 lvs = 0) (h1:lvs.findIdx (fun l=>l.any (fun v=>v.ty == op)) = k) (h2:lvs[k]? = some (lvV k))
  (h3:(lvV k).length = n) (h4:qhf (fun v:Va=>v.ty == op) (fun _=>0) 1 (lvV k) = 0) (h5:(lvV k).findIdx (fun v=>v.ty == op) = i) (h6:(lvV k)[i]? = some v):qbZ op = some v.name:=by
 have hb:∀ l ∈ lvs,l.length <= big:=by
  intro l hl
  have:l.length <= 4:=by
   simp only [List.mem_cons,List.not_mem_nil,or_false] at hl
   rcases hl with rfl | rfl | rfl | rfl | rfl <;> decide
  simp only [big]; omega
 have hout:=qwX op (ls:=lvs) (by simp [big]) hb
 rw [h0,h1] at hout
 have hkl:k < lvs.length:=hk
 have hin:=qnf op (lvs.length:Int) (k:Int) (lvs.map lvA) (vs:=lvV k) (hb _ (List.mem_of_getElem? h2))
 rw [h4,h5] at hin
 have hv:qai (cellAt (lvs.map lvA) (k:Int) 0) = EV (lvV k):=by
  rw [qLv hkl]
  have:lvs[k] = lvV k:=by rw [List.getElem?_eq_getElem hkl] at h2; exact Option.some.inj h2
  rw [this]
 rw [qAs,qlI]
 refine (biS qdk).trans ?_
 rw [List.length_map,hout]
 refine (biS (v:=(op,lvs.map lvA,(lvs.length:Int),(k:Int))) (by rfl)).trans ?_
 show some (strOf (cellAt (gv (pj 0 (qet (op,lvs.map lvA,(lvs.length:Int),(k:Int),qai (cellAt (lvs.map lvA) (k:Int) 0),((qai (cellAt (lvs.map lvA) (k:Int) 0)).length:Int),0)))).snd.snd.snd.snd.fst
  (gv (pj 0 (qet (op,lvs.map lvA,(lvs.length:Int),(k:Int),qai (cellAt (lvs.map lvA) (k:Int) 0),((qai (cellAt (lvs.map lvA) (k:Int) 0)).length:Int),0)))).snd.snd.snd.snd.snd.snd 0)) = _
 rw [hv,List.length_map,hin]
 have hil:i < (lvV k).length:=(List.getElem?_eq_some_iff.1 h6).1
 have hx:=qv0 hil
 rw [List.getElem?_eq_getElem hil] at h6
 rw [Option.some.inj h6] at hx
 exact congrArg some hx
theorem qmH {op:Int} (h1:5 <= op) (h2:op <= 15) (h9:op ≠ 9):qbZ op = some (qc9 op):=by
 rcases qjd h1 h2 h9 with rfl | rfl | rfl | rfl | rfl | rfl | rfl | rfl | rfl | rfl
 ·exact qfd (k:=3) (i:=0) (n:=2) (v:=⟨qc9 5,5⟩) (by decide) (by rfl) (by rfl) (by rfl) (by rfl) (by rfl) (by rfl) (by rfl)
 ·exact qfd (k:=3) (i:=1) (n:=2) (v:=⟨qc9 6,6⟩) (by decide) (by rfl) (by rfl) (by rfl) (by rfl) (by rfl) (by rfl) (by rfl)
 ·exact qfd (k:=4) (i:=0) (n:=2) (v:=⟨qc9 7,7⟩) (by decide) (by rfl) (by rfl) (by rfl) (by rfl) (by rfl) (by rfl) (by rfl)
 ·exact qfd (k:=4) (i:=1) (n:=2) (v:=⟨qc9 8,8⟩) (by decide) (by rfl) (by rfl) (by rfl) (by rfl) (by rfl) (by rfl) (by rfl)
 ·exact qfd (k:=2) (i:=0) (n:=4) (v:=⟨qc9 10,10⟩) (by decide) (by rfl) (by rfl) (by rfl) (by rfl) (by rfl) (by rfl) (by rfl)
 ·exact qfd (k:=2) (i:=1) (n:=4) (v:=⟨qc9 11,11⟩) (by decide) (by rfl) (by rfl) (by rfl) (by rfl) (by rfl) (by rfl) (by rfl)
 ·exact qfd (k:=2) (i:=2) (n:=4) (v:=⟨qc9 12,12⟩) (by decide) (by rfl) (by rfl) (by rfl) (by rfl) (by rfl) (by rfl) (by rfl)
 ·exact qfd (k:=2) (i:=3) (n:=4) (v:=⟨qc9 13,13⟩) (by decide) (by rfl) (by rfl) (by rfl) (by rfl) (by rfl) (by rfl) (by rfl)
 ·exact qfd (k:=1) (i:=0) (n:=1) (v:=⟨qc9 14,14⟩) (by decide) (by rfl) (by rfl) (by rfl) (by rfl) (by rfl) (by rfl) (by rfl)
 ·exact qfd (k:=0) (i:=0) (n:=1) (v:=⟨qc9 15,15⟩) (by decide) (by rfl) (by rfl) (by rfl) (by rfl) (by rfl) (by rfl) (by rfl)
theorem qh5 (e:Ex):1 <= e.nodes:=by cases e; simp only [Ex.nodes]; omega
theorem qHE:∀ e:Ex,e.allX qaK = true -> ∀ n,3 * e.dep <= n -> ∀ acc:List Tok,acc.length + 7 * e.nodes <= 1000000 -> (qaI n).2.1 e.op e.num e.txt (EX e.args) (ET acc) = some (ET (acc ++ wrB e)):=by
 intro e
 induction e using Ex.ind with
 | h o n s l ih=>
  intro hf m hm acc hacc
  have hdep:(Ex.mk o n s l).dep = Ex.depL l + 1:=by simp [Ex.dep]
  have hnod:(Ex.mk o n s l).nodes = 1 + Ex.nodesL l:=by simp only [Ex.nodes]; try omega
  rw [hnod] at hacc
  obtain ⟨k,rfl⟩:∃ k,m = k + 3:=⟨m - 3,by omega⟩
  rw [Ex.allX_eq,Bool.and_eq_true,List.all_eq_true] at hf
  obtain ⟨hop,hn0,hn1,htx⟩:=qdp hf.1
  simp only [Ex.op,Ex.args,Ex.num,Ex.txt] at hop hn0 hn1 htx
  have hO:∀ x ∈ l,∀ (j r:Nat) (acc:List Tok),k <= j -> acc.length + 7 * x.nodes + 4 <= 1000000 -> (qaI (j + 1)).1 x.op x.num x.txt (EX x.args) (r:Int) (ET acc) = some (ET (acc ++ par r x)):=by
   intro x hx j r acc hj hb
   have h2:=Ex.depL_mem hx
   have hE:∀ acc:List Tok,acc.length + 7 * x.nodes <= 1000000 -> (qaI j).2.1 x.op x.num x.txt (EX x.args) (ET acc) = some (ET (acc ++ wrB x)):=fun acc hb=>ih x hx (hf.2 x hx) j (by omega) acc hb
   show (qkG (qaI j).1 (qaI j).2.1 (qaI j).2.2 x.op x.num x.txt (EX x.args) (r:Int) (ET acc)).ev = _
   unfold qkG
   refine (biS (qbh x.op)).trans ?_
   by_cases hr:r <= qaL x.op
   ·have hd:decide (((qaL x.op:Nat):Int) >= (r:Int)) = true:=decide_eq_true (by omega)
    refine (brT hd).trans ?_
    refine (biS (hE acc (by omega))).trans ?_
    rw [qdR hr]; rfl
   ·have hd:decide (((qaL x.op:Nat):Int) >= (r:Int)) = false:=decide_eq_false (by omega)
    refine (brF hd).trans ?_
    have hw:=qeG x
    refine (biS (qaD [40] (by omega))).trans ?_
    refine (biS (hE _ (by simp only [List.length_append,List.length_cons,List.length_nil]; omega))).trans ?_
    refine (biS (qaD [41] (by simp only [List.length_append,List.length_cons,List.length_nil]; omega))).trans ?_
    rw [qnS (by omega)]
    simp
  have hA:∀ (i:Nat) (hi:i < l.length) (j r:Nat) (acc:List Tok),k <= j -> acc.length + 7 * l[i].nodes + 4 <= 1000000 ->
    (qaI (j + 1)).1 (intOf (cellAt (EX l) (i:Int) 0)) (intOf (cellAt (EX l) (i:Int) 1)) (strOf (cellAt (EX l) (i:Int) 2)) (qai (cellAt (EX l) (i:Int) 3)) (r:Int) (ET acc) = some (ET (acc ++ par r l[i])):=by
   intro i hi j r acc hj hb
   rw [qx0 hi,qx1 hi,qx2 hi,qx3 hi]
   exact hO l[i] (List.getElem_mem hi) j r acc hj hb
  show (qsi (qaI (k + 2)).1 (qaI (k + 2)).2.1 (qaI (k + 2)).2.2 o n s (EX l) (ET acc)).ev = _
  unfold qsi
  have h64:(decide (-9223372036854775808 <= n) && decide (n <= 9223372036854775807)) = true:=by
   have:n <= 9223372036854775807:=by
    unfold qdO at hn1
    (repeat' split at hn1) <;> omega
   rw [decide_eq_true (by omega),decide_eq_true this]; rfl
  match l,hop,hA,hacc with
  | [],hop,hA,hacc=>
   have h4:o = 1 \/ o = 2 \/ o = 3 \/ o = 4:=by
    simp only [List.length_nil,qaE] at hop
    (repeat' split at hop) <;> omega
   have hn3:o = 3 -> n <= 1000000:=by
    rintro rfl
    simpa [qdO] using hn1
   simp only [Ex.nodesL] at hacc
   rcases h4 with rfl | rfl | rfl | rfl
   ·refine (brT rfl).trans ((brT h64).trans ((biS (qdn 2 _ (by omega))).trans ?_))
    rw [qcr rfl]; rfl
   ·refine (brF rfl).trans ((brT rfl).trans ((biS (qaD _ (by omega))).trans ((brT h64).trans ((biS (qdn 2 _ (by simp; omega))).trans ?_))))
    rw [qcr rfl]
    simp [qnk,Ex.op,Ex.num]
   ·refine (brF rfl).trans ((brF rfl).trans ((brT rfl).trans ((biS (qpz n)).trans ((biS (qdn 3 _ (by omega))).trans ?_))))
    have hp:(qHA n).1 = qrw n.toNat:=by
     have h3:=hn3 rfl
     have e:(decide (n < 0) || decide (n > 1000000)) = false:=by rw [decide_eq_false (by omega),decide_eq_false (by omega)]; rfl
     unfold qHA
     rw [e]; rfl
    rw [qcr rfl,hp]; rfl
   ·refine (brF rfl).trans ((brF rfl).trans ((brF rfl).trans ((brT rfl).trans ((biS (qdn 1 _ (by omega))).trans ?_))))
    rw [qcr rfl]; rfl
  | [a],hop,hA,hacc=>
   have h4:o = 9 \/ o = 16:=by
    simp only [List.length_cons,List.length_nil,qaE] at hop
    (repeat' split at hop) <;> omega
   simp only [Ex.nodesL] at hacc
   have w:=qeG a
   have ok0:qaQ ksX (EX [a]) 0 = true:=okX (l:=[a]) (n:=0) (by simp)
   rcases h4 with rfl | rfl
   ·refine (brF rfl).trans ((brF rfl).trans ((brF rfl).trans ((brF rfl).trans ((brT rfl).trans ((biS (qaD _ (by omega))).trans ((brT ok0).trans ((biS (qbh 9)).trans ((biS (hA 0 (by simp) (k + 1) 7 _ (by omega) ?_)).trans ?_))))))))
    ·simp; omega
    ·rw [qhu rfl]; simp [Ex.op]; rfl
   ·refine (brF rfl).trans ((brF rfl).trans ((brF rfl).trans ((brF rfl).trans ((brF rfl).trans ((brT rfl).trans ((biS (qaD _ (by omega))).trans ((brT ok0).trans ((biS (qbh 16)).trans ((biS (hA 0 (by simp) (k + 1) 3 _ (by omega) ?_)).trans ?_)))))))))
    ·simp; omega
    ·rw [qhu rfl]; simp [Ex.op]; rfl
  | [a,b],hop,hA,hacc=>
   obtain ⟨g1,g2,g3,g4⟩:=qk7 (e:=.mk o n s [a,b]) hop rfl
   simp only [Ex.op] at g1 g2 g3 g4
   simp only [Ex.nodesL] at hacc
   have pa:=qbo 0 a
   have na:=qh5 a
   have nb:=qh5 b
   have pl:=qbo (qcQ o) a
   have pb:=qbo 0 b
   have ok0:qaQ ksX (EX [a,b]) 0 = true:=okX (l:=[a,b]) (n:=0) (by simp)
   have ok1:qaQ ksX (EX [a,b]) 1 = true:=okX (l:=[a,b]) (n:=1) (by simp)
   have hA0:∀ (j r:Nat) (acc:List Tok),k <= j -> acc.length + 7 * a.nodes + 4 <= 1000000 -> (qaI (j + 1)).1 (intOf (cellAt (EX [a,b]) 0 0)) (intOf (cellAt (EX [a,b]) 0 1)) (strOf (cellAt (EX [a,b]) 0 2)) (qai (cellAt (EX [a,b]) 0 3)) (r:Int) (ET acc) = some (ET (acc ++ par r a)):=
    fun j r acc h1 h2=>hA 0 (by simp) j r acc h1 h2
   have hA1:∀ (j r:Nat) (acc:List Tok),k <= j -> acc.length + 7 * b.nodes + 4 <= 1000000 -> (qaI (j + 1)).1 (intOf (cellAt (EX [a,b]) 1 0)) (intOf (cellAt (EX [a,b]) 1 1)) (strOf (cellAt (EX [a,b]) 1 2)) (qai (cellAt (EX [a,b]) 1 3)) (r:Int) (ET acc) = some (ET (acc ++ par r b)):=
    fun j r acc h1 h2=>hA 1 (by simp) j r acc h1 h2
   have ne:∀ k:Int,o ≠ k -> (o == k) = false:=fun k h=>by simpa using h
   by_cases h7:o = 17
   ·subst h7
    refine (brF rfl).trans ((brF rfl).trans ((brF rfl).trans ((brF rfl).trans ((brF rfl).trans ((brF rfl).trans ((brT rfl).trans ((brT rfl).trans ?_)))))))
    refine (biS (v:=ET (acc ++ wrB (.mk 17 n s [a,b]))) ?_).trans rfl
    show (qhs (qaI (k + 1)).1 (qaI (k + 1)).2.1 (qaI (k + 1)).2.2 17 n s (EX [a,b]) (ET acc)).ev = _
    unfold qhs
    refine (brF rfl).trans ((brF rfl).trans ((biS (qaD _ (by omega))).trans ((biS (qaD _ (by simp only [List.length_append,List.length_cons,List.length_nil]; omega))).trans ((brT ok0).trans ((biS (hA0 k 0 _ (Nat.le_refl _) (by simp only [List.length_append,List.length_cons,List.length_nil]; omega))).trans ((biS (qaD _ (by simp only [List.length_append,List.length_cons,List.length_nil]; omega))).trans ((brT ok1).trans ((biS (hA1 k 0 _ (Nat.le_refl _) (by simp only [List.length_append,List.length_cons,List.length_nil]; omega))).trans ((biS (qaD _ (by simp only [List.length_append,List.length_cons,List.length_nil]; omega))).trans ((brF rfl).trans ?_))))))))))
    rw [qff (e:=.mk 17 n s [a,b]) rfl (.inl rfl)]
    simp [qcz,Ex.op]
   by_cases h8:o = 18
   ·subst h8
    refine (brF rfl).trans ((brF rfl).trans ((brF rfl).trans ((brF rfl).trans ((brF rfl).trans ((brF rfl).trans ((brF rfl).trans ((brT rfl).trans ((brT rfl).trans ?_))))))))
    refine (biS (v:=ET (acc ++ wrB (.mk 18 n s [a,b]))) ?_).trans rfl
    show (qhs (qaI (k + 1)).1 (qaI (k + 1)).2.1 (qaI (k + 1)).2.2 18 n s (EX [a,b]) (ET acc)).ev = _
    unfold qhs
    refine (brT rfl).trans ((biS (qaD _ (by omega))).trans ((biS (qaD _ (by simp only [List.length_append,List.length_cons,List.length_nil]; omega))).trans ((brT ok0).trans ((biS (hA0 k 0 _ (Nat.le_refl _) (by simp only [List.length_append,List.length_cons,List.length_nil]; omega))).trans ((biS (qaD _ (by simp only [List.length_append,List.length_cons,List.length_nil]; omega))).trans ((brT ok1).trans ((biS (hA1 k 0 _ (Nat.le_refl _) (by simp only [List.length_append,List.length_cons,List.length_nil]; omega))).trans ((biS (qaD _ (by simp only [List.length_append,List.length_cons,List.length_nil]; omega))).trans ((brF rfl).trans ?_)))))))))
    rw [qff (e:=.mk 18 n s [a,b]) rfl (.inr rfl)]
    simp [qcz,Ex.op]
   have hr8:=qrE o
   refine (brF (ne 1 (by omega))).trans ((brF (ne 2 (by omega))).trans ((brF (ne 3 (by omega))).trans ((brF (ne 4 (by omega))).trans ((brF (ne 9 g3)).trans ((brF (ne 16 g4)).trans ((brF (ne 17 h7)).trans ((brF (ne 18 h8)).trans ((brF (ne 19 (by omega))).trans ?_))))))))
   refine (biS (qbh o)).trans ((biS (qbh 10)).trans ?_)
   have hw:∀ m:Nat,m <= 8 -> IntKind.i64.wrap ((m:Int) + 1) = ((m + 1:Nat):Int):=fun m hm=>by rw [wrap64 (by omega) (by omega)]; omega
   have tl:∀ acc':List Tok,acc'.length <= acc.length + 5 * a.nodes + 2 -> acc' = acc ++ par (qcQ o) a -> (DT.bi (qbZ o) (fun y3=>DT.bi (qa5 y3 (ET acc')) (fun y4=>DT.br (qaQ [CS.int IntKind.i64,CS.int IntKind.i64,CS.str,CS.slice 4] (EX [a,b]) 1)
     (.bi (qaW o) (fun y5=>.bi ((qaI (k + 2)).1 (intOf (cellAt (EX [a,b]) 1 0)) (intOf (cellAt (EX [a,b]) 1 1)) (strOf (cellAt (EX [a,b]) 1 2)) (qai (cellAt (EX [a,b]) 1 3)) (IntKind.i64.wrap (y5 + 1)) y4) (fun y6=>.at (y6)) (.no)) (.no)) (.no)) .no) .no:DT qxL).ev = some (ET (acc ++ wrB (.mk o n s [a,b]))):=by
    intro acc' hl he
    refine (biS (qmH g1 (by omega) g3)).trans ((biS (qaD _ (by omega))).trans ((brT ok1).trans ((biS (qbh o)).trans ?_)))
    rw [hw _ hr8]
    refine (biS (hA1 (k + 1) (qaL o + 1) _ (by omega) (by simp only [List.length_append,List.length_cons,List.length_nil]; omega))).trans ?_
    rw [qkZ (e:=.mk o n s [a,b]) rfl h7 h8,he]
    simp [Ex.op]
   by_cases h4:qaL o = 4
   ·have hc:(((qaL o:Nat):Int) == ((qaL 10:Nat):Int)) = true:=by rw [h4]; rfl
    refine (brT hc).trans ((brT ok0).trans ?_)
    rw [hw _ hr8]
    have hl:qcQ o = qaL o + 1:=by unfold qcQ; rw [if_pos h4,h4]
    refine (biS (hA0 (k + 1) (qaL o + 1) _ (by omega) (by omega))).trans ?_
    rw [<- hl]
    exact tl _ (by simp only [List.length_append,List.length_cons,List.length_nil]; omega) rfl
   ·have hc:(((qaL o:Nat):Int) == ((qaL 10:Nat):Int)) = false:=by
     have:qaL 10 = 4:=rfl
     rw [this]; simp; omega
    refine (brF hc).trans ((brT ok0).trans ?_)
    have hl:qcQ o = qaL o:=by unfold qcQ; rw [if_neg h4]
    refine (biS (hA0 (k + 1) (qaL o) _ (by omega) (by omega))).trans ?_
    rw [<- hl]
    exact tl _ (by simp only [List.length_append,List.length_cons,List.length_nil]; omega) rfl
  | a :: b :: c :: d,hop,hA,hacc=>
   have h19:o = 19 /\ d = []:=by
    simp only [List.length_cons,qaE] at hop
    (repeat' split at hop) <;> first | omega | (refine ⟨by assumption,List.length_eq_zero_iff.1 (by omega)⟩)
   obtain ⟨rfl,rfl⟩:=h19
   simp only [Ex.nodesL] at hacc
   have pa:=qbo 0 a
   have na:=qh5 a
   have nb:=qh5 b
   have pb:=qbo 0 b
   have ok0:qaQ ksX (EX [a,b,c]) 0 = true:=okX (l:=[a,b,c]) (n:=0) (by simp)
   have ok1:qaQ ksX (EX [a,b,c]) 1 = true:=okX (l:=[a,b,c]) (n:=1) (by simp)
   have ok2:qaQ ksX (EX [a,b,c]) 2 = true:=okX (l:=[a,b,c]) (n:=2) (by simp)
   have hA0:∀ (j r:Nat) (acc:List Tok),k <= j -> acc.length + 7 * a.nodes + 4 <= 1000000 -> (qaI (j + 1)).1 (intOf (cellAt (EX [a,b,c]) 0 0)) (intOf (cellAt (EX [a,b,c]) 0 1)) (strOf (cellAt (EX [a,b,c]) 0 2)) (qai (cellAt (EX [a,b,c]) 0 3)) (r:Int) (ET acc) = some (ET (acc ++ par r a)):=
    fun j r acc h1 h2=>hA 0 (by simp) j r acc h1 h2
   have hA1:∀ (j r:Nat) (acc:List Tok),k <= j -> acc.length + 7 * b.nodes + 4 <= 1000000 -> (qaI (j + 1)).1 (intOf (cellAt (EX [a,b,c]) 1 0)) (intOf (cellAt (EX [a,b,c]) 1 1)) (strOf (cellAt (EX [a,b,c]) 1 2)) (qai (cellAt (EX [a,b,c]) 1 3)) (r:Int) (ET acc) = some (ET (acc ++ par r b)):=
    fun j r acc h1 h2=>hA 1 (by simp) j r acc h1 h2
   have hA2:∀ (j r:Nat) (acc:List Tok),k <= j -> acc.length + 7 * c.nodes + 4 <= 1000000 -> (qaI (j + 1)).1 (intOf (cellAt (EX [a,b,c]) 2 0)) (intOf (cellAt (EX [a,b,c]) 2 1)) (strOf (cellAt (EX [a,b,c]) 2 2)) (qai (cellAt (EX [a,b,c]) 2 3)) (r:Int) (ET acc) = some (ET (acc ++ par r c)):=
    fun j r acc h1 h2=>hA 2 (by simp) j r acc h1 h2
   refine (brF rfl).trans ((brF rfl).trans ((brF rfl).trans ((brF rfl).trans ((brF rfl).trans ((brF rfl).trans ((brF rfl).trans ((brF rfl).trans ((brT rfl).trans ?_))))))))
   refine (biS (v:=ET (acc ++ wrB (.mk 19 n s [a,b,c]))) ?_).trans rfl
   show (qhs (qaI (k + 1)).1 (qaI (k + 1)).2.1 (qaI (k + 1)).2.2 19 n s (EX [a,b,c]) (ET acc)).ev = _
   unfold qhs
   refine (brF rfl).trans ((brT rfl).trans ((biS (qaD _ (by omega))).trans ((brT ok0).trans ((biS (hA0 k 0 _ (Nat.le_refl _) (by simp only [List.length_append,List.length_cons,List.length_nil]; omega))).trans ((biS (qaD _ (by simp only [List.length_append,List.length_cons,List.length_nil]; omega))).trans ((brT ok1).trans ((biS (hA1 k 0 _ (Nat.le_refl _) (by simp only [List.length_append,List.length_cons,List.length_nil]; omega))).trans ((biS (qaD _ (by simp only [List.length_append,List.length_cons,List.length_nil]; omega))).trans ((brT rfl).trans ((brT ok2).trans ((biS (hA2 k 0 _ (Nat.le_refl _) (by simp only [List.length_append,List.length_cons,List.length_nil]; omega))).trans ?_)))))))))))
   rw [qxI (e:=.mk 19 n s [a,b,c]) rfl]
   simp [qcz]
theorem qSq {x:Ex} (hf:x.allX qaK = true) {j r:Nat} (hj:3 * x.dep <= j) {acc:List Tok} (hb:acc.length + 7 * x.nodes + 4 <= 1000000):(qaI (j + 1)).1 x.op x.num x.txt (EX x.args) (r:Int) (ET acc) = some (ET (acc ++ par r x)):=by
 have hE:∀ acc:List Tok,acc.length + 7 * x.nodes <= 1000000 -> (qaI j).2.1 x.op x.num x.txt (EX x.args) (ET acc) = some (ET (acc ++ wrB x)):=fun acc hb=>qHE x hf j hj acc hb
 show (qkG (qaI j).1 (qaI j).2.1 (qaI j).2.2 x.op x.num x.txt (EX x.args) (r:Int) (ET acc)).ev = _
 unfold qkG
 refine (biS (qbh x.op)).trans ?_
 by_cases hr:r <= qaL x.op
 ·have hd:decide (((qaL x.op:Nat):Int) >= (r:Int)) = true:=decide_eq_true (by omega)
  refine (brT hd).trans ?_
  refine (biS (hE acc (by omega))).trans ?_
  rw [qdR hr]; rfl
 ·have hd:decide (((qaL x.op:Nat):Int) >= (r:Int)) = false:=decide_eq_false (by omega)
  refine (brF hd).trans ?_
  have hw:=qeG x
  refine (biS (qaD [40] (by omega))).trans ?_
  refine (biS (hE _ (by simp only [List.length_append,List.length_cons,List.length_nil]; omega))).trans ?_
  refine (biS (qaD [41] (by simp only [List.length_append,List.length_cons,List.length_nil]; omega))).trans ?_
  rw [qnS (by omega)]
  simp
theorem qAE {x:Ex} (hf:x.allX qaK = true) (r:Nat) {acc:List Tok} (hb:acc.length + 7 * x.nodes + 4 <= 1000000):qbT x.op x.num x.txt (EX x.args) (r:Int) (ET acc) = some (ET (acc ++ par r x)):=by
 refine qb3 (n:=3 * x.dep + 1) fun m hm=>?_
 obtain ⟨j,rfl⟩:∃ j,m = j + 1:=⟨m - 1,by omega⟩
 exact qSq hf (by omega) hb
theorem qAF {x:Ex} (hf:x.allX qaK = true) {acc:List Tok} (hb:acc.length + 7 * x.nodes <= 1000000):qx8 x.op x.num x.txt (EX x.args) (ET acc) = some (ET (acc ++ wrB x)):=
 qb3 (n:=3 * x.dep) fun m hm=>qHE x hf m hm acc hb
theorem qK2:∀ e:Ex,e.allX qaK = true -> ∀ n,2 * e.dep <= n -> 7 * e.nodes <= 1000000 -> (qbS n).1 e.op e.num e.txt (EX e.args) = some (ET (wrB e)):=by
 intro e
 induction e using Ex.ind with
 | h o n s l ih=>
  intro hf m hm hacc
  have hdep:(Ex.mk o n s l).dep = Ex.depL l + 1:=by simp [Ex.dep]
  have hnod:(Ex.mk o n s l).nodes = 1 + Ex.nodesL l:=by simp only [Ex.nodes]; try omega
  rw [hnod] at hacc
  obtain ⟨k,rfl⟩:∃ k,m = k + 2:=⟨m - 2,by omega⟩
  rw [Ex.allX_eq,Bool.and_eq_true,List.all_eq_true] at hf
  obtain ⟨hop,hn0,hn1,htx⟩:=qdp hf.1
  simp only [Ex.op,Ex.args,Ex.num,Ex.txt] at hop hn0 hn1 htx
  have hO:∀ x ∈ l,∀ (r:Nat),7 * x.nodes + 4 <= 1000000 -> (qbS (k + 1)).2 x.op x.num x.txt (EX x.args) (r:Int) = some (ET (par r x)):=by
   intro x hx r hb
   have h2:=Ex.depL_mem hx
   have hE:(qbS k).1 x.op x.num x.txt (EX x.args) = some (ET (wrB x)):=ih x hx (hf.2 x hx) k (by omega) (by omega)
   show (qsc (qbS k).1 (qbS k).2 x.op x.num x.txt (EX x.args) (r:Int)).ev = _
   unfold qsc
   refine (biS (qbh x.op)).trans ?_
   by_cases hr:r <= qaL x.op
   ·have hd:decide (((qaL x.op:Nat):Int) >= (r:Int)) = true:=decide_eq_true (by omega)
    refine (brT hd).trans ?_
    refine (biS hE).trans ?_
    rw [qdR hr]; rfl
   ·have hd:decide (((qaL x.op:Nat):Int) >= (r:Int)) = false:=decide_eq_false (by omega)
    refine (brF hd).trans ?_
    have hw:=qeG x
    refine (biS (qdo [40])).trans ?_
    refine (biS (qAF (hf.2 x hx) (by simp only [List.length_append,List.length_cons,List.length_nil]; omega))).trans ?_
    refine (biS (qaD [41] (by simp only [List.length_append,List.length_cons,List.length_nil]; omega))).trans ?_
    rw [qnS (by omega)]
    simp
  have hP:∀ (i:Nat) (hi:i < l.length) (r:Nat) (acc:List Tok),acc.length + 7 * l[i].nodes + 4 <= 1000000 ->
    qbT (intOf (cellAt (EX l) (i:Int) 0)) (intOf (cellAt (EX l) (i:Int) 1)) (strOf (cellAt (EX l) (i:Int) 2)) (qai (cellAt (EX l) (i:Int) 3)) (r:Int) (ET acc) = some (ET (acc ++ par r l[i])):=by
   intro i hi r acc hb
   rw [qx0 hi,qx1 hi,qx2 hi,qx3 hi]
   exact qAE (hf.2 _ (List.getElem_mem hi)) r hb
  have hQ:∀ (i:Nat) (hi:i < l.length) (r:Nat),7 * l[i].nodes + 4 <= 1000000 ->
    (qbS (k + 1)).2 (intOf (cellAt (EX l) (i:Int) 0)) (intOf (cellAt (EX l) (i:Int) 1)) (strOf (cellAt (EX l) (i:Int) 2)) (qai (cellAt (EX l) (i:Int) 3)) (r:Int) = some (ET (par r l[i])):=by
   intro i hi r hb
   rw [qx0 hi,qx1 hi,qx2 hi,qx3 hi]
   exact hO l[i] (List.getElem_mem hi) r hb
  show (qsk (qbS (k + 1)).1 (qbS (k + 1)).2 o n s (EX l)).ev = _
  unfold qsk
  have h64:(decide (-9223372036854775808 <= n) && decide (n <= 9223372036854775807)) = true:=by
   have:n <= 9223372036854775807:=by
    unfold qdO at hn1
    (repeat' split at hn1) <;> omega
   rw [decide_eq_true (by omega),decide_eq_true this]; rfl
  match l,hop,hP,hQ,hacc with
  | [],hop,hP,hQ,hacc=>
   have h4:o = 1 \/ o = 2 \/ o = 3 \/ o = 4:=by
    simp only [List.length_nil,qaE] at hop
    (repeat' split at hop) <;> omega
   have hn3:o = 3 -> n <= 1000000:=by
    rintro rfl
    simpa [qdO] using hn1
   rcases h4 with rfl | rfl | rfl | rfl
   ·refine (brT rfl).trans ((brT h64).trans ((biS (qfp 2 _)).trans ?_))
    rw [qcr rfl]; rfl
   ·refine (brF rfl).trans ((brT rfl).trans ((biS (qdo _)).trans ((brT h64).trans ((biS (qdn 2 _ (by simp))).trans ?_))))
    rw [qcr rfl]
    simp [qnk,Ex.op,Ex.num]
   ·refine (brF rfl).trans ((brF rfl).trans ((brT rfl).trans ((biS (qpz n)).trans ((biS (qfp 3 _)).trans ?_))))
    have hp:(qHA n).1 = qrw n.toNat:=by
     have h3:=hn3 rfl
     have e:(decide (n < 0) || decide (n > 1000000)) = false:=by rw [decide_eq_false (by omega),decide_eq_false (by omega)]; rfl
     unfold qHA
     rw [e]; rfl
    rw [qcr rfl,hp]; rfl
   ·refine (brF rfl).trans ((brF rfl).trans ((brF rfl).trans ((brT rfl).trans ((biS (qfp 1 _)).trans ?_))))
    rw [qcr rfl]; rfl
  | [a],hop,hP,hQ,hacc=>
   have h4:o = 9 \/ o = 16:=by
    simp only [List.length_cons,List.length_nil,qaE] at hop
    (repeat' split at hop) <;> omega
   simp only [Ex.nodesL] at hacc
   have ok0:qaQ ksX (EX [a]) 0 = true:=okX (l:=[a]) (n:=0) (by simp)
   rcases h4 with rfl | rfl
   ·refine (brF rfl).trans ((brF rfl).trans ((brF rfl).trans ((brF rfl).trans ((brT rfl).trans ((biS (qdo _)).trans ((brT ok0).trans ((biS (qbh 9)).trans ((biS (hP 0 (by simp) 7 _ ?_)).trans ?_))))))))
    ·simp; omega
    ·rw [qhu rfl]; simp [Ex.op]; rfl
   ·refine (brF rfl).trans ((brF rfl).trans ((brF rfl).trans ((brF rfl).trans ((brF rfl).trans ((brT rfl).trans ((biS (qdo _)).trans ((brT ok0).trans ((biS (qbh 16)).trans ((biS (hP 0 (by simp) 3 _ ?_)).trans ?_)))))))))
    ·simp; omega
    ·rw [qhu rfl]; simp [Ex.op]; rfl
  | [a,b],hop,hP,hQ,hacc=>
   obtain ⟨g1,g2,g3,g4⟩:=qk7 (e:=.mk o n s [a,b]) hop rfl
   simp only [Ex.op] at g1 g2 g3 g4
   simp only [Ex.nodesL] at hacc
   have pa:=qbo 0 a
   have na:=qh5 a
   have nb:=qh5 b
   have pl:=qbo (qcQ o) a
   have pb:=qbo 0 b
   have ok0:qaQ ksX (EX [a,b]) 0 = true:=okX (l:=[a,b]) (n:=0) (by simp)
   have ok1:qaQ ksX (EX [a,b]) 1 = true:=okX (l:=[a,b]) (n:=1) (by simp)
   have hA0:∀ (r:Nat) (acc:List Tok),acc.length + 7 * a.nodes + 4 <= 1000000 -> qbT (intOf (cellAt (EX [a,b]) 0 0)) (intOf (cellAt (EX [a,b]) 0 1)) (strOf (cellAt (EX [a,b]) 0 2)) (qai (cellAt (EX [a,b]) 0 3)) (r:Int) (ET acc) = some (ET (acc ++ par r a)):=
    fun r acc h2=>hP 0 (by simp) r acc h2
   have hA1:∀ (r:Nat) (acc:List Tok),acc.length + 7 * b.nodes + 4 <= 1000000 -> qbT (intOf (cellAt (EX [a,b]) 1 0)) (intOf (cellAt (EX [a,b]) 1 1)) (strOf (cellAt (EX [a,b]) 1 2)) (qai (cellAt (EX [a,b]) 1 3)) (r:Int) (ET acc) = some (ET (acc ++ par r b)):=
    fun r acc h2=>hP 1 (by simp) r acc h2
   have hQ0:∀ (r:Nat),7 * a.nodes + 4 <= 1000000 -> (qbS (k + 1)).2 (intOf (cellAt (EX [a,b]) 0 0)) (intOf (cellAt (EX [a,b]) 0 1)) (strOf (cellAt (EX [a,b]) 0 2)) (qai (cellAt (EX [a,b]) 0 3)) (r:Int) = some (ET (par r a)):=
    fun r h2=>hQ 0 (by simp) r h2
   have ne:∀ k:Int,o ≠ k -> (o == k) = false:=fun k h=>by simpa using h
   by_cases h7:o = 17
   ·subst h7
    refine (brF rfl).trans ((brF rfl).trans ((brF rfl).trans ((brF rfl).trans ((brF rfl).trans ((brF rfl).trans ((brT rfl).trans ((brT rfl).trans ?_)))))))
    refine (biS (v:=ET (wrB (.mk 17 n s [a,b]))) ?_).trans rfl
    rw [qmQ]
    unfold qkH
    refine (brF rfl).trans ((brF rfl).trans ((biS (qdo _)).trans ((biS (qaD _ (by simp))).trans ((brT ok0).trans ((biS (hA0 0 _ (by simp only [List.length_append,List.length_cons,List.length_nil]; omega))).trans ((biS (qaD _ (by simp only [List.length_append,List.length_cons,List.length_nil]; omega))).trans ((brT ok1).trans ((biS (hA1 0 _ (by simp only [List.length_append,List.length_cons,List.length_nil]; omega))).trans ((biS (qaD _ (by simp only [List.length_append,List.length_cons,List.length_nil]; omega))).trans ((brF rfl).trans ?_))))))))))
    rw [qff (e:=.mk 17 n s [a,b]) rfl (.inl rfl)]
    simp [qcz,Ex.op]
   by_cases h8:o = 18
   ·subst h8
    refine (brF rfl).trans ((brF rfl).trans ((brF rfl).trans ((brF rfl).trans ((brF rfl).trans ((brF rfl).trans ((brF rfl).trans ((brT rfl).trans ((brT rfl).trans ?_))))))))
    refine (biS (v:=ET (wrB (.mk 18 n s [a,b]))) ?_).trans rfl
    rw [qmQ]
    unfold qkH
    refine (brT rfl).trans ((biS (qdo _)).trans ((biS (qaD _ (by simp))).trans ((brT ok0).trans ((biS (hA0 0 _ (by simp only [List.length_append,List.length_cons,List.length_nil]; omega))).trans ((biS (qaD _ (by simp only [List.length_append,List.length_cons,List.length_nil]; omega))).trans ((brT ok1).trans ((biS (hA1 0 _ (by simp only [List.length_append,List.length_cons,List.length_nil]; omega))).trans ((biS (qaD _ (by simp only [List.length_append,List.length_cons,List.length_nil]; omega))).trans ((brF rfl).trans ?_)))))))))
    rw [qff (e:=.mk 18 n s [a,b]) rfl (.inr rfl)]
    simp [qcz,Ex.op]
   have hr8:=qrE o
   refine (brF (ne 1 (by omega))).trans ((brF (ne 2 (by omega))).trans ((brF (ne 3 (by omega))).trans ((brF (ne 4 (by omega))).trans ((brF (ne 9 g3)).trans ((brF (ne 16 g4)).trans ((brF (ne 17 h7)).trans ((brF (ne 18 h8)).trans ((brF (ne 19 (by omega))).trans ?_))))))))
   refine (biS (qbh o)).trans ((biS (qbh 10)).trans ?_)
   have hw:∀ m:Nat,m <= 8 -> IntKind.i64.wrap ((m:Int) + 1) = ((m + 1:Nat):Int):=fun m hm=>by rw [wrap64 (by omega) (by omega)]; omega
   have tl:∀ acc':List Tok,acc'.length <= 5 * a.nodes + 2 -> acc' = par (qcQ o) a -> (DT.bi (qbZ o) (fun y3=>DT.bi (qa5 y3 (ET acc')) (fun y4=>DT.br (qaQ [CS.int IntKind.i64,CS.int IntKind.i64,CS.str,CS.slice 4] (EX [a,b]) 1)
     (.bi (qaW o) (fun y5=>.bi (qbT (intOf (cellAt (EX [a,b]) 1 0)) (intOf (cellAt (EX [a,b]) 1 1)) (strOf (cellAt (EX [a,b]) 1 2)) (qai (cellAt (EX [a,b]) 1 3)) (IntKind.i64.wrap (y5 + 1)) y4) (fun y6=>.at (y6)) (.no)) (.no)) (.no)) .no) .no:DT qxM).ev = some (ET (wrB (.mk o n s [a,b]))):=by
    intro acc' hl he
    refine (biS (qmH g1 (by omega) g3)).trans ((biS (qaD _ (by omega))).trans ((brT ok1).trans ((biS (qbh o)).trans ?_)))
    rw [hw _ hr8]
    refine (biS (hA1 (qaL o + 1) _ (by simp only [List.length_append,List.length_cons,List.length_nil]; omega))).trans ?_
    rw [qkZ (e:=.mk o n s [a,b]) rfl h7 h8,he]
    simp [Ex.op]
   by_cases h4:qaL o = 4
   ·have hc:(((qaL o:Nat):Int) == ((qaL 10:Nat):Int)) = true:=by rw [h4]; rfl
    refine (brT hc).trans ((brT ok0).trans ?_)
    rw [hw _ hr8]
    have hl:qcQ o = qaL o + 1:=by unfold qcQ; rw [if_pos h4,h4]
    refine (biS (hQ0 (qaL o + 1) (by omega))).trans ?_
    rw [<- hl]
    exact tl _ pl rfl
   ·have hc:(((qaL o:Nat):Int) == ((qaL 10:Nat):Int)) = false:=by
     have:qaL 10 = 4:=rfl
     rw [this]; simp; omega
    refine (brF hc).trans ((brT ok0).trans ?_)
    have hl:qcQ o = qaL o:=by unfold qcQ; rw [if_neg h4]
    refine (biS (hQ0 (qaL o) (by omega))).trans ?_
    rw [<- hl]
    exact tl _ pl rfl
  | a :: b :: c :: d,hop,hP,hQ,hacc=>
   have h19:o = 19 /\ d = []:=by
    simp only [List.length_cons,qaE] at hop
    (repeat' split at hop) <;> first | omega | (refine ⟨by assumption,List.length_eq_zero_iff.1 (by omega)⟩)
   obtain ⟨rfl,rfl⟩:=h19
   simp only [Ex.nodesL] at hacc
   have pa:=qbo 0 a
   have na:=qh5 a
   have nb:=qh5 b
   have pb:=qbo 0 b
   have ok0:qaQ ksX (EX [a,b,c]) 0 = true:=okX (l:=[a,b,c]) (n:=0) (by simp)
   have ok1:qaQ ksX (EX [a,b,c]) 1 = true:=okX (l:=[a,b,c]) (n:=1) (by simp)
   have ok2:qaQ ksX (EX [a,b,c]) 2 = true:=okX (l:=[a,b,c]) (n:=2) (by simp)
   have hA0:∀ (r:Nat) (acc:List Tok),acc.length + 7 * a.nodes + 4 <= 1000000 -> qbT (intOf (cellAt (EX [a,b,c]) 0 0)) (intOf (cellAt (EX [a,b,c]) 0 1)) (strOf (cellAt (EX [a,b,c]) 0 2)) (qai (cellAt (EX [a,b,c]) 0 3)) (r:Int) (ET acc) = some (ET (acc ++ par r a)):=
    fun r acc h2=>hP 0 (by simp) r acc h2
   have hA1:∀ (r:Nat) (acc:List Tok),acc.length + 7 * b.nodes + 4 <= 1000000 -> qbT (intOf (cellAt (EX [a,b,c]) 1 0)) (intOf (cellAt (EX [a,b,c]) 1 1)) (strOf (cellAt (EX [a,b,c]) 1 2)) (qai (cellAt (EX [a,b,c]) 1 3)) (r:Int) (ET acc) = some (ET (acc ++ par r b)):=
    fun r acc h2=>hP 1 (by simp) r acc h2
   have hA2:∀ (r:Nat) (acc:List Tok),acc.length + 7 * c.nodes + 4 <= 1000000 -> qbT (intOf (cellAt (EX [a,b,c]) 2 0)) (intOf (cellAt (EX [a,b,c]) 2 1)) (strOf (cellAt (EX [a,b,c]) 2 2)) (qai (cellAt (EX [a,b,c]) 2 3)) (r:Int) (ET acc) = some (ET (acc ++ par r c)):=
    fun r acc h2=>hP 2 (by simp) r acc h2
   refine (brF rfl).trans ((brF rfl).trans ((brF rfl).trans ((brF rfl).trans ((brF rfl).trans ((brF rfl).trans ((brF rfl).trans ((brF rfl).trans ((brT rfl).trans ?_))))))))
   refine (biS (v:=ET (wrB (.mk 19 n s [a,b,c]))) ?_).trans rfl
   rw [qmQ]
   unfold qkH
   refine (brF rfl).trans ((brT rfl).trans ((biS (qdo _)).trans ((brT ok0).trans ((biS (hA0 0 _ (by simp only [List.length_append,List.length_cons,List.length_nil]; omega))).trans ((biS (qaD _ (by simp only [List.length_append,List.length_cons,List.length_nil]; omega))).trans ((brT ok1).trans ((biS (hA1 0 _ (by simp only [List.length_append,List.length_cons,List.length_nil]; omega))).trans ((biS (qaD _ (by simp only [List.length_append,List.length_cons,List.length_nil]; omega))).trans ((brT rfl).trans ((brT ok2).trans ((biS (hA2 0 _ (by simp only [List.length_append,List.length_cons,List.length_nil]; omega))).trans ?_)))))))))))
   rw [qxI (e:=.mk 19 n s [a,b,c]) rfl]
   simp [qcz]
theorem qgz {e:Ex} (h:qaX e = 0):e.nodes <= 64 /\ e.allX qaK = true /\ e.allX qbl = true:=by
 unfold qaX at h
 cases h1:(decide (e.nodes > 64) || decide (e.dep > 8))
 ·rw [h1] at h
  rw [Bool.or_eq_false_iff] at h1
  cases h2:e.allX qaK
  ·rw [h2] at h; cases h
  ·cases h3:e.allX qbl
   ·rw [h2,h3] at h; cases h
   ·exact ⟨by have:=of_decide_eq_false h1.1; omega,rfl,rfl⟩
 ·rw [h1] at h; cases h
theorem qf9 {e:Ex} (h:e.nodes <= big):qf8 e.op e.num e.txt (EX e.args) = some (bif qaX e != 0 then ([],qaX e) else (ET (wrB e),0)):=by
 rw [qz4,qlj]
 refine (biS (qec h)).trans ?_
 cases hv:(qaX e != 0)
 ·have hv':qaX e = 0:=by simpa using hv
  obtain ⟨h1,h2,_⟩:=qgz hv'
  refine (brF rfl).trans ((biS (v:=ET (wrB e)) (qb3 (n:=2 * e.dep) fun m hm=>qK2 e h2 m hm (by omega))).trans rfl)
 ·exact (brT rfl).trans rfl
end Go.Proofs.H10

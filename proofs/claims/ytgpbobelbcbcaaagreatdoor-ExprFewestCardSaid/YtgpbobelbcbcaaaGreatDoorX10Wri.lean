/- Expressions as tokens: what the document prints. -/
import Derived.Test.YtgpbobelbcbcaaaGreatDoorX10Rpa
set_option linter.unusedVariables false
set_option linter.unusedSimpArgs false
set_option linter.unnecessarySimpa false
namespace Go.Proofs.H10
open Go Go.Eng Go.Tk
set_option maxRecDepth 20000
theorem qaY (k:Int) (s:Bs):qaO k s = some (k,1,s):=by rw [qAq,qlF]; rfl
theorem qwL {o:Int} (h1:1 <= o) (h2:o <= 19):qeo o = some (qaL o:Int):=by
 have:o = 1 \/ o = 2 \/ o = 3 \/ o = 4 \/ o = 5 \/ o = 6 \/ o = 7 \/ o = 8 \/ o = 9 \/ o = 10 \/ o = 11 \/ o = 12 \/ o = 13 \/ o = 14 \/ o = 15 \/ o = 16 \/ o = 17 \/ o = 18 \/ o = 19:=by omega
 rcases this with rfl | rfl | rfl | rfl | rfl | rfl | rfl | rfl | rfl | rfl | rfl | rfl | rfl | rfl | rfl | rfl | rfl | rfl | rfl <;> (rw [qhA,qgy]; rfl)
theorem qwO {o:Int} (h1:5 <= o) (h2:o <= 15) (h9:o ≠ 9):qgX o = some (qgB (qc9 o),1,qc9 o):=by
 rw [qAA,qlR]
 simp only [qaY]
 rcases qjd h1 h2 h9 with rfl | rfl | rfl | rfl | rfl | rfl | rfl | rfl | rfl | rfl <;> rfl
theorem qwM {o n:Int} {s:Bs} {A:List AV} (h4:o = 1 \/ o = 2 \/ o = 3 \/ o = 4) (h0:0 <= n) (h1:n <= qdO o):qmM o n s A = some (ET (qnk o n s)):=by
 rw [qAy,qlP]
 simp only [qaY]
 rcases h4 with rfl | rfl | rfl | rfl
 ·exact (brT rfl).trans ((biS (qmO h0 (by simpa [qdO] using h1))).trans ((biS rfl).trans rfl))
 ·have h2:n <= 1000000000000:=by simpa [qdO] using h1
  exact (brF rfl).trans ((brT rfl).trans ((biS rfl).trans ((biS (qmO h0 (by omega))).trans ((biS rfl).trans rfl))))
 ·refine (brF rfl).trans ((brF rfl).trans ((brT rfl).trans ((biS (qwp n)).trans ((biS rfl).trans ?_))))
  have hp:(qHA n).1 = qrw n.toNat:=by
   have h3:n <= 1000000:=by simpa [qdO] using h1
   have e:(decide (n < 0) || decide (n > 1000000)) = false:=by rw [decide_eq_false (by omega),decide_eq_false (by omega)]; rfl
   unfold qHA
   rw [e]; rfl
  show some [AV.agg [AV.int .i64 3,AV.int .i64 1,AV.str (qHA n).1]] = _
  rw [hp]; rfl
 ·exact (brF rfl).trans ((brF rfl).trans ((brF rfl).trans ((biS rfl).trans rfl)))
theorem qLr:∀ e:Ex,wrB e ≠ []
 | .mk o n s []=>by
  simp only [wrB,qnk]
  (repeat' split) <;> simp
 | .mk o n s [a]=>by simp [wrB]
 | .mk o n s [a,b]=>by
  simp only [wrB]
  split <;> simp
 | .mk o n s (a :: b :: c :: m)=>by simp [wrB]
theorem qbW (r:Nat) (e:Ex):par r e ≠ []:=by
 unfold par qBz
 split
 ·simp
 ·exact qLr e
theorem qjF {l:List Tok} (h:l ≠ []):(decide ((ET l).length = 0) && decide (3 = 3)) = false:=by
 have:(ET l).length ≠ 0:=by rw [List.length_map]; exact fun h'=>h (List.length_eq_zero_iff.1 h')
 rw [decide_eq_false this]; rfl
theorem qiI {l:List Tok} (h:l ≠ []) {n:Nat} (hn:n <= 10000000):(decide ((ET l).length ≠ 0) && room n 32) = true:=by
 have h0:(ET l).length ≠ 0:=by rw [List.length_map]; exact fun h'=>h (List.length_eq_zero_iff.1 h')
 have h1:room n 32 = true:=qiy (by simp only [lim]; omega)
 rw [decide_eq_true h0,h1]; rfl
theorem qo6 {n:Nat} (hn:n <= 10000000):room n 32 = true:=qiy (by simp only [lim]; omega)
theorem qxJ:∀ e:Ex,e.allX qaK = true -> ∀ K,2 * e.dep <= K -> 7 * e.nodes <= 1000000 -> ∀ r:Nat,qbj K e.op e.num e.txt (EX e.args) (r:Int) = some (ET (par r e)):=by
 intro e
 induction e using Ex.ind with
 | h o n s l ih=>
  intro hf K hK hbig r
  have hdep:(Ex.mk o n s l).dep = Ex.depL l + 1:=by simp [Ex.dep]
  have hnod:(Ex.mk o n s l).nodes = 1 + Ex.nodesL l:=by simp only [Ex.nodes]; try omega
  rw [hnod] at hbig
  obtain ⟨J,rfl⟩:∃ J,K = J + 2:=⟨K - 2,by omega⟩
  rw [Ex.allX_eq,Bool.and_eq_true,List.all_eq_true] at hf
  obtain ⟨hop,hn0,hn1,htx⟩:=qdp hf.1
  simp only [Ex.op,Ex.args,Ex.num,Ex.txt] at hop hn0 hn1 htx ⊢
  have ho:1 <= o /\ o <= 19:=by
   unfold qaE at hop
   (repeat' split at hop) <;> omega
  have hrk:=qwL ho.1 ho.2
  have hr8:=qrE o
  have base:∀ J,Ex.depL l * 2 <= J -> ∀ r:Nat,r <= qaL o -> qbj (J + 1) o n s (EX l) (r:Int) = some (ET (wrB (.mk o n s l))):=by
   intro J hJ r hr
   have hA:∀ (i:Nat) (hi:i < l.length) (r:Nat),qbj J (intOf (cellAt (EX l) (i:Int) 0)) (intOf (cellAt (EX l) (i:Int) 1)) (strOf (cellAt (EX l) (i:Int) 2)) (qai (cellAt (EX l) (i:Int) 3)) (r:Int) = some (ET (par r l[i])):=by
    intro i hi r
    rw [qx0 hi,qx1 hi,qx2 hi,qx3 hi]
    have hx:=List.getElem_mem hi
    have h2:=Ex.depL_mem hx
    have h3:=Ex.nodesL_mem hx
    exact ih l[i] hx (hf.2 _ hx) J (by omega) (by omega) r
   show (qhS (qbj J) o n s (EX l) (r:Int)).ev = _
   unfold qhS
   have hlt:decide (((qaL o:Nat):Int) < (r:Int)) = false:=decide_eq_false (by omega)
   refine (biS hrk).trans ((brF hlt).trans ?_)
   match l,hop,hA,hbig with
   | [],hop,hA,hbig=>
    have h4:o = 1 \/ o = 2 \/ o = 3 \/ o = 4:=by
     simp only [List.length_nil,qaE] at hop
     (repeat' split at hop) <;> omega
    refine (brT rfl).trans ((biS (qwM h4 hn0 hn1)).trans ?_)
    rw [qcr rfl]; rfl
   | [a],hop,hA,hbig=>
    have h4:o = 9 \/ o = 16:=by
     simp only [List.length_cons,List.length_nil,qaE] at hop
     (repeat' split at hop) <;> omega
    simp only [Ex.nodesL] at hbig
    have ok0:qaQ ksX (EX [a]) 0 = true:=okX (l:=[a]) (n:=0) (by simp)
    have hA0:∀ r:Nat,qbj J (intOf (cellAt (EX [a]) 0 0)) (intOf (cellAt (EX [a]) 0 1)) (strOf (cellAt (EX [a]) 0 2)) (qai (cellAt (EX [a]) 0 3)) (r:Int) = some (ET (par r a)):=fun r=>hA 0 (by simp) r
    rcases h4 with rfl | rfl
    ·have w:=qbo 7 a
     refine (brF rfl).trans ((brF rfl).trans ((biS (v:=false) rfl).trans ((brF rfl).trans ((brF rfl).trans ((brT rfl).trans ((biS (qaY _ _)).trans ((brT ok0).trans ((biS (hA0 7)).trans ((brF (qjF (qbW _ _))).trans ((brT (qiI (qbW _ _) ?_)).trans ?_))))))))))
     ·simp only [List.length_cons,List.length_append,List.length_nil,List.length_map]; omega
     ·rw [qhu rfl]; rfl
    ·have w:=qbo 3 a
     refine (brF rfl).trans ((brF rfl).trans ((biS (v:=false) rfl).trans ((brF rfl).trans ((brT rfl).trans ((biS (qaY _ _)).trans ((brT ok0).trans ((biS (hA0 3)).trans ((brF (qjF (qbW _ _))).trans ((brT (qiI (qbW _ _) ?_)).trans ?_)))))))))
     ·simp only [List.length_cons,List.length_append,List.length_nil,List.length_map]; omega
     ·rw [qhu rfl]; rfl
   | [a,b],hop,hA,hbig=>
    obtain ⟨g1,g2,g3,g4⟩:=qk7 (e:=.mk o n s [a,b]) hop rfl
    simp only [Ex.op] at g1 g2 g3 g4
    simp only [Ex.nodesL] at hbig
    have na:=qh5 a
    have nb:=qh5 b
    have ok0:qaQ ksX (EX [a,b]) 0 = true:=okX (l:=[a,b]) (n:=0) (by simp)
    have ok1:qaQ ksX (EX [a,b]) 1 = true:=okX (l:=[a,b]) (n:=1) (by simp)
    have hA0:∀ r:Nat,qbj J (intOf (cellAt (EX [a,b]) 0 0)) (intOf (cellAt (EX [a,b]) 0 1)) (strOf (cellAt (EX [a,b]) 0 2)) (qai (cellAt (EX [a,b]) 0 3)) (r:Int) = some (ET (par r a)):=fun r=>hA 0 (by simp) r
    have hA1:∀ r:Nat,qbj J (intOf (cellAt (EX [a,b]) 1 0)) (intOf (cellAt (EX [a,b]) 1 1)) (strOf (cellAt (EX [a,b]) 1 2)) (qai (cellAt (EX [a,b]) 1 3)) (r:Int) = some (ET (par r b)):=fun r=>hA 1 (by simp) r
    have ne:∀ k:Int,o ≠ k -> (o == k) = false:=fun k h=>by simpa using h
    have pa:=qbo 0 a
    have pb:=qbo 0 b
    by_cases h17:o = 17
    ·subst h17
     refine (brF rfl).trans ((brF rfl).trans ((biS (v:=true) rfl).trans ((brT rfl).trans ((brF rfl).trans ((biS (qaY _ _)).trans ((biS (qaY _ _)).trans ((brT ok0).trans ((biS (hA0 0)).trans ((brF (qjF (qbW _ _))).trans ((brT (qiI (qbW _ _) ?_)).trans ((biS (qaY _ _)).trans ((brT (qo6 ?_)).trans ((brT ok1).trans ((biS (hA1 0)).trans ((brF (qjF (qbW _ _))).trans ((brT (qiI (qbW _ _) ?_)).trans ((biS (qaY _ _)).trans ((brT (qo6 ?_)).trans ?_))))))))))))))))))
     ·simp only [List.length_cons,List.length_append,List.length_nil,List.length_map]; omega
     ·simp only [List.length_cons,List.length_append,List.length_nil,List.length_map]; omega
     ·simp only [List.length_cons,List.length_append,List.length_nil,List.length_map]; omega
     ·simp only [List.length_cons,List.length_append,List.length_nil,List.length_map]; omega
     ·rw [qff (e:=.mk 17 n s [a,b]) rfl (.inl rfl)]
      simp only [ev_at,qcz,List.map_cons,List.map_append,List.map_nil,List.append_assoc,List.cons_append,List.nil_append]
      rfl
    by_cases h18:o = 18
    ·subst h18
     refine (brF rfl).trans ((brF rfl).trans ((biS (v:=true) rfl).trans ((brT rfl).trans ((brT rfl).trans ((biS (qaY _ _)).trans ((biS (qaY _ _)).trans ((brT ok0).trans ((biS (hA0 0)).trans ((brF (qjF (qbW _ _))).trans ((brT (qiI (qbW _ _) ?_)).trans ((biS (qaY _ _)).trans ((brT (qo6 ?_)).trans ((brT ok1).trans ((biS (hA1 0)).trans ((brF (qjF (qbW _ _))).trans ((brT (qiI (qbW _ _) ?_)).trans ((biS (qaY _ _)).trans ((brT (qo6 ?_)).trans ?_))))))))))))))))))
     ·simp only [List.length_cons,List.length_append,List.length_nil,List.length_map]; omega
     ·simp only [List.length_cons,List.length_append,List.length_nil,List.length_map]; omega
     ·simp only [List.length_cons,List.length_append,List.length_nil,List.length_map]; omega
     ·simp only [List.length_cons,List.length_append,List.length_nil,List.length_map]; omega
     ·rw [qff (e:=.mk 18 n s [a,b]) rfl (.inr rfl)]
      simp only [ev_at,qcz,List.map_cons,List.map_append,List.map_nil,List.append_assoc,List.cons_append,List.nil_append]
      rfl
    have hw:IntKind.i64.wrap (((qaL o:Nat):Int) + 1) = ((qaL o + 1:Nat):Int):=by rw [wrap64 (by omega) (by omega)]; omega
    have p2:=qbo (qaL o + 1) b
    have sg:=qwO g1 (by omega) g3
    have e19:o ≠ 19:=by omega
    refine (brF rfl).trans ((brF (ne 19 e19)).trans ((biS (v:=false) (by rw [ne 17 h17,ne 18 h18]; rfl)).trans ((brF rfl).trans ((brF (ne 16 g4)).trans ((brF (ne 9 g3)).trans ?_)))))
    have fin:some (ET (par (qcQ o) a) ++ [AV.agg [AV.int .i64 (qgB (qc9 o)),AV.int .i64 1,AV.str (qc9 o)]] ++ ET (par (qaL o + 1) b)) = some (ET (wrB (.mk o n s [a,b]))):=by
     rw [qkZ (e:=.mk o n s [a,b]) rfl h17 h18]
     simp only [Ex.op,List.map_append,List.map_cons,List.append_assoc,List.cons_append,List.nil_append]
     rfl
    by_cases h4:qaL o = 4
    ·have hc:(((qaL o:Nat):Int) == 4) = true:=by rw [h4]; rfl
     have hl:qcQ o = 5:=by unfold qcQ; rw [if_pos h4]
     have p1:=qbo 5 a
     rw [hl] at fin
     refine (brT hc).trans ((brT ok0).trans ((biS (hA0 5)).trans ((brF (qjF (qbW _ _))).trans ((brT (qiI (qbW _ _) ?_)).trans ((biS sg).trans ((brT (qo6 ?_)).trans ((brT ok1).trans ?_)))))))
     ·simp only [List.length_cons,List.length_append,List.length_nil,List.length_map]; omega
     ·simp only [List.length_cons,List.length_append,List.length_nil,List.length_map]; omega
     ·rw [hw]
      refine (biS (hA1 (qaL o + 1))).trans ((brF (qjF (qbW _ _))).trans ((brT (qiI (qbW _ _) ?_)).trans ?_))
      ·simp only [List.length_cons,List.length_append,List.length_nil,List.length_map]; omega
      ·exact fin
    ·have hc:(((qaL o:Nat):Int) == 4) = false:=by simp; omega
     have hl:qcQ o = qaL o:=by unfold qcQ; rw [if_neg h4]
     have p1:=qbo (qaL o) a
     rw [hl] at fin
     refine (brF hc).trans ((brT ok0).trans ((biS (hA0 (qaL o))).trans ((brF (qjF (qbW _ _))).trans ((brT (qiI (qbW _ _) ?_)).trans ((biS sg).trans ((brT (qo6 ?_)).trans ((brT ok1).trans ?_)))))))
     ·simp only [List.length_cons,List.length_append,List.length_nil,List.length_map]; omega
     ·simp only [List.length_cons,List.length_append,List.length_nil,List.length_map]; omega
     ·rw [hw]
      refine (biS (hA1 (qaL o + 1))).trans ((brF (qjF (qbW _ _))).trans ((brT (qiI (qbW _ _) ?_)).trans ?_))
      ·simp only [List.length_cons,List.length_append,List.length_nil,List.length_map]; omega
      ·exact fin
   | a :: b :: c :: d,hop,hA,hbig=>
    have h19:o = 19 /\ d = []:=by
     simp only [List.length_cons,qaE] at hop
     (repeat' split at hop) <;> first | omega | (refine ⟨by assumption,List.length_eq_zero_iff.1 (by omega)⟩)
    obtain ⟨rfl,rfl⟩:=h19
    simp only [Ex.nodesL] at hbig
    have pa:=qbo 0 a
    have pb:=qbo 0 b
    have pc:=qbo 0 c
    have ok0:qaQ ksX (EX [a,b,c]) 0 = true:=okX (l:=[a,b,c]) (n:=0) (by simp)
    have ok1:qaQ ksX (EX [a,b,c]) 1 = true:=okX (l:=[a,b,c]) (n:=1) (by simp)
    have ok2:qaQ ksX (EX [a,b,c]) 2 = true:=okX (l:=[a,b,c]) (n:=2) (by simp)
    have hA0:∀ r:Nat,qbj J (intOf (cellAt (EX [a,b,c]) 0 0)) (intOf (cellAt (EX [a,b,c]) 0 1)) (strOf (cellAt (EX [a,b,c]) 0 2)) (qai (cellAt (EX [a,b,c]) 0 3)) (r:Int) = some (ET (par r a)):=fun r=>hA 0 (by simp) r
    have hA1:∀ r:Nat,qbj J (intOf (cellAt (EX [a,b,c]) 1 0)) (intOf (cellAt (EX [a,b,c]) 1 1)) (strOf (cellAt (EX [a,b,c]) 1 2)) (qai (cellAt (EX [a,b,c]) 1 3)) (r:Int) = some (ET (par r b)):=fun r=>hA 1 (by simp) r
    have hA2:∀ r:Nat,qbj J (intOf (cellAt (EX [a,b,c]) 2 0)) (intOf (cellAt (EX [a,b,c]) 2 1)) (strOf (cellAt (EX [a,b,c]) 2 2)) (qai (cellAt (EX [a,b,c]) 2 3)) (r:Int) = some (ET (par r c)):=fun r=>hA 2 (by simp) r
    have L1:qg3 (qbj J) (Sum.inl (0,19,n,s,EX [a,b,c],[AV.str [105,102],AV.str [116,104,101,110],AV.str [101,108,115,101]])) = qg3 (qbj J) (Sum.inr (1,19,n,s,EX [a,b,c],(ET (wT [105,102] :: par 0 a)),[AV.str [105,102],AV.str [116,104,101,110],AV.str [101,108,115,101]])):=by
     rw [qdF,qdF]
     refine qau ((brT rfl).trans ((brT rfl).trans ((brT rfl).trans ((biS (qaY _ _)).trans ((brT ok0).trans ((biS (hA0 0)).trans ((brF (qjF (qbW _ _))).trans ((brT (qiI (qbW _ _) ?_)).trans rfl))))))))
     simp only [List.length_cons,List.length_append,List.length_nil,List.length_map]; omega
    have L2:qg3 (qbj J) (Sum.inr (1,19,n,s,EX [a,b,c],(ET (wT [105,102] :: par 0 a)),[AV.str [105,102],AV.str [116,104,101,110],AV.str [101,108,115,101]])) = qg3 (qbj J) (Sum.inr (2,19,n,s,EX [a,b,c],(ET (wT [105,102] :: par 0 a ++ wT [116,104,101,110] :: par 0 b)),[AV.str [105,102],AV.str [116,104,101,110],AV.str [101,108,115,101]])):=by
     rw [qdF,qdF]
     refine qau ((brT rfl).trans ((brT rfl).trans ((brT rfl).trans ((biS (qaY _ _)).trans ((brT (qo6 ?_)).trans ((brT ok1).trans ((biS (hA1 0)).trans ((brF (qjF (qbW _ _))).trans ((brT (qiI (qbW _ _) ?_)).trans ?_)))))))))
     ·simp only [List.length_cons,List.length_append,List.length_nil,List.length_map]; omega
     ·simp only [List.length_cons,List.length_append,List.length_nil,List.length_map]; omega
     ·simp only [ev_at,List.map_append,List.map_cons,List.append_assoc,List.cons_append,List.nil_append]
      rfl
    have L3:qg3 (qbj J) (Sum.inr (2,19,n,s,EX [a,b,c],(ET (wT [105,102] :: par 0 a ++ wT [116,104,101,110] :: par 0 b)),[AV.str [105,102],AV.str [116,104,101,110],AV.str [101,108,115,101]])) = qg3 (qbj J) (Sum.inr (3,19,n,s,EX [a,b,c],(ET (wT [105,102] :: par 0 a ++ wT [116,104,101,110] :: par 0 b ++ wT [101,108,115,101] :: par 0 c)),[AV.str [105,102],AV.str [116,104,101,110],AV.str [101,108,115,101]])):=by
     rw [qdF,qdF]
     refine qau ((brT rfl).trans ((brT rfl).trans ((brT rfl).trans ((biS (qaY _ _)).trans ((brT (qo6 ?_)).trans ((brT ok2).trans ((biS (hA2 0)).trans ((brF (qjF (qbW _ _))).trans ((brT (qiI (qbW _ _) ?_)).trans ?_)))))))))
     ·simp only [List.length_cons,List.length_append,List.length_nil,List.length_map]; omega
     ·simp only [List.length_cons,List.length_append,List.length_nil,List.length_map]; omega
     ·simp only [ev_at,List.map_append,List.map_cons,List.append_assoc,List.cons_append,List.nil_append]
      rfl
    have L4:qg3 (qbj J) (Sum.inl (0,19,n,s,EX [a,b,c],[AV.str [105,102],AV.str [116,104,101,110],AV.str [101,108,115,101]])) = some (1,(Sum.inr (3,19,n,s,EX [a,b,c],(ET (wT [105,102] :: par 0 a ++ wT [116,104,101,110] :: par 0 b ++ wT [101,108,115,101] :: par 0 c)),[AV.str [105,102],AV.str [116,104,101,110],AV.str [101,108,115,101]]))):=by
     rw [L1,L2,L3,qdF]
     exact qaj ((brF rfl).trans rfl)
    refine (brF rfl).trans ((brT rfl).trans ((biN (pj0 L4)).trans ((biS (pj1 L4)).trans ?_)))
    rw [qxI (e:=.mk 19 n s [a,b,c]) rfl]
    simp only [qcz]
    show some (ET (wT [105,102] :: wrB a ++ wT [116,104,101,110] :: wrB b ++ wT [101,108,115,101] :: wrB c)) = _
    simp
  by_cases hr:r <= qaL o
  ·rw [base (J + 1) (by omega) r hr,qdR hr]
  ·have hb:=base J (by omega) 0 (Nat.zero_le _)
   show (qhS (qbj (J + 1)) o n s (EX l) (r:Int)).ev = _
   unfold qhS
   have hwl:=qeG (.mk o n s l)
   rw [hnod] at hwl
   have hlt:decide (((qaL o:Nat):Int) < (r:Int)) = true:=decide_eq_true (by omega)
   refine (biS hrk).trans ((brT hlt).trans ((biS (qaY _ _)).trans ((biS hb).trans ((brF (qjF (qLr _))).trans ((brT (qiI (qLr _) ?_)).trans ((biS (qaY _ _)).trans ((brT (qo6 ?_)).trans ?_)))))))
   ·simp only [List.length_cons,List.length_append,List.length_nil,List.length_map]; omega
   ·simp only [List.length_cons,List.length_append,List.length_nil,List.length_map]; omega
   ·rw [qnS (by simp only [Ex.op]; omega)]
    simp only [List.map_cons,List.map_append,List.map_nil]
    rfl
theorem qwq {e:Ex} (hf:e.allX qaK = true) (hb:7 * e.nodes <= 1000000):qq0 e.op e.num e.txt (EX e.args) 0 = some (ET (wrB e)):=by
 rw [<- qcz e]
 exact qb3 (n:=2 * e.dep) fun m hm=>qxJ e hf m hm hb 0
end Go.Proofs.H10

/- Types of expressions: what the printed functions come to. -/
import Derived.Test.YthljpgljbpdmjaaGreatDoorX15pRef
import Derived.Test.YthljpgljbpdmjaaGreatDoorTyA
set_option linter.unusedVariables false
set_option linter.unusedSimpArgs false
set_option linter.unnecessarySimpa false
namespace Go.Proofs.H15p
open Go Go.Eng Go.Tk
set_option maxRecDepth 20000
theorem qhR (x:Int):qhQ x = some (qaM x):=by
 rw [qDe,qlP]; by_cases h:x >= 1 <;> simp [qaM,h]
theorem qh2 (x:Int):qh1 x = some (qaM x):=by
 rw [qD6,qmJ]; by_cases h:x >= 1 <;> simp [qaM,h]
theorem qzo (op a:Int):∃ p,qn3 op a = some p /\ nrm p = qLP op a:=by
 rw [qDH,qmk]
 unfold qLP
 by_cases h1:op = 16
 ·subst h1
  exact ⟨_,rfl,by cases h:(a == 5) <;> simp [nrm,h]⟩
 by_cases h2:op = 9
 ·subst h2
  refine ⟨(a,a == 1 || (a == 2 || a == 3)),?_,?_⟩
  ·cases h:(a == 1) <;> cases h':(a == 2) <;> simp [h,h']
  ·cases h:(a == 1 || (a == 2 || a == 3)) <;> simp [nrm,h]
 have e1:(op == 16) = false:=by simpa using h1
 have e2:(op == 9) = false:=by simpa using h2
 exact ⟨(0,false),by simp [e1,e2],by simp [nrm,h1,h2]⟩
theorem qEv:qb6 = some (ariL.map q1G):=by
 rw [qJm,qAz]; rfl
theorem qzp (op a b:Int):∃ p,qn4 op a b = some p /\ nrm p = qiv op a b:=by
 rw [qDI,qml]
 by_cases h1:op = 10
 ·subst h1; exact ⟨_,rfl,by cases h:(a == b) <;> simp [nrm,qiv,h]⟩
 by_cases h2:op = 11
 ·subst h2; exact ⟨_,rfl,by cases h:(a == b) <;> simp [nrm,qiv,h]⟩
 by_cases h3:op = 12
 ·subst h3; exact ⟨(5,a == b && a != 5),by cases h:(a == b) <;> simp [h],by cases h:(a == b && a != 5) <;> simp [nrm,qiv,h]⟩
 by_cases h4:op = 13
 ·subst h4; exact ⟨(5,a == b && a != 5),by cases h:(a == b) <;> simp [h],by cases h:(a == b && a != 5) <;> simp [nrm,qiv,h]⟩
 by_cases h5:op = 14
 ·subst h5; exact ⟨(5,a == b && a == 5),by cases h:(a == b) <;> simp [h],by cases h:(a == b && a == 5) <;> simp [nrm,qiv,h]⟩
 by_cases h6:op = 15
 ·subst h6; exact ⟨(5,a == b && a == 5),by cases h:(a == b) <;> simp [h],by cases h:(a == b && a == 5) <;> simp [nrm,qiv,h]⟩
 by_cases h7:op = 17
 ·subst h7; exact ⟨(a,a == b && a != 5),by cases h:(a == b) <;> simp [h],by cases h:(a == b && a != 5) <;> simp [nrm,qiv,h]⟩
 by_cases h8:op = 18
 ·subst h8; exact ⟨(a,a == b && a != 5),by cases h:(a == b) <;> simp [h],by cases h:(a == b && a != 5) <;> simp [nrm,qiv,h]⟩
 have e1:(op == 10) = false:=by simpa using h1
 have e2:(op == 11) = false:=by simpa using h2
 have e3:(op == 12) = false:=by simpa using h3
 have e4:(op == 13) = false:=by simpa using h4
 have e5:(op == 14) = false:=by simpa using h5
 have e6:(op == 15) = false:=by simpa using h6
 have e7:(op == 17) = false:=by simpa using h7
 have e8:(op == 18) = false:=by simpa using h8
 simp only [e1,e2,e3,e4,e5,e6,e7,e8,ev_br,cond_false,qEv,ev_bi_some,q7J,q7L,qiv,h1,h2,h3,h4,h5,h6,h7,h8,or_self,if_false]
 cases hq:qyf op a b with
 | none=>exact ⟨(0,false),by simp,rfl⟩
 | some t=>
  have ht:=(qyH hq).1
  rw [q7M hq]
  refine ⟨(t,t != 0),rfl,?_⟩
  have:(t != 0) = true:=by simpa using ht
  simp [nrm,this]
theorem qdL (x:Int):qcA x = some (x == 1 || (x == 2 || x == 3)):=by
 rw [qDv,ql8]
 cases h:(x == 1) <;> cases h':(x == 2) <;> simp [h,h']
theorem qzN {op a b:Int} (ha:qaM a = true) (hb:qaM b = true):∃ p,qov op a b = some p /\ nrm p = qiv op a b:=by
 rw [qEn,qm0]
 by_cases h1:op = 5
 ·subst h1
  simp only [qdL]
  rcases qaQ ha with rfl | rfl | rfl | rfl | rfl <;> rcases qaQ hb with rfl | rfl | rfl | rfl | rfl <;> exact ⟨_,rfl,rfl⟩
 by_cases h2:op = 6
 ·subst h2
  simp only [qdL]
  rcases qaQ ha with rfl | rfl | rfl | rfl | rfl <;> rcases qaQ hb with rfl | rfl | rfl | rfl | rfl <;> exact ⟨_,rfl,rfl⟩
 by_cases h3:op = 7
 ·subst h3
  simp only [qDg,qlR,qdL]
  rcases qaQ ha with rfl | rfl | rfl | rfl | rfl <;> rcases qaQ hb with rfl | rfl | rfl | rfl | rfl <;> exact ⟨_,rfl,rfl⟩
 by_cases h4:op = 8
 ·subst h4
  simp only [qdL]
  rcases qaQ ha with rfl | rfl | rfl | rfl | rfl <;> rcases qaQ hb with rfl | rfl | rfl | rfl | rfl <;> exact ⟨_,rfl,rfl⟩
 by_cases g1:op = 10
 ·subst g1; exact ⟨_,rfl,by cases h:(a == b) <;> simp [nrm,qiv,h]⟩
 by_cases g2:op = 11
 ·subst g2; exact ⟨_,rfl,by cases h:(a == b) <;> simp [nrm,qiv,h]⟩
 by_cases g3:op = 12
 ·subst g3; exact ⟨(5,a == b && a != 5),by cases h:(a == b) <;> simp [h],by cases h:(a == b && a != 5) <;> simp [nrm,qiv,h]⟩
 by_cases g4:op = 13
 ·subst g4; exact ⟨(5,a == b && a != 5),by cases h:(a == b) <;> simp [h],by cases h:(a == b && a != 5) <;> simp [nrm,qiv,h]⟩
 have hand:(a == 5 && b == 5) = (a == b && a == 5):=by
  rw [Bool.eq_iff_iff]; simp only [Bool.and_eq_true,beq_iff_eq]
  constructor
  ·rintro ⟨rfl,rfl⟩; exact ⟨rfl,rfl⟩
  ·rintro ⟨rfl,rfl⟩; exact ⟨rfl,rfl⟩
 by_cases g5:op = 14
 ·subst g5; exact ⟨(5,a == 5 && b == 5),by cases h:(a == 5) <;> simp [h],by rw [hand]; cases h:(a == b && a == 5) <;> simp [nrm,qiv,h]⟩
 by_cases g6:op = 15
 ·subst g6; exact ⟨(5,a == 5 && b == 5),by cases h:(a == 5) <;> simp [h],by rw [hand]; cases h:(a == b && a == 5) <;> simp [nrm,qiv,h]⟩
 by_cases g7:op = 17
 ·subst g7; exact ⟨(a,a == b && a != 5),by cases h:(a == b) <;> simp [h],by cases h:(a == b && a != 5) <;> simp [nrm,qiv,h]⟩
 by_cases g8:op = 18
 ·subst g8; exact ⟨(a,a == b && a != 5),by cases h:(a == b) <;> simp [h],by cases h:(a == b && a != 5) <;> simp [nrm,qiv,h]⟩
 have e1:(op == 10) = false:=by simpa using g1
 have e2:(op == 11) = false:=by simpa using g2
 have e3:(op == 12) = false:=by simpa using g3
 have e4:(op == 13) = false:=by simpa using g4
 have e5:(op == 14) = false:=by simpa using g5
 have e6:(op == 15) = false:=by simpa using g6
 have e7:(op == 17) = false:=by simpa using g7
 have e8:(op == 18) = false:=by simpa using g8
 have d1:(op == 5) = false:=by simpa using h1
 have d2:(op == 6) = false:=by simpa using h2
 have d3:(op == 7) = false:=by simpa using h3
 have d4:(op == 8) = false:=by simpa using h4
 refine ⟨(0,false),by simp only [d1,d2,d3,d4,e1,e2,e3,e4,e5,e6,e7,e8,ev_br,ev_at,cond_false],?_⟩
 simp only [qiv,g1,g2,g3,g4,g5,g6,g7,g8,or_self,if_false]
 rw [qXz (by omega)]; rfl
theorem qE7 {l:List Int} (hl:l.length <= big) (op:Int):qwU (op,EI l,EI l,(l.length:Int),0) = some (qgE (fun t=>!qaM t) (fun _=>0) 1 l,op,EI l,EI l,(l.length:Int),((l.findIdx (fun t=>!qaM t):Nat):Int)):=by
 rw [qwV]
 refine qaz (hd:=fun i=>(op,EI l,EI l,(l.length:Int),(i:Int))) (jx:=fun _=>0) _ 1 (fun i hn=>?_) ?_
 ·simp only [qqr,qqs,qaI hn,okI hn,qi0 hn,qhR,ev_br,ev_at,ev_bi_some,cond_true,qah hn hl]
  cases qaM l[i] <;> rfl
 ·simp [qqr,qqs]
theorem qrY {l:List Int} (hl:l.length <= big) (op:Int):qdP op (EI l) = some (qaZ op l):=by
 rw [qJO,qvp,List.length_map,qE7 hl,qax,show l.any (fun t=>!qaM t) = !l.all qaM by rw [List.any_eq_not_all_not]; simp]
 unfold qaZ
 cases hg:l.all qaM
 ·rfl
 ·simp only [Bool.not_true,cond_false,pj_some,if_true,Nat.one_ne_zero,if_false,ev_bi_none,ev_bi_some,List.length_map]
  match l with
  | []=>rfl
  | [a]=>
   obtain ⟨p,h1,h2⟩:=qzo op a
   have e0:intOf (cellAt (EI [a]) 0 0) = a:=rfl
   have e1:qaD ksI (EI [a]) 0 = true:=rfl
   simp only [e0,e1,h1,<- h2,nrm,ev_br,ev_bi_some,ev_at]
   cases p.2 <;> rfl
  | [a,b]=>
   obtain ⟨p,h1,h2⟩:=qzp op a b
   have e0:intOf (cellAt (EI [a,b]) 0 0) = a:=rfl
   have e0':intOf (cellAt (EI [a,b]) 1 0) = b:=rfl
   have e1:qaD ksI (EI [a,b]) 0 = true:=rfl
   have e1':qaD ksI (EI [a,b]) 1 = true:=rfl
   simp only [e0,e0',e1,e1',h1,<- h2,nrm,ev_br,ev_bi_some,ev_at]
   cases p.2 <;> rfl
  | [a,b,c]=>
   have e0:intOf (cellAt (EI [a,b,c]) 0 0) = a:=rfl
   have e1:intOf (cellAt (EI [a,b,c]) 1 0) = b:=rfl
   have e2:intOf (cellAt (EI [a,b,c]) 2 0) = c:=rfl
   have d0:qaD ksI (EI [a,b,c]) 0 = true:=rfl
   have d1:qaD ksI (EI [a,b,c]) 1 = true:=rfl
   have d2:qaD ksI (EI [a,b,c]) 2 = true:=rfl
   simp only [e0,e1,e2,d0,d1,d2,qx8,ev_br,ev_bi_some,ev_at]
   cases (op == 19) <;> cases (a == 5) <;> cases (b == c) <;> rfl
  | a :: b :: c :: d :: r=>
   have e1:(((a :: b :: c :: d :: r).length:Int) == 1) = false:=by simp; omega
   have e2:(((a :: b :: c :: d :: r).length:Int) == 2) = false:=by simp; omega
   have e3:(((a :: b :: c :: d :: r).length:Int) == 3) = false:=by simp; omega
   simp only [e1,e2,e3,ev_br,ev_at,cond_false]
theorem qgV {l:List Int} (hl:l.length <= big) (op:Int):qxb (op,EI l,0) = some (qgE (fun t=>!qaM t) (fun _=>0) 1 l,op,EI l,((l.findIdx (fun t=>!qaM t):Nat):Int)):=by
 rw [qxc]
 refine qaz (hd:=fun i=>(op,EI l,(i:Int))) (jx:=fun _=>0) _ 1 (fun i hn=>?_) ?_
 ·simp only [qqH,qqI,List.length_map,qaI hn,okI hn,qi0 hn,qh2,ev_br,ev_at,ev_bi_some,cond_true,qah hn hl]
  cases qaM l[i] <;> rfl
 ·simp [qqH,qqI]
theorem qnU (l:List Int) (op:Int):qc8 op (EI l) = some (qaZ op l):=by
 rw [qDu,ql7]
 unfold qaZ
 match l with
 | a :: b :: c :: d :: r=>
  have e1:decide (((EI (a :: b :: c :: d :: r)).length:Int) > 3) = true:=by simp; omega
  simp only [e1,ev_br,ev_at,cond_true]
  cases (a :: b :: c :: d :: r).all qaM <;> rfl
 | []=>
  rw [qgV (by decide)]
  have hr:qgl op (EI []) = some (0,false):=by
   rw [qgI,qfU]
   cases (op == 9) <;> cases (op == 16) <;> cases (op == 19) <;> rfl
  simp [-List.map_nil,qgE,hr]
 | [a]=>
  rw [qgV (by simp [big]),qax,show [a].any (fun t=>!qaM t) = !qaM a by simp]
  have hr:∃ p,qgl op (EI [a]) = some p /\ nrm p = qLP op a:=by
   rw [qgI,qfU]
   have e0:intOf (cellAt (EI [a]) 0 0) = a:=rfl
   have e1:qaD ksI (EI [a]) 0 = true:=rfl
   unfold qLP
   by_cases h1:op = 9
   ·subst h1
    refine ⟨(a,a == 1 || (a == 2 || a == 3)),by simp [-List.map_cons,-List.map_nil,qdL,e0,e1],?_⟩
    cases h:(a == 1 || (a == 2 || a == 3)) <;> simp [nrm,h]
   by_cases h2:op = 16
   ·subst h2
    refine ⟨(5,a == 5),by simp [-List.map_cons,-List.map_nil,e0,e1],?_⟩
    cases h:(a == 5) <;> simp [nrm,h]
   have d1:(op == 9) = false:=by simpa using h1
   have d2:(op == 16) = false:=by simpa using h2
   refine ⟨(0,false),?_,by simp [nrm,h1,h2]⟩
   cases h:(op == 19) <;> simp [-List.map_cons,-List.map_nil,d1,d2,h]
  obtain ⟨p,h1,h2⟩:=hr
  cases hg:qaM a
  ·simp [hg]
  ·simp only [List.all_cons,List.all_nil,hg,Bool.and_self,Bool.not_true,cond_false,<- h2,nrm]
   cases hp:p.2 <;> simp [-List.map_cons,-List.map_nil,h1,hp]
 | [a,b]=>
  rw [qgV (by simp [big]),qax,show [a,b].any (fun t=>!qaM t) = !(qaM a && qaM b) by simp]
  cases hg:(qaM a && qaM b)
  ·simp [hg]
  ·have hab:=hg
   simp only [Bool.and_eq_true] at hab
   obtain ⟨q,hq1,hq2⟩:=qzN (op:=op) hab.1 hab.2
   have hr:qgl op (EI [a,b]) = some q:=by
    rw [qgI,qfU]
    have e0:intOf (cellAt (EI [a,b]) 0 0) = a:=rfl
    have e0':intOf (cellAt (EI [a,b]) 1 0) = b:=rfl
    have e1:qaD ksI (EI [a,b]) 0 = true:=rfl
    have e1':qaD ksI (EI [a,b]) 1 = true:=rfl
    cases (op == 9) <;> cases (op == 16) <;> cases (op == 19) <;> simp [-List.map_cons,-List.map_nil,e0,e0',e1,e1',hq1]
   simp only [List.all_cons,List.all_nil,hg,Bool.and_true,Bool.not_true,cond_false,<- hq2,nrm]
   cases hp:q.2 <;> simp [-List.map_cons,-List.map_nil,hr,hp]
 | [a,b,c]=>
  rw [qgV (by simp [big]),qax,show [a,b,c].any (fun t=>!qaM t) = !(qaM a && (qaM b && qaM c)) by simp]
  cases hg:(qaM a && (qaM b && qaM c))
  ·simp [hg]
  ·have hr:∃ p,qgl op (EI [a,b,c]) = some p /\ nrm p = qx8 op a b c:=by
    rw [qgI,qfU]
    have e0:intOf (cellAt (EI [a,b,c]) 0 0) = a:=rfl
    have e1:intOf (cellAt (EI [a,b,c]) 1 0) = b:=rfl
    have e2:intOf (cellAt (EI [a,b,c]) 2 0) = c:=rfl
    have d0:qaD ksI (EI [a,b,c]) 0 = true:=rfl
    have d1:qaD ksI (EI [a,b,c]) 1 = true:=rfl
    have d2:qaD ksI (EI [a,b,c]) 2 = true:=rfl
    unfold qx8
    cases h9:(op == 9) <;> cases h16:(op == 16) <;> cases h19:(op == 19) <;> cases h5:(a == 5) <;> cases hbc:(b == c) <;> simp [-List.map_cons,-List.map_nil,e0,e1,e2,d0,d1,d2,h5,hbc,nrm]
   obtain ⟨p,h1,h2⟩:=hr
   simp only [List.all_cons,List.all_nil,hg,Bool.and_true,Bool.not_true,cond_false,<- h2,nrm]
   cases hp:p.2 <;> simp [-List.map_cons,-List.map_nil,h1,hp]
theorem qE0 {vs:List Va} (hl:vs.length <= big) (s:Bs):qsC (s,EV vs,(vs.length:Int),0) = some (qgE (fun v=>v.name == s) (fun v=>bif qaM v.ty then 1 else 0) 2 vs,s,EV vs,(vs.length:Int),((vs.findIdx (fun v=>v.name == s):Nat):Int)):=by
 rw [qwL]
 refine qaz (hd:=fun i=>(s,EV vs,(vs.length:Int),(i:Int))) _ _ 2 (fun i hn=>?_) ?_
 ·simp only [qqf,qqg,qaI hn,okV hn,qv0 hn,qv1 hn,qhR,ev_br,ev_at,ev_bi_some,cond_true,qah hn hl]
  cases (vs[i].name == s) <;> cases qaM vs[i].ty <;> rfl
 ·simp [qqf,qqg]
theorem qiJ {α:Type} {l:List α} {p:α -> Bool} {x:α} (h:l.find? p = some x):∃ h':l.findIdx p < l.length,l[l.findIdx p] = x:=by
 have hlt:l.findIdx p < l.length:=List.findIdx_lt_length.2 ⟨x,List.mem_of_find?_eq_some h,List.find?_some h⟩
 refine ⟨hlt,?_⟩
 rw [List.find?_eq_getElem?_findIdx,List.getElem?_eq_getElem hlt] at h
 exact Option.some.inj h
theorem qEy {vs:List Va} (hl:vs.length <= big) (s:Bs):qrR s (EV vs) = some (qlo vs s):=by
 rw [qJt,qu6,List.length_map,qE0 hl]
 unfold qlo qgE
 cases hf:vs.find? (fun v=>v.name == s) with
 | none=>rfl
 | some v=>
  obtain ⟨h1,h2⟩:=qiJ hf
  have hq:=qv1 h1
  rw [h2] at hq
  simp only
  cases hg:qaM v.ty
  ·simp
  ·simp [-List.map_cons,hq]
theorem qAc {vs:List Va} (hl:vs.length <= big) (o n:Int) (s:Bs) (A:List AV):qgu (EV vs,0,o,n,s,A) = some (qgE (fun v=>v.name == s) (fun v=>bif qaM v.ty then 0 else 1) 2 vs,EV vs,((vs.findIdx (fun v=>v.name == s):Nat):Int),o,n,s,A):=by
 rw [qsz]
 refine qaz (hd:=fun i=>(EV vs,(i:Int),o,n,s,A)) _ _ 2 (fun i hn=>?_) ?_
 ·simp only [qje,qkG,List.length_map,qaI hn,okV hn,qv0 hn,qv1 hn,qh2,ev_br,ev_at,ev_bi_some,cond_true,qah hn hl]
  cases (vs[i].name == s) <;> cases qaM vs[i].ty <;> rfl
 ·simp [qje,qkG]
def hdP (vs:List Va) (l:List Ex) (i:Int) (o n:Int) (s:Bs):List Int -> qbT
 | []=>.inl (EV vs,EX l,(l.length:Int),i,o,n,s,EX l)
 | acc=>.inr (EV vs,EX l,(l.length:Int),i,o,n,s,EX l,EI acc)
def hdQ (vs:List Va) (l:List Ex) (i:Int) (o n:Int) (s:Bs):List Int -> qbU
 | []=>.inl (EV vs,i,o,n,s,EX l)
 | acc=>.inr (EV vs,i,o,n,s,EX l,EI acc)
noncomputable def ofT (G:Int -> Int -> List UInt8 -> List AV -> List AV -> Option qjs) (y:Option (Nat × qbT)):DT qjs:=
     (.bi (pj 0 y) (fun y0=>
      .at ((0,(gv
    (G (intOf (cellAt (sl y0).snd.fst (sl y0).snd.snd.snd.fst 0)) (intOf (cellAt (sl y0).snd.fst (sl y0).snd.snd.snd.fst 1))
      (strOf (cellAt (sl y0).snd.fst (sl y0).snd.snd.snd.fst 2)) (qaq (cellAt (sl y0).snd.fst (sl y0).snd.snd.snd.fst 3)) (sl y0).fst)).snd)))
      (.bi (pj 1 y) (fun y0=>
       .bi (qdP (sl y0).snd.snd.snd.snd.fst []) (fun y1=>
        .br (!y1.snd) (.at ((0,3))) (.at ((y1.fst,0))))
        (.no))
       (.bi (pj 2 y) (fun y0=>
        .at ((0,(gv
    (G (intOf (cellAt (sr y0).snd.fst (sr y0).snd.snd.snd.fst 0)) (intOf (cellAt (sr y0).snd.fst (sr y0).snd.snd.snd.fst 1))
      (strOf (cellAt (sr y0).snd.fst (sr y0).snd.snd.snd.fst 2)) (qaq (cellAt (sr y0).snd.fst (sr y0).snd.snd.snd.fst 3)) (sr y0).fst)).snd)))
        (.bi (pj 3 y) (fun y0=>
         .bi (qdP (sr y0).snd.snd.snd.snd.fst (sr y0).snd.snd.snd.snd.snd.snd.snd.snd) (fun y1=>
          .br (!y1.snd) (.at ((0,3))) (.at ((y1.fst,0))))
          (.no))
         (.no)))))
theorem q3H (G:Int -> Int -> List UInt8 -> List AV -> List AV -> Option qjs) (x0 x1:Int) (x2:Bs) (x3 x4:List AV):quR G x0 x1 x2 x3 x4 =
  .br (x0 == 1) (.at ((1,0))) (.br (x0 == 2) (.at ((2,0))) (.br (x0 == 3) (.at ((3,0))) (.br (x0 == 4) (.bi (qrR x2 x4) (fun y0=>.at ((y0.fst,y0.snd))) .no)
   (ofT G (qgt G (.inl (x4,x3,(x3.length:Int),0,x0,x1,x2,x3))))))):=rfl
def qFH (op:Int) (acc:List Int) (p:List Int × Int):Int × Int:=qER op (acc ++ p.1,p.2)
theorem qvz {vs:List Va} (hv:vs.length <= big):∀ (e:Ex),e.nodes <= 1000000 -> ∀ n,e.dep <= n -> qcl n e.op e.num e.txt (EX e.args) (EV vs) = some (e.ty vs):=by
 intro e
 induction e using Ex.ind with
 | h o n s l ih=>
  intro h m hm
  simp only [Ex.dep] at hm
  have hll:=Ex.nodesL_len l
  simp only [Ex.nodes] at h
  cases m with
  | zero=>omega
  | succ k=>
   have key:∀ (r i:Nat) (acc:List Int),i + r = l.length -> acc.length + (l.drop i).length <= 1000000 -> (ofT (qcl k) (qgt (qcl k) (hdP vs l (i:Int) o n s acc))).ev = some (qFH o acc (Ex.tys vs (l.drop i))):=by
    intro r
    induction r with
    | zero=>
     intro i acc hi _
     have:i = l.length:=by omega
     subst this
     rw [qgT,List.drop_length]
     have hres:=fun (acc:List Int) (ha:acc.length <= big)=>qrY ha o
     cases acc with
     | nil=>
      rw [qak (j:=1)]
      ·have h0:qdP o [] = some (qaZ o []):=hres [] (by simp [big])
       simp (decide:=true) only [ofT,hdP,pj_some,if_true,if_false,ev_bi_none,ev_bi_some,sl_inl,h0,ev_br,ev_at,qFH,qER,Ex.tys,List.append_nil]
       cases (qaZ o []).2 <;> rfl
      ·simp [hdP,qcS,qhe]
     | cons a acc=>
      rw [qak (j:=3)]
      ·have h0:=hres (a :: acc) (by simp [big] at *; omega)
       simp (decide:=true) only [ofT,hdP,pj_some,if_true,if_false,ev_bi_none,ev_bi_some,sr_inr,h0,ev_br,ev_at,qFH,qER,Ex.tys,List.append_nil]
       cases (qaZ o (a :: acc)).2 <;> rfl
      ·simp [hdP,qcS,qhf]
    | succ r ihr=>
     intro i acc hi hb
     have hn:i < l.length:=by omega
     have hx:l[i] ∈ l:=List.getElem_mem hn
     have h1:=Ex.nodesL_mem hx
     have h2:=Ex.depL_mem hx
     have hg:=ih l[i] hx (by omega) k (by omega)
     rw [drop_at hn] at hb ⊢
     simp only [List.length_cons] at hb
     have hroom:room (acc.length + 1) 8 = true:=qil (by simp only [lim]; omega)
     cases he:((Ex.ty vs l[i]).2 != 0)
     ·have hst:(qcS (qcl k) (hdP vs l (i:Int) o n s acc)).ev = some (.next (hdP vs l ((i + 1:Nat):Int) o n s (acc ++ [(Ex.ty vs l[i]).1]))):=by
       cases acc with
       | nil=>simp only [hdP,qcS,Sum.elim_inl,qhe,qaI hn,okX hn,qx0 hn,qx1 hn,qx2 hn,qx3 hn,hg,he,ev_br,ev_at,ev_bi_some,cond_true,cond_false,qah hn (show l.length <= big by simp only [big]; omega)]; rfl
       | cons a acc=>
        simp only [List.length_cons] at hroom
        simp only [hdP,qcS,Sum.elim_inr,qhf,qaI hn,okX hn,qx0 hn,qx1 hn,qx2 hn,qx3 hn,hg,he,ev_br,ev_at,ev_bi_some,cond_true,cond_false,qah hn (show l.length <= big by simp only [big]; omega),List.length_map,List.length_cons,hroom]
        simp [hdP]
      have ihn:=ihr (i + 1) (acc ++ [(Ex.ty vs l[i]).1]) (by omega) (by simp only [List.length_append,List.length_cons,List.length_nil]; omega)
      rw [qgT] at ihn ⊢
      rw [qaA hst,ihn]
      congr 1
      simp only [Ex.tys,he,cond_false,qFH,qER]
      cases hz:((Ex.tys vs (l.drop (i + 1))).2 != 0)
      ·simp at hz; simp [hz]
      ·simp [hz]
     ·have hfin:∀ a:List Int,qFH o a (Ex.tys vs (l[i] :: l.drop (i + 1))) = (0,(Ex.ty vs l[i]).2):=by
       intro a
       simp only [Ex.tys,he,cond_true,qFH,qER]
      rw [hfin,qgT]
      cases acc with
      | nil=>
       rw [qak (j:=0)]
       ·simp (decide:=true) only [ofT,hdP,pj_some,if_true,ev_bi_some,sl_inl,qx0 hn,qx1 hn,qx2 hn,qx3 hn,hg,gv_some,ev_at]
       ·simp only [hdP,qcS,Sum.elim_inl,qhe,qaI hn,okX hn,qx0 hn,qx1 hn,qx2 hn,qx3 hn,hg,he,ev_br,ev_at,ev_bi_some,cond_true]
      | cons a acc=>
       rw [qak (j:=2)]
       ·simp (decide:=true) only [ofT,hdP,pj_some,if_true,if_false,ev_bi_none,ev_bi_some,sr_inr,qx0 hn,qx1 hn,qx2 hn,qx3 hn,hg,gv_some,ev_at]
       ·simp only [hdP,qcS,Sum.elim_inr,qhf,qaI hn,okX hn,qx0 hn,qx1 hn,qx2 hn,qx3 hn,hg,he,ev_br,ev_at,ev_bi_some,cond_true]
   show qcl (k + 1) o n s (EX l) (EV vs) = some ((Ex.mk o n s l).ty vs)
   simp only [qcl,q3H,ev_br,ev_at,qEy hv,ev_bi_some,Ex.ty]
   by_cases h1:o = 1
   ·subst h1; rfl
   by_cases h2:o = 2
   ·subst h2; rfl
   by_cases h3:o = 3
   ·subst h3; rfl
   by_cases h4:o = 4
   ·subst h4; rfl
   have e1:(o == 1) = false:=by simpa using h1
   have e2:(o == 2) = false:=by simpa using h2
   have e3:(o == 3) = false:=by simpa using h3
   have e4:(o == 4) = false:=by simpa using h4
   rw [e1,e2,e3,e4]
   simp only [cond_false,h1,h2,h3,h4,if_false,List.length_map]
   exact key l.length 0 [] (by omega) (by simp; omega)
theorem qzB {vs:List Va} (hv:vs.length <= big) {e:Ex} (h:e.nodes <= 1000000):qtN e.op e.num e.txt (EX e.args) (EV vs) = some (e.ty vs):=qb0 (qvz hv e h)
noncomputable def ofU (G:Int -> Int -> List UInt8 -> List AV -> List AV -> Option qhD) (y:Option (Nat × qbU)):DT qhD:=
     (.bi (pj 0 y) (fun y0=>
      .at ((0,(gv
    (G (intOf (cellAt (sl y0).snd.snd.snd.snd.snd (sl y0).snd.fst 0)) (intOf (cellAt (sl y0).snd.snd.snd.snd.snd (sl y0).snd.fst 1))
      (strOf (cellAt (sl y0).snd.snd.snd.snd.snd (sl y0).snd.fst 2)) (qaq (cellAt (sl y0).snd.snd.snd.snd.snd (sl y0).snd.fst 3)) (sl y0).fst)).snd)))
      (.bi (pj 1 y) (fun y0=>
       .bi (qc8 (sl y0).snd.snd.fst []) (fun y1=>
        .br (!y1.snd) (.at ((0,3))) (.at ((y1.fst,0))))
        (.no))
       (.bi (pj 2 y) (fun y0=>
        .at ((0,(gv
    (G (intOf (cellAt (sr y0).snd.snd.snd.snd.snd.fst (sr y0).snd.fst 0)) (intOf (cellAt (sr y0).snd.snd.snd.snd.snd.fst (sr y0).snd.fst 1))
      (strOf (cellAt (sr y0).snd.snd.snd.snd.snd.fst (sr y0).snd.fst 2)) (qaq (cellAt (sr y0).snd.snd.snd.snd.snd.fst (sr y0).snd.fst 3)) (sr y0).fst)).snd)))
        (.bi (pj 3 y) (fun y0=>
         .bi (qc8 (sr y0).snd.snd.fst (sr y0).snd.snd.snd.snd.snd.snd) (fun y1=>
          .br (!y1.snd) (.at ((0,3))) (.at ((y1.fst,0))))
          (.no))
         (.no)))))
noncomputable def ofW (y:Option (Nat × qcN)):DT qhD:=
     (.bi (pj 0 y) (fun y0=>
      .at ((intOf (cellAt y0.fst y0.snd.fst 1),0)))
      (.bi (pj 1 y) (fun y0=>
       .at ((0,3)))
       (.bi (pj 2 y) (fun y0=>
        .at ((0,4)))
        (.no))))
theorem q3I (G:Int -> Int -> List UInt8 -> List AV -> List AV -> Option qhD) (x0 x1:Int) (x2:Bs) (x3 x4:List AV):quV G x0 x1 x2 x3 x4 =
  .br (x0 == 1) (.at ((1,0))) (.br (x0 == 2) (.at ((2,0))) (.br (x0 == 3) (.at ((3,0))) (.br (x0 == 4) (ofW (qgu (x4,0,x0,x1,x2,x3)))
   (ofU G (qgv G (.inl (x4,0,x0,x1,x2,x3))))))):=rfl
theorem qZT {vs:List Va} (hl:vs.length <= big) (o n:Int) (s:Bs) (A:List AV):(ofW (qgu (EV vs,0,o,n,s,A))).ev = some (qlo vs s):=by
 rw [qAc hl]
 unfold qlo qgE ofW
 cases hf:vs.find? (fun v=>v.name == s) with
 | none=>rfl
 | some v=>
  obtain ⟨h1,h2⟩:=qiJ hf
  have hq:=qv1 h1
  rw [h2] at hq
  simp only
  cases hg:qaM v.ty
  ·simp
  ·simp [-List.map_cons,hq]
theorem qCH {vs:List Va} (hv:vs.length <= big):∀ (e:Ex),e.nodes <= 1000000 -> ∀ n,e.dep <= n -> qcm n e.op e.num e.txt (EX e.args) (EV vs) = some (e.ty vs):=by
 intro e
 induction e using Ex.ind with
 | h o n s l ih=>
  intro h m hm
  simp only [Ex.dep] at hm
  have hll:=Ex.nodesL_len l
  simp only [Ex.nodes] at h
  cases m with
  | zero=>omega
  | succ k=>
   have key:∀ (r i:Nat) (acc:List Int),i + r = l.length -> acc.length + (l.drop i).length <= 1000000 -> (ofU (qcm k) (qgv (qcm k) (hdQ vs l (i:Int) o n s acc))).ev = some (qFH o acc (Ex.tys vs (l.drop i))):=by
    intro r
    induction r with
    | zero=>
     intro i acc hi _
     have:i = l.length:=by omega
     subst this
     rw [qgU,List.drop_length]
     have hres:=fun (acc:List Int)=>qnU acc o
     cases acc with
     | nil=>
      rw [qak (j:=1)]
      ·have h0:qc8 o [] = some (qaZ o []):=hres []
       simp (decide:=true) only [ofU,hdQ,pj_some,if_true,if_false,ev_bi_none,ev_bi_some,sl_inl,h0,ev_br,ev_at,qFH,qER,Ex.tys,List.append_nil]
       cases (qaZ o []).2 <;> rfl
      ·simp [hdQ,qcT,qhj]
     | cons a acc=>
      rw [qak (j:=3)]
      ·have h0:=hres (a :: acc)
       simp (decide:=true) only [ofU,hdQ,pj_some,if_true,if_false,ev_bi_none,ev_bi_some,sr_inr,h0,ev_br,ev_at,qFH,qER,Ex.tys,List.append_nil]
       cases (qaZ o (a :: acc)).2 <;> rfl
      ·simp [hdQ,qcT,qhk]
    | succ r ihr=>
     intro i acc hi hb
     have hn:i < l.length:=by omega
     have hx:l[i] ∈ l:=List.getElem_mem hn
     have h1:=Ex.nodesL_mem hx
     have h2:=Ex.depL_mem hx
     have hg:=ih l[i] hx (by omega) k (by omega)
     rw [drop_at hn] at hb ⊢
     simp only [List.length_cons] at hb
     have hroom:room (acc.length + 1) 8 = true:=qil (by simp only [lim]; omega)
     cases he:((Ex.ty vs l[i]).2 != 0)
     ·have hst:(qcT (qcm k) (hdQ vs l (i:Int) o n s acc)).ev = some (.next (hdQ vs l ((i + 1:Nat):Int) o n s (acc ++ [(Ex.ty vs l[i]).1]))):=by
       cases acc with
       | nil=>simp only [hdQ,qcT,Sum.elim_inl,qhj,List.length_map,qaI hn,okX hn,qx0 hn,qx1 hn,qx2 hn,qx3 hn,hg,he,ev_br,ev_at,ev_bi_some,cond_true,cond_false,qah hn (show l.length <= big by simp only [big]; omega)]; rfl
       | cons a acc=>
        simp only [List.length_cons] at hroom
        simp only [hdQ,qcT,Sum.elim_inr,qhk,qaI hn,okX hn,qx0 hn,qx1 hn,qx2 hn,qx3 hn,hg,he,ev_br,ev_at,ev_bi_some,cond_true,cond_false,qah hn (show l.length <= big by simp only [big]; omega),List.length_map,List.length_cons,hroom]
        simp [hdQ]
      have ihn:=ihr (i + 1) (acc ++ [(Ex.ty vs l[i]).1]) (by omega) (by simp only [List.length_append,List.length_cons,List.length_nil]; omega)
      rw [qgU] at ihn ⊢
      rw [qaA hst,ihn]
      congr 1
      simp only [Ex.tys,he,cond_false,qFH,qER]
      cases hz:((Ex.tys vs (l.drop (i + 1))).2 != 0)
      ·simp at hz; simp [hz]
      ·simp [hz]
     ·have hfin:∀ a:List Int,qFH o a (Ex.tys vs (l[i] :: l.drop (i + 1))) = (0,(Ex.ty vs l[i]).2):=by
       intro a
       simp only [Ex.tys,he,cond_true,qFH,qER]
      rw [hfin,qgU]
      cases acc with
      | nil=>
       rw [qak (j:=0)]
       ·simp (decide:=true) only [ofU,hdQ,pj_some,if_true,ev_bi_some,sl_inl,qx0 hn,qx1 hn,qx2 hn,qx3 hn,hg,gv_some,ev_at]
       ·simp only [hdQ,qcT,Sum.elim_inl,qhj,List.length_map,qaI hn,okX hn,qx0 hn,qx1 hn,qx2 hn,qx3 hn,hg,he,ev_br,ev_at,ev_bi_some,cond_true]
      | cons a acc=>
       rw [qak (j:=2)]
       ·simp (decide:=true) only [ofU,hdQ,pj_some,if_true,if_false,ev_bi_none,ev_bi_some,sr_inr,qx0 hn,qx1 hn,qx2 hn,qx3 hn,hg,gv_some,ev_at]
       ·simp only [hdQ,qcT,Sum.elim_inr,qhk,List.length_map,qaI hn,okX hn,qx0 hn,qx1 hn,qx2 hn,qx3 hn,hg,he,ev_br,ev_at,ev_bi_some,cond_true]
   show qcm (k + 1) o n s (EX l) (EV vs) = some ((Ex.mk o n s l).ty vs)
   simp only [qcm,q3I,ev_br,ev_at,qZT hv,ev_bi_some,Ex.ty]
   by_cases h1:o = 1
   ·subst h1; rfl
   by_cases h2:o = 2
   ·subst h2; rfl
   by_cases h3:o = 3
   ·subst h3; rfl
   by_cases h4:o = 4
   ·subst h4; rfl
   have e1:(o == 1) = false:=by simpa using h1
   have e2:(o == 2) = false:=by simpa using h2
   have e3:(o == 3) = false:=by simpa using h3
   have e4:(o == 4) = false:=by simpa using h4
   rw [e1,e2,e3,e4]
   simp only [cond_false,h1,h2,h3,h4,if_false]
   exact key l.length 0 [] (by omega) (by simp; omega)
theorem qzP {vs:List Va} (hv:vs.length <= big) {e:Ex} (h:e.nodes <= 1000000):qtO e.op e.num e.txt (EX e.args) (EV vs) = some (e.ty vs):=qb0 (qCH hv e h)
theorem qoc {vs:List Va} (hv:vs.length <= big) {e:Ex} (h:e.nodes <= big):qjN e.op e.num e.txt (EX e.args) (EV vs) = some (ofS e vs):=by
 rw [qDW,qmz,qrV h]
 unfold ofS
 cases hz:(qbO e != 0)
 ·have hz':qbO e = 0:=by simpa using hz
  have:=(qq6 hz').1
  simp [hz,qzB hv (e:=e) (by omega)]
 ·simp [hz]
theorem qzO {vs:List Va} (hv:vs.length <= big) {e:Ex} (hw:Wd e):qow e.op e.num e.txt (EX e.args) (EV vs) = some (ofS e vs):=by
 rw [qEr,qm4,qEM hw]
 unfold ofS
 cases hz:(qbO e != 0)
 ·have hz':qbO e = 0:=by simpa using hz
  have:=(qq6 hz').1
  simp [hz,qzP hv (e:=e) (by omega)]
 ·simp [hz]
theorem qFf {vs:List Va} (hl:vs.length <= big) {n:Nat} (hn:n <= vs.length) (A B:List AV) (x y:Int) (s:Bs) (t:Int):qw8 (A,B,x,y,EV (vs.take n),(n:Int),0,s,t) = some (qgE (fun w=>w.name == s) (fun _=>0) 1 (vs.take n),A,B,x,y,EV (vs.take n),(n:Int),(((vs.take n).findIdx (fun w=>w.name == s):Nat):Int),s,t):=by
 have hlen:(vs.take n).length = n:=by rw [List.length_take]; omega
 rw [qw9]
 refine qaz (hd:=fun i=>(A,B,x,y,EV (vs.take n),(n:Int),(i:Int),s,t)) (jx:=fun _=>0) _ 1 (fun i hi=>?_) ?_
 ·have hi':i < n:=by omega
  simp only [qqF,qqG,qaI hi',okV hi,qv0 hi,ev_br,ev_at,cond_true,qah hi' (show n <= big by omega)]
  cases ((vs.take n)[i].name == s) <;> rfl
 ·rw [hlen]; simp [qqF,qqG]
theorem qzQ (s:Bs):qoA 4 0 s [] = some (bif qkU s then 0 else 4):=by
 have:=qrV (e:=.mk 4 0 s []) (by simp [Ex.nodes,Ex.nodesL,big])
 rw [qPM] at this
 exact this
theorem qFe {vs:List Va} (hl:vs.length <= big):∃ w,qo9 (EV vs,EV vs,(vs.length:Int),0) = some (eV vs,w):=by
 rw [qw7]
 refine ⟨_,qa3 (N:=vs.length) (hd:=fun i=>(EV vs,EV vs,(vs.length:Int),(i:Int))) (jx:=qel vs) _ 3 (fun i hn=>?_) ?_⟩
 ·have htk:List.take (i:Int).toNat (EV vs) = EV (vs.take i):=by simp [List.map_take]
  have hlen:((EV (vs.take i)).length:Int) = (i:Int):=by simp; omega
  have hs:=qFf hl (Nat.le_of_lt hn) (EV vs) (EV vs) (vs.length:Int) (i:Int) vs[i].name vs[i].ty
  rw [qax] at hs
  have hle:leB (i:Int) (EV vs).length = true:=qbp (by simp; omega)
  have hwr:qel vs i = bif !qkU vs[i].name then 0 else bif (vs.take i).any (fun w=>w.name == vs[i].name) then 1 else bif !qaM vs[i].ty then 2 else 9:=by
   unfold qel; rw [List.getElem?_eq_getElem hn]
  simp only [qqD,qqE,qaI hn,okV hn,qv0 hn,qv1 hn,qzQ,ev_br,ev_at,ev_bi_some,cond_true,htk,hlen,hs,hle,Bool.and_true,hwr]
  cases qkU vs[i].name
  ·rfl
  ·cases (vs.take i).any (fun w=>w.name == vs[i].name)
   ·simp (decide:=true) only [pj_some,cond_false,cond_true,if_false,if_true,Bool.not_true,ev_bi_none,ev_bi_some,qhR,ev_br,ev_at,qah hn hl]
    cases qaM vs[i].ty <;> rfl
   ·rfl
 ·simp [qqD,qqE]
theorem qAR (vs:List Va):eV vs = 0 \/ eV vs = 1 \/ eV vs = 2 \/ eV vs = 3:=by
 unfold eV qgE
 cases hf:(List.range vs.length).find? (fun n=>qel vs n != 9) with
 | none=>simp
 | some n=>
  have:=List.find?_some hf
  simp only
  rcases qyd vs n with h | h | h | h
  ·exact .inl h
  ·exact .inr (.inl h)
  ·exact .inr (.inr (.inl h))
  ·rw [h] at this; cases this
theorem qy9 {vs:List Va} (hl:vs.length <= big):qnS (EV vs) = some (qvB vs):=by
 obtain ⟨w,hw⟩:=qFe hl
 rw [qDp,ql2,List.length_map,hw,qvB]
 by_cases h:vs.length > 64
 ·rw [if_pos h,decide_eq_true (by omega)]; rfl
 ·rw [if_neg h,decide_eq_false (by omega)]
  rcases qAR vs with h | h | h | h <;> rw [h] <;> simp
theorem qAa {vs:List Va} (hl:vs.length <= big) {n:Nat} (hn:n < vs.length):qo1 (EV vs,(n:Int),0) = some (qgE (fun w=>w.name == vs[n].name) (fun _=>0) 1 (vs.take n),EV vs,(n:Int),(((vs.take n).findIdx (fun w=>w.name == vs[n].name):Nat):Int)):=by
 have hlen:(vs.take n).length = n:=by rw [List.length_take]; omega
 rw [qsv]
 refine qaz (hd:=fun i=>(EV vs,(n:Int),(i:Int))) (jx:=fun _=>0) _ 1 (fun i hi=>?_) ?_
 ·have hi':i < n:=by omega
  have hi2:i < vs.length:=by omega
  simp only [qjc,qkC,qaI hi',okV hi2,okV hn,qv0 hi2,qv0 hn,ev_br,ev_at,cond_true,qah hi' (show n <= big by omega),List.getElem_take]
  cases (vs[i].name == vs[n].name) <;> rfl
 ·rw [hlen]; simp [qjc,qkC]
theorem qz9 {vs:List Va} (hl:vs.length <= big):∃ w,qig (EV vs,0) = some (eV vs,w):=by
 rw [qsu]
 refine ⟨_,qa3 (N:=vs.length) (hd:=fun i=>(EV vs,(i:Int))) (jx:=qel vs) _ 3 (fun i hn=>?_) ?_⟩
 ·have hs:=qAa hl hn
  rw [qax] at hs
  have hwr:qel vs i = bif !qkU vs[i].name then 0 else bif (vs.take i).any (fun w=>w.name == vs[i].name) then 1 else bif !qaM vs[i].ty then 2 else 9:=by
   unfold qel; rw [List.getElem?_eq_getElem hn]
  simp only [qjb,qkB,List.length_map,qaI hn,okV hn,qv0 hn,qv1 hn,qr6,ev_br,ev_at,ev_bi_some,cond_true,hs,hwr]
  cases qkU vs[i].name
  ·rfl
  ·cases (vs.take i).any (fun w=>w.name == vs[i].name)
   ·simp (decide:=true) only [pj_some,cond_false,cond_true,if_false,if_true,Bool.not_true,ev_bi_none,ev_bi_some,okV hn,qv1 hn,qh2,ev_br,ev_at,qah hn hl]
    cases qaM vs[i].ty <;> rfl
   ·rfl
 ·simp [qjb,qkB]
theorem qzG {vs:List Va} (hl:vs.length <= big):qoj (EV vs) = some (qvB vs):=by
 obtain ⟨w,hw⟩:=qz9 hl
 rw [qD7,qmK,List.length_map,hw,qvB]
 by_cases h:vs.length > 64
 ·rw [if_pos h,decide_eq_true (by omega)]; rfl
 ·rw [if_neg h,decide_eq_false (by omega)]
  rcases qAR vs with h | h | h | h <;> rw [h] <;> simp
end Go.Proofs.H15p

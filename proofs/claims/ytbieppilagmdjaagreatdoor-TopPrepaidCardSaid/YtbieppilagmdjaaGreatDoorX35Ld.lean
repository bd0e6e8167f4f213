/- slices.DeleteFunc, in place. Printed by a program of mine. -/
import Derived.Test.YtbieppilagmdjaaGreatDoorX35Lc
import Derived.Test.YtbieppilagmdjaaGreatDoorLnD
import Derived.Test.YtbieppilagmdjaaGreatDoorD35_5
import Derived.Test.YtbieppilagmdjaaGreatDoorIP35
set_option linter.unusedVariables false
set_option linter.unusedSimpArgs false
set_option linter.unnecessarySimpa false
namespace Go.Proofs.H35
open Go Go.Eng Go.Tk
set_option maxRecDepth 20000
theorem qmJ (a b:Int):qmb a b = some (b == 0):=by rw [qAF,qoY]; rfl
theorem qz2 (a b:Int):f34 a b = some (decide (b <= 0)):=by rw [qSa,qVc]; rfl
theorem qNE (a b c d on:Int):f63 a b c d on = some (decide (b > on)):=by rw [qSb,qVd]; rfl
theorem qFB (a b c d on:Int):qSc a b c d on = some (decide (b > on),on):=by rw [qNF,qGL]; rfl
theorem qGo (x:Int × Int):qhi [CS.int IntKind.i64,CS.int IntKind.i64] (qac (Pa.av x)) = true:=rfl
theorem qY4 {l:List (Int × Int)} {n:Nat} (h:n < l.length):intOf (qca (EPa l) n 0) = (l[n]).1:=by rw [qcB h]; rfl
theorem qTg {l:List (Int × Int)} {n:Nat} (h:n < l.length):intOf (cellAt (EPa l) (n:Int) 0) = (l[n]).1:=by rw [qaI h]; rfl
theorem qY5 {l:List (Int × Int)} {n:Nat} (h:n < l.length):intOf (qca (EPa l) n 1) = (l[n]).2:=by rw [qcB h]; rfl
theorem qOm {l:List (Int × Int)} {n:Nat} (h:n < l.length):intOf (cellAt (EPa l) (n:Int) 1) = (l[n]).2:=by rw [qaI h]; rfl
theorem qGp {l:List (Int × Int)} (hl:l.length <= 1000):Ok (qlY (EPa l)) fun y=>(y = -1 /\ l.all (fun p:Int × Int=>!(p.2 == 0)) = true) \/ (∃ i:Nat,∃ h:i < l.length,y = (i:Int) /\ (l.take i).all (fun p:Int × Int=>!(p.2 == 0)) = true /\ (fun p:Int × Int=>!(p.2 == 0)) l[i] = false):=by
 have hloop:Lo' (qBB (EPa l,((EPa l).length:Int),0)) 2 (fun k w=>∃ m:Nat,m <= l.length /\ w = (EPa l,((EPa l).length:Int),(m:Int)) /\ ((k = 0 -> ∃ h:m < l.length,(l.take m).all (fun p:Int × Int=>!(p.2 == 0)) = true /\ (fun p:Int × Int=>!(p.2 == 0)) l[m] = false) /\ (k = 1 -> l.all (fun p:Int × Int=>!(p.2 == 0)) = true))):=by
  rw [qvf]
  refine qkz (fun n:Nat=>(EPa l,((EPa l).length:Int),(n:Int))) l.length 2 (fun n=>(l.take n).all (fun p:Int × Int=>!(p.2 == 0)) = true) (fun k m=>(k = 0 -> ∃ h:m < l.length,(l.take m).all (fun p:Int × Int=>!(p.2 == 0)) = true /\ (fun p:Int × Int=>!(p.2 == 0)) l[m] = false) /\ (k = 1 -> l.all (fun p:Int × Int=>!(p.2 == 0)) = true)) (fun n hn hJ=>?_) 0 (Nat.zero_le _) rfl
  simp only [qvY,qvZ]
  by_cases hlt:n < l.length
  ·refine qaE (qlz hlt) (qaE (qbV qGo hlt) ?_)
   rw [qTg hlt,qOm hlt]
   refine qam (qmJ (l[n]).1 (l[n]).2) (qao (fun hb=>qaQ ⟨by decide,fun _=>⟨hlt,hJ,?_⟩,fun h=>by omega⟩) (fun hb=>qbO ⟨⟨hlt,by rw [qbH hlt (by omega)]⟩,?_⟩))
   ·have:((l[n]).2 == 0) = true:=hb
    show (!((l[n]).2 == 0)) = false
    rw [this]; rfl
   ·have:((l[n]).2 == 0) = false:=hb
    rw [List.take_succ_eq_append_getElem hlt,List.all_append,hJ]
    show (true && ((!((l[n]).2 == 0)) && true)) = true
    rw [this]; rfl
  ·obtain rfl:n = l.length:=by omega
   refine qbN (qpj hlt) (qaQ ⟨by decide,fun h=>by omega,fun _=>by rwa [List.take_length] at hJ⟩)
 obtain ⟨⟨k,w⟩,hk,hk2,m,hm,rfl,h0,h1⟩:=hloop
 rw [qz4,qon,hk]
 have hk3:k = 0 \/ k = 1:=by simp only at hk2; omega
 rcases hk3 with rfl | rfl
 ·obtain ⟨h,h2,h3⟩:=h0 rfl
  exact ⟨_,rfl,.inr ⟨m,h,rfl,h2,h3⟩⟩
 ·exact ⟨_,rfl,.inl ⟨rfl,h1 rfl⟩⟩
theorem qDw {l:List (Int × Int)} (hl:l.length <= 1000):Ok (qwT (EPa l)) fun r=>(r = .inl (EPa l) /\ l.filter (fun p:Int × Int=>!(p.2 == 0)) = l) \/ (∃ n w,r = .inr (n,w) /\ n <= w.length /\ w.take n = EPa (l.filter (fun p:Int × Int=>!(p.2 == 0)))):=by
 rw [qFD,qv2]
 refine qax (qGp hl) ?_
 rintro y (⟨rfl,ha⟩ | ⟨i0,hi0,rfl,ha,hn⟩)
 ·exact qaE rfl (qah (.inl ⟨rfl,List.filter_eq_self.2 (List.all_eq_true.1 ha)⟩))
 refine qbN (by show ((i0:Int) == -1) = false; rw [beq_eq_false_iff_ne]; omega) ?_
 have hloop:Lo (qFY ((i0:Int),((i0 + 1:Nat):Int),EPa l)) 1 (fun v=>∃ i b,FI (fun p:Int × Int=>!(p.2 == 0)) l i l.length b /\ v = ((i:Int),(l.length:Int),EPa b)):=by
  rw [qu8]
  refine qdP (fun v=>∃ i j b,FI (fun p:Int × Int=>!(p.2 == 0)) l i j b /\ v = ((i:Int),(j:Int),EPa b)) (fun v=>l.length - v.2.1.toNat) (fun k v=>k < 1 /\ ∃ i b,FI (fun p:Int × Int=>!(p.2 == 0)) l i l.length b /\ v = ((i:Int),(l.length:Int),EPa b)) ?_ _ ⟨i0,i0 + 1,l,FI.start hi0 ha hn,rfl⟩
  rintro _ ⟨i,j,b,hF,rfl⟩
  have hb:=hF.len
  have hij:=hF.ij
  have hjn:=hF.jn
  show Ok (qn1 (i:Int) (j:Int) (EPa b)).ev _
  unfold qn1
  by_cases hlt:j < l.length
  ·have hjb:j < b.length:=by omega
   have hib:i < b.length:=by omega
   have ej:((j:Int)).toNat = j:=Int.toNat_natCast j
   have ei:((i:Int)).toNat = i:=Int.toNat_natCast i
   have eg:=hF.get hlt
   refine qaE (qlz hjb) (qaE (inE hjb) ?_)
   rw [ej,ei,qY4 hjb,qY5 hjb,eg]
   refine qaE (by rw [qsT hjb]; rfl) (qam (qmJ (l[j]).1 (l[j]).2) ?_)
   have ew:IntKind.i64.wrap ((j:Int) + 1) = ((j + 1:Nat):Int):=qbH hlt (by omega)
   have ew2:IntKind.i64.wrap ((i:Int) + 1) = ((i + 1:Nat):Int):=qbH (n:=i) (N:=l.length) (by omega) (by omega)
   rw [ew,ew2]
   have hm:l.length - (((j + 1:Nat):Int)).toNat < l.length - ((j:Int)).toNat:=by omega
   refine qao (fun hk=>?_) (fun hk=>?_)
   ·refine qaE (inE hib) (qaE (by rw [qsU hib]; rfl) (qbO ⟨⟨i + 1,j + 1,b.set i l[j],hF.more hlt hk,?_⟩,hm⟩))
    have es:qxu (EPa b) i 0 [AV.int IntKind.i64 ((l[j]).1),AV.int IntKind.i64 ((l[j]).2)] = EPa (b.set i l[j]):=qnZ hib (y:=l[j]) rfl
    show ((_,_,qxu (EPa b) i 0 [AV.int IntKind.i64 ((l[j]).1),AV.int IntKind.i64 ((l[j]).2)]):_) = _
    rw [es]
   ·exact qbO ⟨⟨i,j + 1,b,hF.less hlt hk,rfl⟩,hm⟩
  ·obtain rfl:j = l.length:=by omega
   exact qbN (by rw [List.length_map,hb]; exact decide_eq_false (by omega)) (qaQ ⟨by decide,i,b,hF,rfl⟩)
 have ew:IntKind.i64.wrap ((i0:Int) + 1) = ((i0 + 1:Nat):Int):=qbH hi0 (by omega)
 rw [ew]
 refine qvE hloop ?_
 rintro _ ⟨i,b,hF,rfl⟩
 have hb:=hF.len
 have hij:=hF.ij
 have ei:((i:Int)).toNat = i:=Int.toNat_natCast i
 obtain ⟨c1,c2⟩:=qsn (EPa b) (AV.agg [AV.int IntKind.i64 0,AV.int IntKind.i64 0]) (i:=i) (by rw [List.length_map]; omega)
 refine qaE (leE (by omega)) (qaE ?_ (qaE ?_ (qah (.inr ⟨i,_,?_,?_,c2.trans ?_⟩))))
 ·show decide (0 + ((i:Int)).toNat + qa9 (EPa b).length (0 + ((i:Int)).toNat) none <= (EPa b).length) = true
  rw [ei]
  have e:qa9 (EPa b).length (0 + i) none = (EPa b).length - (0 + i):=by cases hq:0 + i <;> rfl
  rw [e]
  refine decide_eq_true ?_
  rw [List.length_map]; omega
 ·show (leB (i:Int) (List.take (0 + ((i:Int)).toNat) (EPa b) ++ List.replicate (qa9 (EPa b).length (0 + ((i:Int)).toNat) none) (AV.agg [AV.int IntKind.i64 0,AV.int IntKind.i64 0]) ++ List.drop (0 + ((i:Int)).toNat + qa9 (EPa b).length (0 + ((i:Int)).toNat) none) (EPa b)).length && true && decide (0 + ((i:Int)).toNat <= (List.take (0 + ((i:Int)).toNat) (EPa b) ++ List.replicate (qa9 (EPa b).length (0 + ((i:Int)).toNat) none) (AV.agg [AV.int IntKind.i64 0,AV.int IntKind.i64 0]) ++ List.drop (0 + ((i:Int)).toNat + qa9 (EPa b).length (0 + ((i:Int)).toNat) none) (EPa b)).length)) = true
  rw [ei,c1,List.length_map,decide_eq_true (show 0 + i <= b.length by omega)]
  simp [leB]; omega
 ·show (.inr (((i:Int)).toNat - 0,List.take (0 + ((i:Int)).toNat) (EPa b) ++ List.replicate (qa9 (EPa b).length (0 + ((i:Int)).toNat) none) (AV.agg [AV.int IntKind.i64 0,AV.int IntKind.i64 0]) ++ List.drop (0 + ((i:Int)).toNat + qa9 (EPa b).length (0 + ((i:Int)).toNat) none) (EPa b)):Sum (List AV) (Nat × List AV)) = _
  rw [ei,Nat.sub_zero]
 ·rw [c1,List.length_map]; omega
 ·rw [<- List.map_take,hF.fin]
theorem qY1 (x:Int × Int):qhi [CS.int IntKind.i64,CS.int IntKind.i64] (qac (Pa.av x)) = true:=rfl
theorem qY2 {l:List (Int × Int)} {n:Nat} (h:n < l.length):intOf (qca (EPa l) n 0) = (l[n]).1:=by rw [qcB h]; rfl
theorem qYZ {l:List (Int × Int)} {n:Nat} (h:n < l.length):intOf (cellAt (EPa l) (n:Int) 0) = (l[n]).1:=by rw [qaI h]; rfl
theorem qY3 {l:List (Int × Int)} {n:Nat} (h:n < l.length):intOf (qca (EPa l) n 1) = (l[n]).2:=by rw [qcB h]; rfl
theorem qY0 {l:List (Int × Int)} {n:Nat} (h:n < l.length):intOf (cellAt (EPa l) (n:Int) 1) = (l[n]).2:=by rw [qaI h]; rfl
theorem qGn {l:List (Int × Int)} (hl:l.length <= 1000):Ok (qpH (EPa l)) fun y=>(y = -1 /\ l.all (fun p:Int × Int=>!decide (p.2 <= 0)) = true) \/ (∃ i:Nat,∃ h:i < l.length,y = (i:Int) /\ (l.take i).all (fun p:Int × Int=>!decide (p.2 <= 0)) = true /\ (fun p:Int × Int=>!decide (p.2 <= 0)) l[i] = false):=by
 have hloop:Lo' (qBA (EPa l,((EPa l).length:Int),0)) 2 (fun k w=>∃ m:Nat,m <= l.length /\ w = (EPa l,((EPa l).length:Int),(m:Int)) /\ ((k = 0 -> ∃ h:m < l.length,(l.take m).all (fun p:Int × Int=>!decide (p.2 <= 0)) = true /\ (fun p:Int × Int=>!decide (p.2 <= 0)) l[m] = false) /\ (k = 1 -> l.all (fun p:Int × Int=>!decide (p.2 <= 0)) = true))):=by
  rw [qvc]
  refine qkz (fun n:Nat=>(EPa l,((EPa l).length:Int),(n:Int))) l.length 2 (fun n=>(l.take n).all (fun p:Int × Int=>!decide (p.2 <= 0)) = true) (fun k m=>(k = 0 -> ∃ h:m < l.length,(l.take m).all (fun p:Int × Int=>!decide (p.2 <= 0)) = true /\ (fun p:Int × Int=>!decide (p.2 <= 0)) l[m] = false) /\ (k = 1 -> l.all (fun p:Int × Int=>!decide (p.2 <= 0)) = true)) (fun n hn hJ=>?_) 0 (Nat.zero_le _) rfl
  simp only [qvW,qvX]
  by_cases hlt:n < l.length
  ·refine qaE (qlz hlt) (qaE (qbV qY1 hlt) ?_)
   rw [qYZ hlt,qY0 hlt]
   refine qam (qz2 (l[n]).1 (l[n]).2) (qao (fun hb=>qaQ ⟨by decide,fun _=>⟨hlt,hJ,?_⟩,fun h=>by omega⟩) (fun hb=>qbO ⟨⟨hlt,by rw [qbH hlt (by omega)]⟩,?_⟩))
   ·have:(decide ((l[n]).2 <= 0)) = true:=hb
    show (!(decide ((l[n]).2 <= 0))) = false
    rw [this]; rfl
   ·have:(decide ((l[n]).2 <= 0)) = false:=hb
    rw [List.take_succ_eq_append_getElem hlt,List.all_append,hJ]
    show (true && ((!(decide ((l[n]).2 <= 0))) && true)) = true
    rw [this]; rfl
  ·obtain rfl:n = l.length:=by omega
   refine qbN (qpj hlt) (qaQ ⟨by decide,fun h=>by omega,fun _=>by rwa [List.take_length] at hJ⟩)
 obtain ⟨⟨k,w⟩,hk,hk2,m,hm,rfl,h0,h1⟩:=hloop
 rw [qz3,qom,hk]
 have hk3:k = 0 \/ k = 1:=by simp only at hk2; omega
 rcases hk3 with rfl | rfl
 ·obtain ⟨h,h2,h3⟩:=h0 rfl
  exact ⟨_,rfl,.inr ⟨m,h,rfl,h2,h3⟩⟩
 ·exact ⟨_,rfl,.inl ⟨rfl,h1 rfl⟩⟩
theorem qDv {l:List (Int × Int)} (hl:l.length <= 1000):Ok (qsG (EPa l)) fun r=>(r = .inl (EPa l) /\ l.filter (fun p:Int × Int=>!decide (p.2 <= 0)) = l) \/ (∃ n w,r = .inr (n,w) /\ n <= w.length /\ w.take n = EPa (l.filter (fun p:Int × Int=>!decide (p.2 <= 0)))):=by
 rw [qFE,qv3]
 refine qax (qGn hl) ?_
 rintro y (⟨rfl,ha⟩ | ⟨i0,hi0,rfl,ha,hn⟩)
 ·exact qaE rfl (qah (.inl ⟨rfl,List.filter_eq_self.2 (List.all_eq_true.1 ha)⟩))
 refine qbN (by show ((i0:Int) == -1) = false; rw [beq_eq_false_iff_ne]; omega) ?_
 have hloop:Lo (qFZ ((i0:Int),((i0 + 1:Nat):Int),EPa l)) 1 (fun v=>∃ i b,FI (fun p:Int × Int=>!decide (p.2 <= 0)) l i l.length b /\ v = ((i:Int),(l.length:Int),EPa b)):=by
  rw [qu9]
  refine qdP (fun v=>∃ i j b,FI (fun p:Int × Int=>!decide (p.2 <= 0)) l i j b /\ v = ((i:Int),(j:Int),EPa b)) (fun v=>l.length - v.2.1.toNat) (fun k v=>k < 1 /\ ∃ i b,FI (fun p:Int × Int=>!decide (p.2 <= 0)) l i l.length b /\ v = ((i:Int),(l.length:Int),EPa b)) ?_ _ ⟨i0,i0 + 1,l,FI.start hi0 ha hn,rfl⟩
  rintro _ ⟨i,j,b,hF,rfl⟩
  have hb:=hF.len
  have hij:=hF.ij
  have hjn:=hF.jn
  show Ok (qn5 (i:Int) (j:Int) (EPa b)).ev _
  unfold qn5
  by_cases hlt:j < l.length
  ·have hjb:j < b.length:=by omega
   have hib:i < b.length:=by omega
   have ej:((j:Int)).toNat = j:=Int.toNat_natCast j
   have ei:((i:Int)).toNat = i:=Int.toNat_natCast i
   have eg:=hF.get hlt
   refine qaE (qlz hjb) (qaE (inE hjb) ?_)
   rw [ej,ei,qY2 hjb,qY3 hjb,eg]
   refine qaE (by rw [qsT hjb]; rfl) (qam (qz2 (l[j]).1 (l[j]).2) ?_)
   have ew:IntKind.i64.wrap ((j:Int) + 1) = ((j + 1:Nat):Int):=qbH hlt (by omega)
   have ew2:IntKind.i64.wrap ((i:Int) + 1) = ((i + 1:Nat):Int):=qbH (n:=i) (N:=l.length) (by omega) (by omega)
   rw [ew,ew2]
   have hm:l.length - (((j + 1:Nat):Int)).toNat < l.length - ((j:Int)).toNat:=by omega
   refine qao (fun hk=>?_) (fun hk=>?_)
   ·refine qaE (inE hib) (qaE (by rw [qsU hib]; rfl) (qbO ⟨⟨i + 1,j + 1,b.set i l[j],hF.more hlt hk,?_⟩,hm⟩))
    have es:qxu (EPa b) i 0 [AV.int IntKind.i64 ((l[j]).1),AV.int IntKind.i64 ((l[j]).2)] = EPa (b.set i l[j]):=qnZ hib (y:=l[j]) rfl
    show ((_,_,qxu (EPa b) i 0 [AV.int IntKind.i64 ((l[j]).1),AV.int IntKind.i64 ((l[j]).2)]):_) = _
    rw [es]
   ·exact qbO ⟨⟨i,j + 1,b,hF.less hlt hk,rfl⟩,hm⟩
  ·obtain rfl:j = l.length:=by omega
   exact qbN (by rw [List.length_map,hb]; exact decide_eq_false (by omega)) (qaQ ⟨by decide,i,b,hF,rfl⟩)
 have ew:IntKind.i64.wrap ((i0:Int) + 1) = ((i0 + 1:Nat):Int):=qbH hi0 (by omega)
 rw [ew]
 refine qvE hloop ?_
 rintro _ ⟨i,b,hF,rfl⟩
 have hb:=hF.len
 have hij:=hF.ij
 have ei:((i:Int)).toNat = i:=Int.toNat_natCast i
 obtain ⟨c1,c2⟩:=qsn (EPa b) (AV.agg [AV.int IntKind.i64 0,AV.int IntKind.i64 0]) (i:=i) (by rw [List.length_map]; omega)
 refine qaE (leE (by omega)) (qaE ?_ (qaE ?_ (qah (.inr ⟨i,_,?_,?_,c2.trans ?_⟩))))
 ·show decide (0 + ((i:Int)).toNat + qa9 (EPa b).length (0 + ((i:Int)).toNat) none <= (EPa b).length) = true
  rw [ei]
  have e:qa9 (EPa b).length (0 + i) none = (EPa b).length - (0 + i):=by cases hq:0 + i <;> rfl
  rw [e]
  refine decide_eq_true ?_
  rw [List.length_map]; omega
 ·show (leB (i:Int) (List.take (0 + ((i:Int)).toNat) (EPa b) ++ List.replicate (qa9 (EPa b).length (0 + ((i:Int)).toNat) none) (AV.agg [AV.int IntKind.i64 0,AV.int IntKind.i64 0]) ++ List.drop (0 + ((i:Int)).toNat + qa9 (EPa b).length (0 + ((i:Int)).toNat) none) (EPa b)).length && true && decide (0 + ((i:Int)).toNat <= (List.take (0 + ((i:Int)).toNat) (EPa b) ++ List.replicate (qa9 (EPa b).length (0 + ((i:Int)).toNat) none) (AV.agg [AV.int IntKind.i64 0,AV.int IntKind.i64 0]) ++ List.drop (0 + ((i:Int)).toNat + qa9 (EPa b).length (0 + ((i:Int)).toNat) none) (EPa b)).length)) = true
  rw [ei,c1,List.length_map,decide_eq_true (show 0 + i <= b.length by omega)]
  simp [leB]; omega
 ·show (.inr (((i:Int)).toNat - 0,List.take (0 + ((i:Int)).toNat) (EPa b) ++ List.replicate (qa9 (EPa b).length (0 + ((i:Int)).toNat) none) (AV.agg [AV.int IntKind.i64 0,AV.int IntKind.i64 0]) ++ List.drop (0 + ((i:Int)).toNat + qa9 (EPa b).length (0 + ((i:Int)).toNat) none) (EPa b)):Sum (List AV) (Nat × List AV)) = _
  rw [ei,Nat.sub_zero]
 ·rw [c1,List.length_map]; omega
 ·rw [<- List.map_take,hF.fin]
theorem qWE {l:List (Du)} {n:Nat} (h:n < l.length):intOf (qca (EDu l) n 0) = (l[n]).no:=by rw [qcB h]; rfl
theorem qWF {l:List (Du)} {n:Nat} (h:n < l.length):intOf (qca (EDu l) n 1) = (l[n]).day:=by rw [qcB h]; rfl
theorem qWG {l:List (Du)} {n:Nat} (h:n < l.length):intOf (qca (EDu l) n 2) = (l[n]).pr:=by rw [qcB h]; rfl
theorem qWH {l:List (Du)} {n:Nat} (h:n < l.length):intOf (qca (EDu l) n 3) = (l[n]).it:=by rw [qcB h]; rfl
theorem qFz {l:List (Du)} (hl:l.length <= 1000) (on:Int):Ok (qlZ (EDu l) on) fun y=>(y = -1 /\ l.all (fun d:Du=>!decide (d.day > on)) = true) \/ (∃ i:Nat,∃ h:i < l.length,y = (i:Int) /\ (l.take i).all (fun d:Du=>!decide (d.day > on)) = true /\ (fun d:Du=>!decide (d.day > on)) l[i] = false):=by
 have hloop:Lo' (qqp (EDu l,on,((EDu l).length:Int),0)) 2 (fun k w=>∃ m:Nat,m <= l.length /\ w = (EDu l,on,((EDu l).length:Int),(m:Int)) /\ ((k = 0 -> ∃ h:m < l.length,(l.take m).all (fun d:Du=>!decide (d.day > on)) = true /\ (fun d:Du=>!decide (d.day > on)) l[m] = false) /\ (k = 1 -> l.all (fun d:Du=>!decide (d.day > on)) = true))):=by
  rw [qqq]
  refine qkz (fun n:Nat=>(EDu l,on,((EDu l).length:Int),(n:Int))) l.length 2 (fun n=>(l.take n).all (fun d:Du=>!decide (d.day > on)) = true) (fun k m=>(k = 0 -> ∃ h:m < l.length,(l.take m).all (fun d:Du=>!decide (d.day > on)) = true /\ (fun d:Du=>!decide (d.day > on)) l[m] = false) /\ (k = 1 -> l.all (fun d:Du=>!decide (d.day > on)) = true)) (fun n hn hJ=>?_) 0 (Nat.zero_le _) rfl
  simp only [qn2,qrB]
  by_cases hlt:n < l.length
  ·refine qaE (qlz hlt) (qaE (qbV q1E hlt) ?_)
   rw [du0 hlt,du1 hlt,du2 hlt,du3 hlt]
   refine qam (qNE (l[n]).no (l[n]).day (l[n]).pr (l[n]).it on) (qao (fun hb=>qaQ ⟨by decide,fun _=>⟨hlt,hJ,?_⟩,fun h=>by omega⟩) (fun hb=>qbO ⟨⟨hlt,by rw [qbH hlt (by omega)]⟩,?_⟩))
   ·have:(decide ((l[n]).day > on)) = true:=hb
    show (!(decide ((l[n]).day > on))) = false
    rw [this]; rfl
   ·have:(decide ((l[n]).day > on)) = false:=hb
    rw [List.take_succ_eq_append_getElem hlt,List.all_append,hJ]
    show (true && ((!(decide ((l[n]).day > on))) && true)) = true
    rw [this]; rfl
  ·obtain rfl:n = l.length:=by omega
   refine qbN (qpj hlt) (qaQ ⟨by decide,fun h=>by omega,fun _=>by rwa [List.take_length] at hJ⟩)
 obtain ⟨⟨k,w⟩,hk,hk2,m,hm,rfl,h0,h1⟩:=hloop
 rw [qz5,qoo,hk]
 have hk3:k = 0 \/ k = 1:=by simp only at hk2; omega
 rcases hk3 with rfl | rfl
 ·obtain ⟨h,h2,h3⟩:=h0 rfl
  exact ⟨_,rfl,.inr ⟨m,h,rfl,h2,h3⟩⟩
 ·exact ⟨_,rfl,.inl ⟨rfl,h1 rfl⟩⟩
theorem qzM {l:List (Du)} (hl:l.length <= 1000) (on:Int):Ok (qPi (EDu l) on) fun r=>(r = .inl (EDu l,on) /\ l.filter (fun d:Du=>!decide (d.day > on)) = l) \/ (∃ n w,r = .inr (n,w,on) /\ n <= w.length /\ w.take n = EDu (l.filter (fun d:Du=>!decide (d.day > on)))):=by
 rw [qND,qGK]
 refine qax (qFz hl on) ?_
 rintro y (⟨rfl,ha⟩ | ⟨i0,hi0,rfl,ha,hn⟩)
 ·exact qaE rfl (qah (.inl ⟨rfl,List.filter_eq_self.2 (List.all_eq_true.1 ha)⟩))
 refine qbN (by show ((i0:Int) == -1) = false; rw [beq_eq_false_iff_ne]; omega) ?_
 have hloop:Lo (qu7 ((i0:Int),((i0 + 1:Nat):Int),EDu l,on)) 1 (fun v=>∃ i b,FI (fun d:Du=>!decide (d.day > on)) l i l.length b /\ v = ((i:Int),(l.length:Int),EDu b,on)):=by
  rw [qqo]
  refine qdP (fun v=>∃ i j b,FI (fun d:Du=>!decide (d.day > on)) l i j b /\ v = ((i:Int),(j:Int),EDu b,on)) (fun v=>l.length - v.2.1.toNat) (fun k v=>k < 1 /\ ∃ i b,FI (fun d:Du=>!decide (d.day > on)) l i l.length b /\ v = ((i:Int),(l.length:Int),EDu b,on)) ?_ _ ⟨i0,i0 + 1,l,FI.start hi0 ha hn,rfl⟩
  rintro _ ⟨i,j,b,hF,rfl⟩
  have hb:=hF.len
  have hij:=hF.ij
  have hjn:=hF.jn
  show Ok (qkS (i:Int) (j:Int) (EDu b) on).ev _
  unfold qkS
  by_cases hlt:j < l.length
  ·have hjb:j < b.length:=by omega
   have hib:i < b.length:=by omega
   have ej:((j:Int)).toNat = j:=Int.toNat_natCast j
   have ei:((i:Int)).toNat = i:=Int.toNat_natCast i
   have eg:=hF.get hlt
   refine qaE (qlz hjb) (qaE (inE hjb) ?_)
   rw [ej,ei,qWE hjb,qWF hjb,qWG hjb,qWH hjb,eg]
   refine qaE (by rw [qsT hjb]; rfl) (qam (qFB (l[j]).no (l[j]).day (l[j]).pr (l[j]).it on) ?_)
   have ew:IntKind.i64.wrap ((j:Int) + 1) = ((j + 1:Nat):Int):=qbH hlt (by omega)
   have ew2:IntKind.i64.wrap ((i:Int) + 1) = ((i + 1:Nat):Int):=qbH (n:=i) (N:=l.length) (by omega) (by omega)
   rw [ew,ew2]
   have hm:l.length - (((j + 1:Nat):Int)).toNat < l.length - ((j:Int)).toNat:=by omega
   refine qao (fun hk=>?_) (fun hk=>?_)
   ·refine qaE (inE hib) (qaE (by rw [qsU hib]; rfl) (qbO ⟨⟨i + 1,j + 1,b.set i l[j],hF.more hlt hk,?_⟩,hm⟩))
    have es:qxu (EDu b) i 0 [AV.int IntKind.i64 ((l[j]).no),AV.int IntKind.i64 ((l[j]).day),AV.int IntKind.i64 ((l[j]).pr),AV.int IntKind.i64 ((l[j]).it)] = EDu (b.set i l[j]):=qnZ hib (y:=l[j]) rfl
    show ((_,_,qxu (EDu b) i 0 [AV.int IntKind.i64 ((l[j]).no),AV.int IntKind.i64 ((l[j]).day),AV.int IntKind.i64 ((l[j]).pr),AV.int IntKind.i64 ((l[j]).it)],on):_) = _
    rw [es]
   ·exact qbO ⟨⟨i,j + 1,b,hF.less hlt hk,rfl⟩,hm⟩
  ·obtain rfl:j = l.length:=by omega
   exact qbN (by rw [List.length_map,hb]; exact decide_eq_false (by omega)) (qaQ ⟨by decide,i,b,hF,rfl⟩)
 have ew:IntKind.i64.wrap ((i0:Int) + 1) = ((i0 + 1:Nat):Int):=qbH hi0 (by omega)
 rw [ew]
 refine qvE hloop ?_
 rintro _ ⟨i,b,hF,rfl⟩
 have hb:=hF.len
 have hij:=hF.ij
 have ei:((i:Int)).toNat = i:=Int.toNat_natCast i
 obtain ⟨c1,c2⟩:=qsn (EDu b) (AV.agg [AV.int IntKind.i64 0,AV.int IntKind.i64 0,AV.int IntKind.i64 0,AV.int IntKind.i64 0]) (i:=i) (by rw [List.length_map]; omega)
 refine qaE (leE (by omega)) (qaE ?_ (qaE ?_ (qah (.inr ⟨i,_,?_,?_,c2.trans ?_⟩))))
 ·show decide (0 + ((i:Int)).toNat + qa9 (EDu b).length (0 + ((i:Int)).toNat) none <= (EDu b).length) = true
  rw [ei]
  have e:qa9 (EDu b).length (0 + i) none = (EDu b).length - (0 + i):=by cases hq:0 + i <;> rfl
  rw [e]
  refine decide_eq_true ?_
  rw [List.length_map]; omega
 ·show (leB (i:Int) (List.take (0 + ((i:Int)).toNat) (EDu b) ++ List.replicate (qa9 (EDu b).length (0 + ((i:Int)).toNat) none) (AV.agg [AV.int IntKind.i64 0,AV.int IntKind.i64 0,AV.int IntKind.i64 0,AV.int IntKind.i64 0]) ++ List.drop (0 + ((i:Int)).toNat + qa9 (EDu b).length (0 + ((i:Int)).toNat) none) (EDu b)).length && true && decide (0 + ((i:Int)).toNat <= (List.take (0 + ((i:Int)).toNat) (EDu b) ++ List.replicate (qa9 (EDu b).length (0 + ((i:Int)).toNat) none) (AV.agg [AV.int IntKind.i64 0,AV.int IntKind.i64 0,AV.int IntKind.i64 0,AV.int IntKind.i64 0]) ++ List.drop (0 + ((i:Int)).toNat + qa9 (EDu b).length (0 + ((i:Int)).toNat) none) (EDu b)).length)) = true
  rw [ei,c1,List.length_map,decide_eq_true (show 0 + i <= b.length by omega)]
  simp [leB]; omega
 ·show (.inr (((i:Int)).toNat - 0,List.take (0 + ((i:Int)).toNat) (EDu b) ++ List.replicate (qa9 (EDu b).length (0 + ((i:Int)).toNat) none) (AV.agg [AV.int IntKind.i64 0,AV.int IntKind.i64 0,AV.int IntKind.i64 0,AV.int IntKind.i64 0]) ++ List.drop (0 + ((i:Int)).toNat + qa9 (EDu b).length (0 + ((i:Int)).toNat) none) (EDu b),on):Sum (List AV × Int) (Nat × List AV × Int)) = _
  rw [ei,Nat.sub_zero]
 ·rw [c1,List.length_map]; omega
 ·rw [<- List.map_take,hF.fin]
end Go.Proofs.H35
namespace Go.Proofs.H35
open Go Go.Eng Go.Tk
set_option maxRecDepth 20000
theorem qTw {w:List AV} {n:Nat}:qcF [(32,Blk.arr 2 w false)] qbl (AV.own 32 0 (some n)) = decide (0 + n <= w.length):=rfl
theorem qTx {w:List AV} {b:Blk} {n:Nat}:qcF [(48,Blk.arr 4 w false),(0,b)] qbl (AV.own 48 0 (some n)) = decide (0 + n <= w.length):=rfl
theorem qOw {w:List AV} {b:Blk} {n:Nat}:qcF [(496,Blk.arr 2 w false),(0,b)] qbl (AV.own 496 0 (some n)) = decide (0 + n <= w.length):=rfl
theorem qDm {l:List (Int × Int)} (h0:l ≠ []) (hl:l.length <= 1000):qqg (EPa l) = some (EPa (l.filter fun p=>p.2 != 0)):=by
 have hlen:l.length ≠ 0:=fun h=>h0 (List.eq_nil_of_length_eq_zero h)
 rw [qAX,qpf]
 rw [ev_br,List.length_map,decide_eq_false hlen,cond_false,ev_br,decide_eq_true hlen,decide_eq_true (show l.length * 16 <= lim by unfold lim; omega)]
 obtain ⟨r,hr,⟨rfl,hf⟩ | ⟨n,w,rfl,hn,hw⟩⟩:=qDw hl
 ·rw [hr]
  show some (EPa l) = _
  have:l.filter (fun p=>p.2 != 0) = l:=hf
  rw [this]
 ·rw [hr]
  show (DT.br (qcF [(32,Blk.arr 2 w false)] qbl (AV.own 32 0 (some n))) (.at (List.take n w)) .no:DT qyi).ev = _
  rw [qTw,ev_br,decide_eq_true (show 0 + n <= w.length by omega),cond_true,ev_at,hw]
  rfl
theorem qu5 (D:List Du) (on:Int):(D.filter fun d:Du=>!decide (d.day > on)) = qaO D on:=by
 unfold qaO
 congr 1
 funext d
 by_cases h:d.day <= on
 ·rw [decide_eq_true h,decide_eq_false (show ¬ d.day > on by omega)]; rfl
 ·rw [decide_eq_false h,decide_eq_true (show d.day > on by omega)]; rfl
theorem qNC {D:List Du} (h0:1 <= D.length) (hl:D.length <= 1000) (on:Int):f32 (EDu D) on = some (EDu (qaO D on)):=by
 rw [qR9,qVb]
 rw [ev_br,List.length_map,decide_eq_false (show ¬ D.length = 0 by omega),cond_false,ev_br,decide_eq_true (show D.length ≠ 0 by omega),decide_eq_true (show D.length * 32 <= lim by unfold lim; omega)]
 obtain ⟨r,hr,⟨rfl,hf⟩ | ⟨n,w,rfl,hn,hw⟩⟩:=qzM hl on
 ·rw [hr]
  show some (EDu D) = _
  rw [qu5] at hf
  rw [hf]
 ·rw [hr]
  show (DT.br (qcF [(48,Blk.arr 4 w false),(0,Blk.box [AV.int IntKind.i64 on] false)] qbl (AV.own 48 0 (some n))) (.at (List.take n w)) .no:DT B32).ev = _
  rw [qTx,ev_br,decide_eq_true (show 0 + n <= w.length by omega),cond_true,ev_at,hw,qu5]
section
variable {st pp pi t0 t1 t2 t3 t4 t5 t6 t7 t8 t9:Int} {c u:Bs} {D:List Du}
theorem qvH (hD:D.all qci = true) (h0:1 <= D.length) (hl:D.length <= 1000) (p0:0 <= pp) (p1:pp <= 1000000000000000) (i0:0 <= pi) (i1:pi <= 1000000000000000) (on:Int) :
  f12 7 1000 st pp pi 0 0 t3 0 0 0 t0 t1 t2 t3 t4 t5 t6 t7 t8 t9 c u (EDu D) [] on = some (EPa (owL (duI (qaO D on) - pi) (duP (qaO D on) - pp))):=by
 have hF:=qnk on hD
 have hFl:(qaO D on).length <= 1000:=Nat.le_trans (List.length_filter_le _ _) hl
 have hb:=qbh hF hFl (qaO D on).length
 rw [List.take_length] at hb
 rw [qR8,qVa,qNC h0 hl,ev_bi_some,qcX hF hFl,ev_bi_some]
 have e1:IntKind.i64.wrap (duI (qaO D on) - pi) = duI (qaO D on) - pi:=Go.Eng.wrap64 (by omega) (by omega)
 have e2:IntKind.i64.wrap (duP (qaO D on) - pp) = duP (qaO D on) - pp:=Go.Eng.wrap64 (by omega) (by omega)
 simp only [e1,e2]
 obtain ⟨r,hr,hh⟩:=qDv (l:=[(1,0),(2,0),(3,duI (qaO D on) - pi),(4,duP (qaO D on) - pp)]) (by simp)
 have hr':qsG [AV.agg [AV.int IntKind.i64 1,AV.int IntKind.i64 0],AV.agg [AV.int IntKind.i64 2,AV.int IntKind.i64 0],AV.agg [AV.int IntKind.i64 3,AV.int IntKind.i64 (duI (qaO D on) - pi)],AV.agg [AV.int IntKind.i64 4,AV.int IntKind.i64 (duP (qaO D on) - pp)]] = some r:=hr
 rw [hr']
 rcases hh with ⟨rfl,hf⟩ | ⟨n,w,rfl,hn,hw⟩
 ·show some (EPa _) = _
  unfold owL
  rw [hf]
 ·show (DT.br (qcF [(496,Blk.arr 2 w false),(0,_)] qbl (AV.own 496 0 (some n))) (.at (List.take n w)) .no:DT B12).ev = _
  rw [qOw,ev_br,decide_eq_true (show 0 + n <= w.length by omega),cond_true,ev_at,hw]
  rfl
def qPm (T U:List Du) (o:Du):List Du:=match U with
 | []=>T
 | _ :: _=>T ++ [o]
theorem qA3 (D:List Du) (on:Int) (s:Ln):qg9 D on s = qPm (D.take (qaO D on).length) (D.drop (qaO D on).length) (qh1 D on s):=rfl
theorem qSt (a b:Int):(if a > b then a else b) = max b a:=by split <;> omega
theorem qFN {on n fee:Int} (hc:qpi D t1 ⟨st,pp,pi⟩ = true) (hl:D.length <= 240) (hq:qgk 7 1000 st pp pi 0 0 t3 0 0 0 t0 t1 t2 t3 t4 t5 t6 t7 t8 t9 c u (EDu D) [] on = some (7,1000,st,pp,pi,0,0,t3,0,0,0,t0,t1,t2,t3,t4,t5,t6,t7,t8,t9,c,u,EDu D,[],EDu (D.take (qaO D on).length),EDu (D.drop (qaO D on).length),n,fee,0))
  (h1:0 <= (qh1 D on ⟨st,pp,pi⟩).pr /\ (qh1 D on ⟨st,pp,pi⟩).pr <= 1000000000000) (h2:0 <= (qh1 D on ⟨st,pp,pi⟩).it /\ (qh1 D on ⟨st,pp,pi⟩).it <= 1000000000000) (hon:0 <= on /\ on <= 73048) :
  qfa 7 1000 st pp pi 0 0 t3 0 0 0 t0 t1 t2 t3 t4 t5 t6 t7 t8 t9 c u (EDu D) [] on = some (7,1000,2,duP (qg9 D on ⟨st,pp,pi⟩),duI (qg9 D on ⟨st,pp,pi⟩),0,0,t3,0,0,0,t0,t1,t2,t3,t4,t5,t6,t7,t8,t9,c,u,EDu (qg9 D on ⟨st,pp,pi⟩),[],EPa (qvT (IntKind.i64.wrap (0 + fee)) (qtI D on ⟨st,pp,pi⟩) (duP D - pp)),0):=by
 obtain ⟨⟨hp0,hi0⟩,⟨hl1,_⟩,hD,ho,hpl,hil,hS⟩:=qe7 hc
 simp only at hp0 hi0 hpl hil
 have hF:=qiO hD (qaO D on).length
 have hR:=qup hD (qaO D on).length
 have hFl:(D.take (qaO D on).length).length <= 1000:=by rw [List.length_take]; omega
 have hRl:(D.drop (qaO D on).length).length <= 1000:=by rw [List.length_drop]; omega
 have hb:=qbh hD (show D.length <= 1000 by omega) D.length
 rw [List.take_length] at hb
 have hbF:=qbh hF hFl (D.take (qaO D on).length).length
 rw [List.take_length] at hbF
 have hlen:(D.take (qaO D on).length).length + (D.drop (qaO D on).length).length = D.length:=by rw [<- List.length_append,List.take_append_drop]
 have hint:=qit (st:=st) (pp:=pp) (pi:=pi) (t0:=t0) (t1:=t1) (t2:=t2) (t3:=t3) (t4:=t4) (t5:=t5) (t6:=t6) (t7:=t7) (t8:=t8) (t9:=t9) (c:=c) (u:=u) (D:=D) hF hFl hR hi0 (by omega)
 have hnx:=qvA (st:=st) (pp:=pp) (pi:=pi) (t0:=t0) (t1:=t1) (t2:=t2) (t3:=t3) (t4:=t4) (t5:=t5) (t6:=t6) (t7:=t7) (t8:=t8) (t9:=t9) (c:=c) (u:=u) (D:=D) (D.take (qaO D on).length) (D.drop (qaO D on).length)
 have hout:=qcf (st:=st) (pp:=pp) (pi:=pi) (t0:=t0) (t1:=t1) (t2:=t2) (t3:=t3) (t4:=t4) (t5:=t5) (t6:=t6) (t7:=t7) (t8:=t8) (t9:=t9) (c:=c) (u:=u) (D:=D) (show D.length <= 1000 by omega) hD hp0 hpl
 have hparts:=qDm (l:=[(1,IntKind.i64.wrap (0 + fee)),(2,0),(3,qtI D on ⟨st,pp,pi⟩),(4,duP D - pp)]) (by simp) (by simp)
 have hset:EPa (qvT (IntKind.i64.wrap (0 + fee)) (qtI D on ⟨st,pp,pi⟩) (duP D - pp)) = EPa (List.filter (fun p:Int × Int=>p.2 != 0) [(1,IntKind.i64.wrap (0 + fee)),(2,0),(3,qtI D on ⟨st,pp,pi⟩),(4,duP D - pp)]):=rfl
 have hone:qci (qh1 D on ⟨st,pp,pi⟩) = true:=by
  unfold qci
  simp only [Bool.and_eq_true,decide_eq_true_eq]
  exact ⟨hon.1,hon.2,h1.1,h1.2,h2.1,h2.2⟩
 rw [hset]
 obtain ⟨r,hr,rfl⟩:Ok (qfa 7 1000 st pp pi 0 0 t3 0 0 0 t0 t1 t2 t3 t4 t5 t6 t7 t8 t9 c u (EDu D) [] on) fun r=>r = (7,1000,2,duP (qg9 D on ⟨st,pp,pi⟩),duI (qg9 D on ⟨st,pp,pi⟩),0,0,t3,0,0,0,t0,t1,t2,t3,t4,t5,t6,t7,t8,t9,c,u,EDu (qg9 D on ⟨st,pp,pi⟩),[],EPa (List.filter (fun p:Int × Int=>p.2 != 0) [(1,IntKind.i64.wrap (0 + fee)),(2,0),(3,qtI D on ⟨st,pp,pi⟩),(4,duP D - pp)]),0):=by
  rw [qlQ,qho]
  refine qam hq (qbN rfl (qam hint (qam hout (qam hparts ?_))))
  generalize hT:D.take (qaO D on).length = T at hF hFl hbF hlen hnx hint ⊢
  have hF1:=hF
  generalize hU:D.drop (qaO D on).length = U at hR hRl hlen hnx hint ⊢
  have hqT:(qh1 D on ⟨st,pp,pi⟩) = ⟨(T.length:Int) + 1,on,duP U,max (nxI U) (pi - duI T)⟩:=by unfold qh1; rw [hT,hU]
  have hful:qg9 D on ⟨st,pp,pi⟩ = qPm T U (qh1 D on ⟨st,pp,pi⟩):=by rw [qA3,hT,hU]
  rw [hful]
  rw [hqT] at h1 h2 hone ⊢
  simp only at h1 h2
  have ev1:qbL (duP U) = some true:=by rw [qce,decide_eq_true (show duP U >= -1000000000000 by omega),decide_eq_true h1.2]; rfl
  have hw:IntKind.i64.wrap (pi - duI T) = pi - duI T:=Go.Eng.wrap64 (by omega) (by omega)
  have evx:∀ x:Int × Int × Int × Int,x.2.2.2 = nxI U -> (if IntKind.i64.wrap (pi - (duP T,duI T).2) > x.2.2.2 then IntKind.i64.wrap (pi - (duP T,duI T).2) else x.2.2.2) = max (nxI U) (pi - duI T):=by
   intro x hx
   show (if IntKind.i64.wrap (pi - duI T) > x.2.2.2 then IntKind.i64.wrap (pi - duI T) else x.2.2.2) = _
   rw [hx,hw,qSt]
  have ev2:qbL (max (nxI U) (pi - duI T)) = some true:=by rw [qce,decide_eq_true (show max (nxI U) (pi - duI T) >= -1000000000000 by omega),decide_eq_true h2.2]; rfl
  have hM:=evx (nxT U) (qCo U)
  obtain ⟨one,h1e⟩:∃ one:Du,one = ⟨(T.length:Int) + 1,on,duP U,max (nxI U) (pi - duI T)⟩:=⟨_,rfl⟩
  rw [<- h1e] at hone ⊢
  have ecell:∀ k:Int,k = (T.length:Int) + 1 -> AV.agg [AV.int IntKind.i64 k,AV.int IntKind.i64 on,AV.int IntKind.i64 (duP U,duI U).1,AV.int IntKind.i64 (if IntKind.i64.wrap (pi - (duP T,duI T).2) > (nxT U).2.2.2 then IntKind.i64.wrap (pi - (duP T,duI T).2) else (nxT U).2.2.2)] = one.av:=by
   intro k hk
   rw [hM,h1e,hk]; rfl
  have e8:br (!true) (some true) (br (sm (qbL (if IntKind.i64.wrap (pi - (duP T,duI T).2) > (nxT U).2.2.2 then IntKind.i64.wrap (pi - (duP T,duI T).2) else (nxT U).2.2.2)))
    (some !gv (qbL (if IntKind.i64.wrap (pi - (duP T,duI T).2) > (nxT U).2.2.2 then IntKind.i64.wrap (pi - (duP T,duI T).2) else (nxT U).2.2.2))) none) = some false:=by
   rw [hM,ev2]; rfl
  by_cases hT0:T.length = 0
  ·obtain rfl:T = []:=List.eq_nil_of_length_eq_zero hT0
   have hU1:(decide (((EDu U).length:Int) > 0)) = true:=by rw [List.length_map]; exact decide_eq_true (by simp only [List.length_nil] at hlen; omega)
   have hfu:qPm [] U one = [one]:=by
    cases U with
    | nil=>simp at hlen; omega
    | cons d U=>rfl
   rw [hfu]
   have e1:=ecell (IntKind.i64.wrap (0 + 1)) rfl
   have eT:qbI (EDu [one]) = some (duP [one],duI [one]):=qcg (by simp [hone]) (by simp)
   refine qaE rfl (qaE hU1 (qam (qcg hR hRl) (qam (qcg hF hFl) (qam hnx (qam ev1 (qam e8 (qbN rfl (qaE rfl ?_))))))))
   refine qam (b:=(duP [one],duI [one])) ?_ (qah ?_)
   ·refine Eq.trans ?_ eT
    exact congrArg (fun x=>qbI [x]) e1
   ·exact congrArg (fun x=>((7,1000,2,duP [one],duI [one],0,0,t3,0,0,0,t0,t1,t2,t3,t4,t5,t6,t7,t8,t9,c,u,[x],[],EPa (List.filter (fun p:Int × Int=>p.2 != 0) [(1,IntKind.i64.wrap (0 + fee)),(2,0),(3,qtI D on ⟨st,pp,pi⟩),(4,duP D - pp)]),0):qjx)) e1
  ·have hc1:(decide ((EDu T).length ≠ 0) && decide ((EDu T).length * 32 <= lim)) = true:=by
    rw [List.length_map,decide_eq_true hT0,decide_eq_true (show T.length * 32 <= lim by unfold lim; omega)]; rfl
   have hc0:decide ((EDu T).length = 0) = false:=by rw [List.length_map]; exact decide_eq_false hT0
   cases U with
   | nil=>
    refine qbN hc0 (qaE hc1 (qbN rfl (qaE rfl (qam (qcg hF hFl) (qah rfl)))))
   | cons d U=>
    have hfu:qPm T (d :: U) one = T ++ [one]:=rfl
    rw [hfu]
    have ek:IntKind.i64.wrap (((EDu T).length:Int) + 1) = (T.length:Int) + 1:=by rw [List.length_map]; exact Go.Eng.wrap64 (by omega) (by omega)
    have e1:=ecell (IntKind.i64.wrap (((EDu T).length:Int) + 1)) ek
    have hall:(T ++ [one]).all qci = true:=by rw [List.all_append,hF1]; simp [hone]
    have eT:qbI (EDu (T ++ [one])) = some (duP (T ++ [one]),duI (T ++ [one])):=qcg hall (by rw [List.length_append]; simp only [List.length_cons,List.length_nil] at hlen ⊢; omega)
    have eA:EDu (T ++ [one]) = EDu T ++ [one.av]:=qyj _ _
    have hroom:room ((EDu T).length + 1) 32 = true:=by
     have:((EDu T).length + 1) * 32 <= lim:=by rw [List.length_map]; unfold lim; omega
     exact decide_eq_true this
    have hU1:(decide (((EDu (d :: U)).length:Int) > 0)) = true:=decide_eq_true (by simp only [List.length_map,List.length_cons]; omega)
    refine qbN hc0 (qaE hc1 (qaE hU1 (qam (qcg hR hRl) (qam (qcg hF hFl) (qam hnx (qam ev1 (qam e8 (qbN rfl (qaE hroom (qaE rfl ?_))))))))))
    refine qam (b:=(duP (T ++ [one]),duI (T ++ [one]))) ?_ (qah ?_)
    ·refine Eq.trans ?_ eT
     rw [eA]
     exact congrArg (fun x=>qbI (EDu T ++ [x])) e1
    ·rw [eA]
     exact congrArg (fun x=>((7,1000,2,duP (T ++ [one]),duI (T ++ [one]),0,0,t3,0,0,0,t0,t1,t2,t3,t4,t5,t6,t7,t8,t9,c,u,EDu T ++ [x],[],EPa (List.filter (fun p:Int × Int=>p.2 != 0) [(1,IntKind.i64.wrap (0 + fee)),(2,0),(3,qtI D on ⟨st,pp,pi⟩),(4,duP D - pp)]),0):qjx)) e1
 exact hr
end
end Go.Proofs.H35
namespace Go.Proofs.H35P
open Go Go.Eng Go.Tk Go.Proofs.H35
set_option maxRecDepth 20000
open Classical in
noncomputable def isC (f:Nat) (a:List AV) (h:Eng.Heap) (r:Res) (h':Eng.Heap):Bool:=decide (qal IP f a h = some (r,h'))
open Classical in
theorem qf7 {f:Nat} {a:List AV} {h:Eng.Heap} {r:Res} {h':Eng.Heap} (hc:isC f a h r h' = true):qal IP f a h = some (r,h'):=by
 unfold isC at hc; exact of_decide_eq_true hc
open Classical in
theorem qeU {f:Nat} {a:List AV} {h:Eng.Heap} {r:Res} {h':Eng.Heap} (hc:qal IP f a h = some (r,h')):isC f a h r h' = true:=by
 unfold isC; exact decide_eq_true hc
noncomputable def F7:Fun:=qav Tryz.prog [(7,2)] [] Tryz.f7
def lnC (x0 x1 x2 x3 x4 x5 x6 x7 x8 x9 x10 x11 x12 x13 x14 x15 x16 x17 x18 x19 x20:Int) (x21 x22:List UInt8) (x23 x24:List AV):AV:=.agg [.int .i64 x0,.int .i64 x1,.int .i64 x2,.int .i64 x3,.int .i64 x4,.int .i64 x5,.int .i64 x6,.int .i64 x7,.int .i64 x8,.int .i64 x9,.int .i64 x10,.int .i64 x11,.int .i64 x12,.int .i64 x13,.int .i64 x14,.int .i64 x15,.int .i64 x16,.int .i64 x17,.int .i64 x18,.int .i64 x19,.int .i64 x20,.str x21,.str x22,.view 4 x23,.view 14 x24]
open Classical in
noncomputable def qJV (x0 x1 x2 x3 x4 x5 x6 x7 x8 x9 x10 x11 x12 x13 x14 x15 x16 x17 x18 x19 x20:Int) (x21 x22:List UInt8) (x23 x24:List AV):Int:=if h:∃ e,e ≠ 0 /\ qal IP 18 [lnC x0 x1 x2 x3 x4 x5 x6 x7 x8 x9 x10 x11 x12 x13 x14 x15 x16 x17 x18 x19 x20 x21 x22 x23 x24] [] = some (.ret (.int .i64 e),[]) then h.choose else 1
open Classical in
noncomputable def qay (x0 x1 x2 x3 x4 x5 x6 x7 x8 x9 x10 x11 x12 x13 x14 x15 x16 x17 x18 x19 x20:Int) (x21 x22:List UInt8) (x23 x24:List AV) (on:Int):List AV:=if h:∃ w,qal IP 12 [lnC x0 x1 x2 x3 x4 x5 x6 x7 x8 x9 x10 x11 x12 x13 x14 x15 x16 x17 x18 x19 x20 x21 x22 x23 x24,.int .i64 on] [] = some (.ret (.view 2 w),[]) then h.choose else []
def qMI (k:Int):List AV -> Int
 | []=>0
 | .agg [.int _ a,.int _ b] :: l=>if a = k then b else qMI k l
 | _ :: l=>qMI k l
def qXb (a b:Int):Int:=if a < b then a else b
def mk (k:Int) (w:List AV) (l:Int):Int:=qXb (qMI k w) l
def bx0 (l:Int) (w:List AV):Eng.Heap:=[(0,.box [.int .i64 l,.view 2 w,.nils ⟨2,.nil⟩] false)]
def bx1 (n:Nat) (l:Int) (w es:List AV):Eng.Heap:=[(0,.box [.int .i64 l,.view 2 w,.own n 0 none] false),(n,.arr 2 es false)]
noncomputable def chK (x0 x1 x2 x3 x4 x5 x6 x7 x8 x9 x10 x11 x12 x13 x14 x15 x16 x17 x18 x19 x20:Int) (x21 x22:List UInt8) (x23 x24:List AV):Bool:=isC 18 [lnC x0 x1 x2 x3 x4 x5 x6 x7 x8 x9 x10 x11 x12 x13 x14 x15 x16 x17 x18 x19 x20 x21 x22 x23 x24] [] (.ret (.int .i64 0)) []
noncomputable def chN (x0 x1 x2 x3 x4 x5 x6 x7 x8 x9 x10 x11 x12 x13 x14 x15 x16 x17 x18 x19 x20:Int) (x21 x22:List UInt8) (x23 x24:List AV):Bool:=isC 18 [lnC x0 x1 x2 x3 x4 x5 x6 x7 x8 x9 x10 x11 x12 x13 x14 x15 x16 x17 x18 x19 x20 x21 x22 x23 x24] [] (.ret (.int .i64 (qJV x0 x1 x2 x3 x4 x5 x6 x7 x8 x9 x10 x11 x12 x13 x14 x15 x16 x17 x18 x19 x20 x21 x22 x23 x24))) []
noncomputable def dyK (n:Int) (b:Bool):Bool:=isC 19 [.int .i64 n] [] (.ret (.bool b)) []
noncomputable def owK (x0 x1 x2 x3 x4 x5 x6 x7 x8 x9 x10 x11 x12 x13 x14 x15 x16 x17 x18 x19 x20:Int) (x21 x22:List UInt8) (x23 x24:List AV) (on:Int):Bool:=isC 12 [lnC x0 x1 x2 x3 x4 x5 x6 x7 x8 x9 x10 x11 x12 x13 x14 x15 x16 x17 x18 x19 x20 x21 x22 x23 x24,.int .i64 on] [] (.ret (.view 2 (qay x0 x1 x2 x3 x4 x5 x6 x7 x8 x9 x10 x11 x12 x13 x14 x15 x16 x17 x18 x19 x20 x21 x22 x23 x24 on))) []
noncomputable def lfK (x0 x1 x2 x3 x4 x5 x6 x7 x8 x9 x10 x11 x12 x13 x14 x15 x16 x17 x18 x19 x20:Int) (x21 x22:List UInt8) (x23 x24:List AV) (b:Bool):Bool:=isC 22 [lnC x0 x1 x2 x3 x4 x5 x6 x7 x8 x9 x10 x11 x12 x13 x14 x15 x16 x17 x18 x19 x20 x21 x22 x23 x24] [] (.ret (.bool b)) []
noncomputable def fiK (l:Int) (w:List AV) (k:Int):Bool:=isC 20 [.ref 0 0 0] (bx0 l w) (.ret (.int .i64 k)) (bx0 l w)
noncomputable def t0K (l:Int) (w:List AV) (k:Int):Bool:=isC 21 [.ref 0 0 0,.int .i64 k] (bx0 l w) (.ret (.int .i64 (mk k w l))) (bx1 1 (IntKind.i64.wrap (l - mk k w l)) w [.agg [.int .i64 k,.int .i64 (mk k w l)]])
noncomputable def t1K (l:Int) (w es:List AV) (k:Int):Bool:=isC 21 [.ref 0 0 0,.int .i64 k] (bx1 1 l w es) (.ret (.int .i64 (mk k w l))) (bx1 2 (IntKind.i64.wrap (l - mk k w l)) w (es ++ [.agg [.int .i64 k,.int .i64 (mk k w l)]]))
noncomputable def t2K (l:Int) (w es:List AV) (k:Int):Bool:=isC 21 [.ref 0 0 0,.int .i64 k] (bx1 1 l w es) (.ret (.int .i64 0)) (bx1 1 l w es)
noncomputable def qWh:Ent:=fun a h=>match a,h with
 | [.agg [.int .i64 x0,.int .i64 x1,.int .i64 x2,.int .i64 x3,.int .i64 x4,.int .i64 x5,.int .i64 x6,.int .i64 x7,.int .i64 x8,.int .i64 x9,.int .i64 x10,.int .i64 x11,.int .i64 x12,.int .i64 x13,.int .i64 x14,.int .i64 x15,.int .i64 x16,.int .i64 x17,.int .i64 x18,.int .i64 x19,.int .i64 x20,.str x21,.str x22,.view 4 x23,.view 14 x24]],[]=>[(chK x0 x1 x2 x3 x4 x5 x6 x7 x8 x9 x10 x11 x12 x13 x14 x15 x16 x17 x18 x19 x20 x21 x22 x23 x24,.ret (.int .i64 0),[]),(chN x0 x1 x2 x3 x4 x5 x6 x7 x8 x9 x10 x11 x12 x13 x14 x15 x16 x17 x18 x19 x20 x21 x22 x23 x24,.ret (.int .i64 (qJV x0 x1 x2 x3 x4 x5 x6 x7 x8 x9 x10 x11 x12 x13 x14 x15 x16 x17 x18 x19 x20 x21 x22 x23 x24)),[])]
 | _,_=>[]
noncomputable def qWA:Ent:=fun a h=>match a,h with
 | [.int .i64 n],[]=>[(dyK n true,.ret (.bool true),[]),(dyK n false,.ret (.bool false),[])]
 | _,_=>[]
noncomputable def qYV:Ent:=fun a h=>match a,h with
 | [.agg [.int .i64 x0,.int .i64 x1,.int .i64 x2,.int .i64 x3,.int .i64 x4,.int .i64 x5,.int .i64 x6,.int .i64 x7,.int .i64 x8,.int .i64 x9,.int .i64 x10,.int .i64 x11,.int .i64 x12,.int .i64 x13,.int .i64 x14,.int .i64 x15,.int .i64 x16,.int .i64 x17,.int .i64 x18,.int .i64 x19,.int .i64 x20,.str x21,.str x22,.view 4 x23,.view 14 x24],.int .i64 n],[]=>[(owK x0 x1 x2 x3 x4 x5 x6 x7 x8 x9 x10 x11 x12 x13 x14 x15 x16 x17 x18 x19 x20 x21 x22 x23 x24 n,.ret (.view 2 (qay x0 x1 x2 x3 x4 x5 x6 x7 x8 x9 x10 x11 x12 x13 x14 x15 x16 x17 x18 x19 x20 x21 x22 x23 x24 n)),[])]
 | _,_=>[]
noncomputable def qW4:Ent:=fun a h=>match a,h with
 | [.agg [.int .i64 x0,.int .i64 x1,.int .i64 x2,.int .i64 x3,.int .i64 x4,.int .i64 x5,.int .i64 x6,.int .i64 x7,.int .i64 x8,.int .i64 x9,.int .i64 x10,.int .i64 x11,.int .i64 x12,.int .i64 x13,.int .i64 x14,.int .i64 x15,.int .i64 x16,.int .i64 x17,.int .i64 x18,.int .i64 x19,.int .i64 x20,.str x21,.str x22,.view 4 x23,.view 14 x24]],[]=>[(lfK x0 x1 x2 x3 x4 x5 x6 x7 x8 x9 x10 x11 x12 x13 x14 x15 x16 x17 x18 x19 x20 x21 x22 x23 x24 true,.ret (.bool true),[]),(lfK x0 x1 x2 x3 x4 x5 x6 x7 x8 x9 x10 x11 x12 x13 x14 x15 x16 x17 x18 x19 x20 x21 x22 x23 x24 false,.ret (.bool false),[])]
 | _,_=>[]
noncomputable def qWL:Ent:=fun a h=>match a,h with
 | [.ref 0 0 0],[(0,.box [.int .i64 l,.view 2 w,.nils ⟨2,.nil⟩] false)]=>[(fiK l w 5,.ret (.int .i64 5),[(0,.box [.int .i64 l,.view 2 w,.nils ⟨2,.nil⟩] false)]),(fiK l w 3,.ret (.int .i64 3),[(0,.box [.int .i64 l,.view 2 w,.nils ⟨2,.nil⟩] false)]),(fiK l w 4,.ret (.int .i64 4),[(0,.box [.int .i64 l,.view 2 w,.nils ⟨2,.nil⟩] false)])]
 | _,_=>[]
noncomputable def qZP:Ent:=fun a h=>match a,h with
  | [.ref 0 0 0,.int .i64 k],[(0,.box [.int .i64 l,.view 2 w,.nils ⟨2,.nil⟩] false)]=>
    [(t0K l w k,.ret (.int .i64 (mk k w l)),[(0,.box [.int .i64 (IntKind.i64.wrap (l - mk k w l)),.view 2 w,.own 1 0 none] false),(1,.arr 2 [.agg [.int .i64 k,.int .i64 (mk k w l)]] false)])]
  | [.ref 0 0 0,.int .i64 k],[(0,.box [.int .i64 l,.view 2 w,.own 1 0 none] false),(1,.arr 2 es false)]=>
    [(t1K l w es k,.ret (.int .i64 (mk k w l)),[(0,.box [.int .i64 (IntKind.i64.wrap (l - mk k w l)),.view 2 w,.own 2 0 none] false),(2,.arr 2 (es ++ [.agg [.int .i64 k,.int .i64 (mk k w l)]]) false)]),
     (t2K l w es k,.ret (.int .i64 0),[(0,.box [.int .i64 l,.view 2 w,.own 1 0 none] false),(1,.arr 2 es false)])]
  | _,_=>[]
def qWu:Ent:=fun a h=>match a,h with
 | [.view 4 w],[]=>[(decide (w.length ≠ 0) && decide (w.length * 32 <= lim),.ret (.own 0 0 none),[(0,.arr 4 w false)])]
 | _,_=>[]
def qWk:Ent:=fun a h=>match a,h with
 | [.view 14 w],[]=>[(decide (w.length = 0),.ret (.nils ⟨14,.any⟩),[])]
 | _,_=>[]
theorem q5e:Snd IP 18 qWh:=by
 intro a h r h' hm
 unfold qWh at hm
 split at hm
 ·simp only [List.mem_cons,List.not_mem_nil,or_false,Prod.mk.injEq,eq_comm (a:=true)] at hm
  rcases hm with ⟨h1,rfl,rfl⟩ | ⟨h1,rfl,rfl⟩ <;> exact qf7 h1
 ·cases hm
theorem q5f:Snd IP 19 qWA:=by
 intro a h r h' hm
 unfold qWA at hm
 split at hm
 ·simp only [List.mem_cons,List.not_mem_nil,or_false,Prod.mk.injEq,eq_comm (a:=true)] at hm
  rcases hm with ⟨h1,rfl,rfl⟩ | ⟨h1,rfl,rfl⟩ <;> exact qf7 h1
 ·cases hm
theorem q5d:Snd IP 12 qYV:=by
 intro a h r h' hm
 unfold qYV at hm
 split at hm
 ·simp only [List.mem_cons,List.not_mem_nil,or_false,Prod.mk.injEq,eq_comm (a:=true)] at hm
  obtain ⟨h1,rfl,rfl⟩:=hm
  exact qf7 h1
 ·cases hm
theorem q5i:Snd IP 22 qW4:=by
 intro a h r h' hm
 unfold qW4 at hm
 split at hm
 ·simp only [List.mem_cons,List.not_mem_nil,or_false,Prod.mk.injEq,eq_comm (a:=true)] at hm
  rcases hm with ⟨h1,rfl,rfl⟩ | ⟨h1,rfl,rfl⟩ <;> exact qf7 h1
 ·cases hm
theorem q5g:Snd IP 20 qWL:=by
 intro a h r h' hm
 unfold qWL at hm
 split at hm
 ·simp only [List.mem_cons,List.not_mem_nil,or_false,Prod.mk.injEq,eq_comm (a:=true)] at hm
  rcases hm with ⟨h1,rfl,rfl⟩ | ⟨h1,rfl,rfl⟩ | ⟨h1,rfl,rfl⟩ <;> exact qf7 h1
 ·cases hm
theorem q5h:Snd IP 21 qZP:=by
 intro a h r h' hm
 unfold qZP at hm
 split at hm
 ·simp only [List.mem_cons,List.not_mem_nil,or_false,Prod.mk.injEq,eq_comm (a:=true)] at hm
  obtain ⟨h1,rfl,rfl⟩:=hm
  exact qf7 h1
 ·simp only [List.mem_cons,List.not_mem_nil,or_false,Prod.mk.injEq,eq_comm (a:=true)] at hm
  rcases hm with ⟨h1,rfl,rfl⟩ | ⟨h1,rfl,rfl⟩ <;> exact qf7 h1
 ·cases hm
theorem sp23:Snd IP 23 qWu:=by
 intro a h r h' hm
 unfold qWu at hm
 split at hm
 ·rename_i w
  refine H35.sp23 _ _ _ _ ?_
  show _ ∈ [(decide (w.length = 0),Res.ret (.nils ⟨4,.any⟩),([]:Eng.Heap)),(decide (w.length ≠ 0) && decide (w.length * 32 <= lim),.ret (.own 0 0 none),[(0,.arr 4 w false)])]
  exact List.mem_cons_of_mem _ hm
 ·cases hm
theorem sp24:Snd IP 24 qWk:=by
 intro a h r h' hm
 unfold qWk at hm
 split at hm
 ·rename_i w
  refine H35.sp24 _ _ _ _ ?_
  show _ ∈ [(decide (w.length = 0),Res.ret (.nils ⟨14,.any⟩),([]:Eng.Heap)),(decide (w.length ≠ 0) && decide (w.length * 128 <= lim),.ret (.own 0 0 none),[(0,.arr 14 w false)])]
  rcases List.mem_cons.mp hm with h | h
  ·exact List.mem_cons.mpr (Or.inl h)
  ·cases h
 ·cases hm
end Go.Proofs.H35P

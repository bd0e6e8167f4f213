/- Types of expressions over plain data. -/
import Derived.Test.YthljpgljbpdmjaaGreatDoorExA
set_option linter.unusedVariables false
set_option linter.unusedSimpArgs false
set_option linter.unnecessarySimpa false
namespace Go.Tk
open Go Go.Eng
set_option maxRecDepth 20000
structure Va where
 (name:Bs)
 (ty:Int)
def Va.av (x:Va):AV:=.agg [.str x.name,.int .i64 x.ty]
abbrev EV (l:List Va):List AV:=l.map Va.av
abbrev ksV:List CS:=[CS.str,CS.int IntKind.i64]
theorem hkV (h:Va):qiV ksV (qad h.av) = true:=rfl
theorem okV {l:List Va} {n:Nat} (h:n < l.length):qaD ksV (EV l) (n:Int) = true:=qdV hkV h
theorem qv0 {l:List Va} {n:Nat} (h:n < l.length):strOf (cellAt (EV l) (n:Int) 0) = l[n].name:=by rw [qat h]; rfl
theorem qv1 {l:List Va} {n:Nat} (h:n < l.length):intOf (cellAt (EV l) (n:Int) 1) = l[n].ty:=by rw [qat h]; rfl
abbrev EI (l:List Int):List AV:=l.map (.int .i64)
abbrev ksI:List CS:=[CS.int IntKind.i64]
theorem okI {l:List Int} {n:Nat} (h:n < l.length):qaD ksI (EI l) (n:Int) = true:=qdV (fun _=>rfl) h
theorem qi0 {l:List Int} {n:Nat} (h:n < l.length):intOf (cellAt (EI l) (n:Int) 0) = l[n]:=by rw [qat h]; rfl
def qaM (t:Int):Bool:=decide (t >= 1) && decide (t <= 5)
theorem qaQ {t:Int} (h:qaM t = true):t = 1 \/ t = 2 \/ t = 3 \/ t = 4 \/ t = 5:=by
 simp only [qaM,Bool.and_eq_true,decide_eq_true_eq] at h; omega
def ariL:List ((Int × Int × Int) × Int):=[((5,1,1),1),((5,2,2),2),((5,3,3),3),((5,4,1),4),((6,1,1),1),((6,2,2),2),((6,3,3),3),((6,4,1),4),((6,4,4),1),((7,1,1),1),((7,1,2),2),((7,1,3),3),((7,2,1),2),((7,2,3),2),((7,3,1),3),((7,3,2),2),((8,1,1),1),((8,2,1),2),((8,2,2),1),((8,3,1),3)]
def q1G (p:(Int × Int × Int) × Int):AV × AV:=(.agg [.int .i64 p.1.1,.int .i64 p.1.2.1,.int .i64 p.1.2.2],.int .i64 p.2)
abbrev ks3:Key:=(true,[EK.i,EK.i,EK.i])
abbrev qVy (a b c:Int):AV:=.agg [.int .i64 a,.int .i64 b,.int .i64 c]
theorem eq3 (a b c a' b' c':Int):qbe ks3 (qVy a b c) (qVy a' b' c') = some (a == a' && (b == b' && (c == c' && true))):=rfl
theorem qCc (a b c:Int):∀ l:List ((Int × Int × Int) × Int),qpf ks3 (l.map q1G) (qVy a b c) = some ((l.find? fun p=>p.1 == (a,b,c)).map fun p=>.int .i64 p.2)
 | []=>rfl
 | p :: l=>by
  obtain ⟨⟨x,y,z⟩,t⟩:=p
  simp only [List.map_cons,q1G,qpf,eq3,List.find?_cons]
  by_cases h:(x,y,z) = (a,b,c)
  ·cases h
   simp
  ·have e1:((x,y,z) == (a,b,c)) = false:=by simpa using h
   have e2:(a == x && (b == y && (c == z && true))) = false:=by
    rw [Bool.eq_false_iff]
    intro hh
    simp only [Bool.and_eq_true,beq_iff_eq,Bool.and_true] at hh
    exact h (by rw [hh.1,hh.2.1,hh.2.2])
   rw [e1,e2]
   exact qCc a b c l
def qyf (op a b:Int):Option Int:=(ariL.find? fun p=>p.1 == (op,a,b)).map (·.2)
theorem q7J (op a b:Int):qrj ks3 (ariL.map q1G) (qVy op a b) = (qyf op a b).isSome:=by
 unfold qrj
 rw [qCc,qyf]
 have:isKey ks3 (qVy op a b) = true:=rfl
 rw [this]
 cases (ariL.find? fun p=>p.1 == (op,a,b)) <;> rfl
theorem q7L (op a b:Int):qsG ks3 (ariL.map q1G) (qVy op a b) = !(qyf op a b).isSome:=by
 unfold qsG
 rw [qCc,qyf]
 have:isKey ks3 (qVy op a b) = true:=rfl
 rw [this]
 cases (ariL.find? fun p=>p.1 == (op,a,b)) <;> rfl
theorem q7M {op a b t:Int} (h:qyf op a b = some t):qcO ks3 (ariL.map q1G) (qVy op a b) = .int .i64 t:=by
 unfold qcO
 rw [qCc]
 unfold qyf at h
 cases hf:(ariL.find? fun p=>p.1 == (op,a,b)) with
 | none=>rw [hf] at h; cases h
 | some p=>rw [hf] at h; cases h; rfl
theorem qyH {op a b t:Int} (h:qyf op a b = some t):t ≠ 0 /\ 5 <= op /\ op <= 8:=by
 unfold qyf at h
 cases hf:(ariL.find? fun p=>p.1 == (op,a,b)) with
 | none=>rw [hf] at h; cases h
 | some p=>
  rw [hf] at h; cases h
  have h1:=List.mem_of_find?_eq_some hf
  have h2:=List.find?_some hf
  have:∀ p ∈ ariL,p.2 ≠ 0 /\ 5 <= p.1.1 /\ p.1.1 <= 8:=by decide
  obtain ⟨h3,h4,h5⟩:=this p h1
  have:p.1 = (op,a,b):=by simpa using h2
  rw [this] at h4 h5
  exact ⟨h3,h4,h5⟩
theorem qXz {op:Int} (h:op < 5 \/ 8 < op) (a b:Int):qyf op a b = none:=by
 cases hq:qyf op a b with
 | none=>rfl
 | some t=>have:=qyH hq; omega
def nrm (p:Int × Bool):Int × Bool:=bif p.2 then (p.1,true) else (0,false)
def qLP (op a:Int):Int × Bool:=
 if op = 16 then bif a == 5 then (5,true) else (0,false)
 else if op = 9 then bif a == 1 || (a == 2 || a == 3) then (a,true) else (0,false)
 else (0,false)
def qiv (op a b:Int):Int × Bool:=
 if op = 10 \/ op = 11 then bif a == b then (5,true) else (0,false)
 else if op = 12 \/ op = 13 then bif a == b && a != 5 then (5,true) else (0,false)
 else if op = 14 \/ op = 15 then bif a == b && a == 5 then (5,true) else (0,false)
 else if op = 17 \/ op = 18 then bif a == b && a != 5 then (a,true) else (0,false)
 else match qyf op a b with
  | some t=>(t,true)
  | none=>(0,false)
def qx8 (op a b c:Int):Int × Bool:=bif op == 19 && (a == 5 && b == c) then (b,true) else (0,false)
def qaZ (op:Int) (l:List Int):Int × Bool:=bif !l.all qaM then (0,false) else match l with
 | [a]=>qLP op a
 | [a,b]=>qiv op a b
 | [a,b,c]=>qx8 op a b c
 | _=>(0,false)
def qlo (vs:List Va) (s:Bs):Int × Int:=match vs.find? fun v=>v.name == s with
 | none=>(0,4)
 | some v=>bif qaM v.ty then (v.ty,0) else (0,3)
def qER (op:Int) (p:List Int × Int):Int × Int:=bif p.2 != 0 then (0,p.2) else bif (qaZ op p.1).2 then ((qaZ op p.1).1,0) else (0,3)
mutual
def Ex.ty (vs:List Va):Ex -> Int × Int
 | .mk o _ s l=>if o = 1 then (1,0) else if o = 2 then (2,0) else if o = 3 then (3,0) else if o = 4 then qlo vs s else qER o (Ex.tys vs l)
def Ex.tys (vs:List Va):List Ex -> List Int × Int
 | []=>([],0)
 | e :: l=>bif (Ex.ty vs e).2 != 0 then ([],(Ex.ty vs e).2) else bif (Ex.tys vs l).2 != 0 then ([],(Ex.tys vs l).2) else ((Ex.ty vs e).1 :: (Ex.tys vs l).1,0)
end
def ofS (e:Ex) (vs:List Va):Int × Int:=bif qbO e != 0 then (0,qbO e) else e.ty vs
def qdI (e:Ex) (vs:List Va) (want:Int):Int:=bif (ofS e vs).2 != 0 then (ofS e vs).2 else bif (ofS e vs).1 != want then 3 else 0
def qel (vs:List Va) (n:Nat):Nat:=match vs[n]? with
 | none=>9
 | some v=>bif !qkU v.name then 0 else bif (vs.take n).any (fun w=>w.name == v.name) then 1 else bif !qaM v.ty then 2 else 9
def eV (vs:List Va):Nat:=qgE (fun n=>qel vs n != 9) (qel vs) 3 (List.range vs.length)
def qvB (vs:List Va):Int:=if vs.length > 64 then 5 else match eV vs with
 | 0=>4
 | 1=>12
 | 2=>3
 | _=>0
theorem qyd (vs:List Va) (n:Nat):qel vs n = 0 \/ qel vs n = 1 \/ qel vs n = 2 \/ qel vs n = 9:=by
 unfold qel
 cases vs[n]? with
 | none=>simp
 | some v=>cases h1:qkU v.name <;> cases h2:(vs.take n).any (fun w=>w.name == v.name) <;> cases h3:qaM v.ty <;> simp [h1,h2,h3]
theorem qPM (s:Bs):qbO (.mk 4 0 s []) = bif qkU s then 0 else 4:=by
 have h1:qaF (.mk 4 0 s []) = true:=by simp [qaF,Ex.op,Ex.num,Ex.txt,Ex.args,qaV,qgc]
 have h2:qbf (.mk 4 0 s []) = qkU s:=by simp [qbf,Ex.op,Ex.txt]
 cases hv:qkU s <;> simp [qbO,Ex.nodes,Ex.nodesL,Ex.dep,Ex.depL,Ex.allX,Ex.allL,h1,h2,hv]
end Go.Tk

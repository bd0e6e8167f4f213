/- Types of expressions over plain data. -/
import Derived.Test.YtgpbobelbcbcaaaGreatDoorExA
set_option linter.unusedVariables false
set_option linter.unusedSimpArgs false
set_option linter.unnecessarySimpa false
namespace Go.Tk
open Go Go.Eng
set_option maxRecDepth 20000
structure Va where
 (name:Bs)
 (ty:Int)
def Va.av (x:Va):AV:=.agg [.str x.name,.int .i64 x.ty]
abbrev EV (l:List Va):List AV:=l.map Va.av
abbrev ksV:List CS:=[CS.str,CS.int IntKind.i64]
theorem hkV (h:Va):qnv ksV (qac h.av) = true:=rfl
theorem okV {l:List Va} {n:Nat} (h:n < l.length):qaQ ksV (EV l) (n:Int) = true:=qkc hkV h
theorem qv0 {l:List Va} {n:Nat} (h:n < l.length):strOf (cellAt (EV l) (n:Int) 0) = l[n].name:=by rw [qbF h]; rfl
theorem qv1 {l:List Va} {n:Nat} (h:n < l.length):intOf (cellAt (EV l) (n:Int) 1) = l[n].ty:=by rw [qbF h]; rfl
def qA1 (t:Int):Bool:=decide (t >= 1) && decide (t <= 5)
def ariL:List ((Int × Int × Int) × Int):=[((5,1,1),1),((5,2,2),2),((5,3,3),3),((5,4,1),4),((6,1,1),1),((6,2,2),2),((6,3,3),3),((6,4,1),4),((6,4,4),1),((7,1,1),1),((7,1,2),2),((7,1,3),3),((7,2,1),2),((7,2,3),2),((7,3,1),3),((7,3,2),2),((8,1,1),1),((8,2,1),2),((8,2,2),1),((8,3,1),3)]
def qDs (op a b:Int):Option Int:=(ariL.find? fun p=>p.1 == (op,a,b)).map (·.2)
def q2T (op a:Int):Int × Bool:=
 if op = 16 then bif a == 5 then (5,true) else (0,false)
 else if op = 9 then bif a == 1 || (a == 2 || a == 3) then (a,true) else (0,false)
 else (0,false)
def q21 (op a b:Int):Int × Bool:=
 if op = 10 \/ op = 11 then bif a == b then (5,true) else (0,false)
 else if op = 12 \/ op = 13 then bif a == b && a != 5 then (5,true) else (0,false)
 else if op = 14 \/ op = 15 then bif a == b && a == 5 then (5,true) else (0,false)
 else if op = 17 \/ op = 18 then bif a == b && a != 5 then (a,true) else (0,false)
 else match qDs op a b with
  | some t=>(t,true)
  | none=>(0,false)
def qW2 (op a b c:Int):Int × Bool:=bif op == 19 && (a == 5 && b == c) then (b,true) else (0,false)
def q1n (op:Int) (l:List Int):Int × Bool:=bif !l.all qA1 then (0,false) else match l with
 | [a]=>q2T op a
 | [a,b]=>q21 op a b
 | [a,b,c]=>qW2 op a b c
 | _=>(0,false)
def q0z (vs:List Va) (s:Bs):Int × Int:=match vs.find? fun v=>v.name == s with
 | none=>(0,4)
 | some v=>bif qA1 v.ty then (v.ty,0) else (0,3)
def q1u (op:Int) (p:List Int × Int):Int × Int:=bif p.2 != 0 then (0,p.2) else bif (q1n op p.1).2 then ((q1n op p.1).1,0) else (0,3)
mutual
def Ex.ty (vs:List Va):Ex -> Int × Int
 | .mk o _ s l=>if o = 1 then (1,0) else if o = 2 then (2,0) else if o = 3 then (3,0) else if o = 4 then q0z vs s else q1u o (Ex.tys vs l)
def Ex.tys (vs:List Va):List Ex -> List Int × Int
 | []=>([],0)
 | e :: l=>bif (Ex.ty vs e).2 != 0 then ([],(Ex.ty vs e).2) else bif (Ex.tys vs l).2 != 0 then ([],(Ex.tys vs l).2) else ((Ex.ty vs e).1 :: (Ex.tys vs l).1,0)
end
end Go.Tk

/- Values of expressions over plain data: operators, trees. -/
import Derived.Test.YthljpgljbpdmjaaGreatDoorTyA
set_option linter.unusedVariables false
set_option linter.unusedSimpArgs false
set_option linter.unnecessarySimpa false
namespace Go.Tk
open Go Go.Eng
set_option maxRecDepth 20000
structure Vl where
 (ty n:Int)
deriving DecidableEq
def Vl.av (x:Vl):AV:=.agg [.int .i64 x.ty,.int .i64 x.n]
abbrev EL (l:List Vl):List AV:=l.map Vl.av
abbrev ksL:List CS:=[CS.int IntKind.i64,CS.int IntKind.i64]
theorem hkL (h:Vl):qiV ksL (qad h.av) = true:=rfl
theorem okL {l:List Vl} {n:Nat} (h:n < l.length):qaD ksL (EL l) (n:Int) = true:=qdV hkL h
theorem ql0 {l:List Vl} {n:Nat} (h:n < l.length):intOf (cellAt (EL l) (n:Int) 0) = l[n].ty:=by rw [qat h]; rfl
theorem ql1 {l:List Vl} {n:Nat} (h:n < l.length):intOf (cellAt (EL l) (n:Int) 1) = l[n].n:=by rw [qat h]; rfl
def qa0 (v:Vl):Bool:=
 if v.ty = 1 then true else if v.ty = 2 then decide (-1000000000000 <= v.n) && decide (v.n <= 1000000000000)
 else if v.ty = 3 then decide (-1000000000 <= v.n) && decide (v.n <= 1000000000) else if v.ty = 4 then decide (0 <= v.n) && decide (v.n <= 73048)
 else if v.ty = 5 then v.n == 0 || v.n == 1 else false
def qdQ (n:Int):Bool:=decide (-9223372036854775808 <= n) && decide (n <= 9223372036854775807)
def qpU (v n:Int):Int:=if v % n > n - v % n \/ (v % n = n - v % n /\ (v / n) % 2 = 1) then v / n + 1 else v / n
def qjq (t w:Int):Vl × Int:=bif qdQ w && qa0 ⟨t,w⟩ then (⟨t,w⟩,0) else (⟨0,0⟩,6)
def qFI (t:Int) (a b:Vl):Vl × Int:=
 if b.n = 0 then (⟨0,0⟩,7) else if a.ty = b.ty then qjq t (a.n.tdiv b.n)
 else if b.n = -9223372036854775808 then (⟨t,0⟩,0) else if b.n < 0 then qjq t (qpU (-a.n) (-b.n)) else qjq t (qpU a.n b.n)
def qAj (t:Int) (a b:Vl):Vl × Int:=if a.ty ≠ b.ty /\ a.ty ≠ 1 /\ b.ty ≠ 1 then qjq t (qpU (a.n * b.n) 1000000) else qjq t (a.n * b.n)
def bI (b:Bool):Int:=bif b then 1 else 0
def qhn (op t:Int) (a b:Vl):Vl × Int:=
 if op = 5 then qjq t (a.n + b.n) else if op = 6 then qjq t (a.n - b.n) else if op = 7 then qAj t a b else if op = 8 then qFI t a b
 else if op = 10 then (⟨t,bI (a.n == b.n)⟩,0) else if op = 11 then (⟨t,bI (a.n != b.n)⟩,0) else if op = 12 then (⟨t,bI (decide (a.n < b.n))⟩,0) else if op = 13 then (⟨t,bI (decide (a.n <= b.n))⟩,0)
 else if op = 14 then (⟨t,a.n * b.n⟩,0) else if op = 15 then (⟨t,max a.n b.n⟩,0) else if op = 17 then (⟨t,min a.n b.n⟩,0) else (⟨t,max a.n b.n⟩,0)
def opV (op t:Int):List Vl -> Vl × Int
 | [a]=>if op = 9 then qjq t (-a.n) else (⟨t,1 - a.n⟩,0)
 | [a,b]=>qhn op t a b
 | [a,b,c]=>(⟨t,if a.n = 1 then b.n else c.n⟩,0)
 | _=>(⟨0,0⟩,3)
def qdG (op:Int) (l:List Vl):Vl × Int:=
 bif !(qaZ op (l.map (·.ty))).2 then (⟨0,0⟩,3) else bif !l.all qa0 then (⟨0,0⟩,1) else opV op (qaZ op (l.map (·.ty))).1 l
mutual
def qa8 (vs:List Va) (env:List Vl):Ex -> Vl × Int
 | .mk o n s l=>if o = 1 then (⟨1,n⟩,0) else if o = 2 then (⟨2,n⟩,0) else if o = 3 then (⟨3,n⟩,0)
  else if o = 4 then ((env[vs.findIdx (fun v=>v.name == s)]?).getD ⟨0,0⟩,0) else if o = 19 then qAC vs env l else bif (qc3 vs env l).2 != 0 then (⟨0,0⟩,(qc3 vs env l).2) else qdG o (qc3 vs env l).1
def qAC (vs:List Va) (env:List Vl):List Ex -> Vl × Int
 | [c,a,b]=>bif (qa8 vs env c).2 != 0 then (⟨0,0⟩,(qa8 vs env c).2) else if (qa8 vs env c).1.n = 1 then qa8 vs env a else qa8 vs env b
 | _=>(⟨0,0⟩,3)
def qc3 (vs:List Va) (env:List Vl):List Ex -> List Vl × Int
 | []=>([],0)
 | e :: l=>bif (qa8 vs env e).2 != 0 then ([],(qa8 vs env e).2) else bif (qc3 vs env l).2 != 0 then ([],(qc3 vs env l).2) else ((qa8 vs env e).1 :: (qc3 vs env l).1,0)
end
def qkZ (vs:List Va) (env:List Vl):Bool:=vs.length == env.length && (List.range env.length).all fun n=>match vs[n]?,env[n]? with
 | some v,some x=>x.ty == v.ty && qa0 x
 | _,_=>false
def qrn (e:Ex) (vs:List Va) (env:List Vl):Vl × Int:=bif qvB vs != 0 then (⟨0,0⟩,qvB vs) else bif (ofS e vs).2 != 0 then (⟨0,0⟩,(ofS e vs).2) else bif !qkZ vs env then (⟨0,0⟩,1) else qa8 vs env e
end Go.Tk

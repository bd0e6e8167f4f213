/- Products over plain data. -/
import Derived.Test.YthljpgljbpdmjaaGreatDoorTyA
set_option linter.unusedVariables false
set_option linter.unusedSimpArgs false
set_option linter.unnecessarySimpa false
namespace Go.Tk
open Go Go.Eng
set_option maxRecDepth 20000
structure Tr where
 (from_ ppm:Int)
def Tr.av (x:Tr):AV:=.agg [.int .i64 x.from_,.int .i64 x.ppm]
abbrev ETr (l:List Tr):List AV:=l.map Tr.av
abbrev q7F:List CS:=[CS.int IntKind.i64,CS.int IntKind.i64]
theorem za6 (h:Tr):qiV q7F (qad h.av) = true:=rfl
theorem q1y {l:List Tr} {n:Nat} (h:n < l.length):qaD q7F (ETr l) (n:Int) = true:=qdV za6 h
theorem q1B {l:List Tr} {n:Nat} (h:n < l.length):intOf (cellAt (ETr l) (n:Int) 0) = l[n].from_:=by rw [qat h]; rfl
theorem q3Q {l:List Tr} {n:Nat} (h:n < l.length):intOf (cellAt (ETr l) (n:Int) 1) = l[n].ppm:=by rw [qat h]; rfl
structure Cu where
 (code:Bs) (digits:Int)
def Cu.av (x:Cu):AV:=.agg [.str x.code,.int .i64 x.digits]
abbrev EC (l:List Cu):List AV:=l.map Cu.av
theorem hkC (h:Cu):qiV ksV (qad h.av) = true:=rfl
theorem okC {l:List Cu} {n:Nat} (h:n < l.length):qaD ksV (EC l) (n:Int) = true:=qdV hkC h
theorem qc0 {l:List Cu} {n:Nat} (h:n < l.length):strOf (cellAt (EC l) (n:Int) 0) = l[n].code:=by rw [qat h]; rfl
structure Cal where
 (name:Bs) (wk hol:List AV)
def Cal.av (x:Cal):AV:=.agg [.str x.name,.view 1 x.wk,.view 1 x.hol]
abbrev EK (l:List Cal):List AV:=l.map Cal.av
abbrev ksK:List CS:=[CS.str,CS.slice 1,CS.slice 1]
theorem hkK (h:Cal):qiV ksK (qad h.av) = true:=rfl
theorem okK {l:List Cal} {n:Nat} (h:n < l.length):qaD ksK (EK l) (n:Int) = true:=qdV hkK h
theorem qk0 {l:List Cal} {n:Nat} (h:n < l.length):strOf (cellAt (EK l) (n:Int) 0) = l[n].name:=by rw [qat h]; rfl
theorem qk1 {l:List Cal} {n:Nat} (h:n < l.length):qaq (cellAt (EK l) (n:Int) 1) = l[n].wk:=by rw [qat h]; rfl
theorem qk2 {l:List Cal} {n:Nat} (h:n < l.length):qaq (cellAt (EK l) (n:Int) 2) = l[n].hol:=by rw [qat h]; rfl
structure Fe where
 (name:Bs) (event:Int) (when_ amount:Ex)
def Fe.av (x:Fe):AV:=.agg [.str x.name,.int .i64 x.event,.int .i64 x.when_.op,.int .i64 x.when_.num,.str x.when_.txt,.view 4 (EX x.when_.args),.int .i64 x.amount.op,.int .i64 x.amount.num,.str x.amount.txt,.view 4 (EX x.amount.args)]
abbrev EF (l:List Fe):List AV:=l.map Fe.av
abbrev ksF:List CS:=[CS.str,CS.int .i64,CS.int .i64,CS.int .i64,CS.str,CS.slice 4,CS.int .i64,CS.int .i64,CS.str,CS.slice 4]
theorem hkF (h:Fe):qiV ksF (qad h.av) = true:=rfl
theorem okF {l:List Fe} {n:Nat} (h:n < l.length):qaD ksF (EF l) (n:Int) = true:=qdV hkF h
theorem qf0 {l:List Fe} {n:Nat} (h:n < l.length):strOf (cellAt (EF l) (n:Int) 0) = l[n].name:=by rw [qat h]; rfl
theorem qf1 {l:List Fe} {n:Nat} (h:n < l.length):intOf (cellAt (EF l) (n:Int) 1) = l[n].event:=by rw [qat h]; rfl
theorem qf2 {l:List Fe} {n:Nat} (h:n < l.length):intOf (cellAt (EF l) (n:Int) 2) = l[n].when_.op:=by rw [qat h]; rfl
theorem qf3 {l:List Fe} {n:Nat} (h:n < l.length):intOf (cellAt (EF l) (n:Int) 3) = l[n].when_.num:=by rw [qat h]; rfl
theorem qf4 {l:List Fe} {n:Nat} (h:n < l.length):strOf (cellAt (EF l) (n:Int) 4) = l[n].when_.txt:=by rw [qat h]; rfl
theorem qf5 {l:List Fe} {n:Nat} (h:n < l.length):qaq (cellAt (EF l) (n:Int) 5) = EX l[n].when_.args:=by rw [qat h]; rfl
theorem qf6 {l:List Fe} {n:Nat} (h:n < l.length):intOf (cellAt (EF l) (n:Int) 6) = l[n].amount.op:=by rw [qat h]; rfl
theorem qf7 {l:List Fe} {n:Nat} (h:n < l.length):intOf (cellAt (EF l) (n:Int) 7) = l[n].amount.num:=by rw [qat h]; rfl
theorem qf8 {l:List Fe} {n:Nat} (h:n < l.length):strOf (cellAt (EF l) (n:Int) 8) = l[n].amount.txt:=by rw [qat h]; rfl
theorem qf9 {l:List Fe} {n:Nat} (h:n < l.length):qaq (cellAt (EF l) (n:Int) 9) = EX l[n].amount.args:=by rw [qat h]; rfl
structure Ru where
 (name:Bs) (window:Int) (amount:Ex)
def Ru.av (x:Ru):AV:=.agg [.str x.name,.int .i64 x.window,.int .i64 x.amount.op,.int .i64 x.amount.num,.str x.amount.txt,.view 4 (EX x.amount.args)]
abbrev ER (l:List Ru):List AV:=l.map Ru.av
abbrev ksR:List CS:=[CS.str,CS.int .i64,CS.int .i64,CS.int .i64,CS.str,CS.slice 4]
theorem hkR (h:Ru):qiV ksR (qad h.av) = true:=rfl
theorem okR {l:List Ru} {n:Nat} (h:n < l.length):qaD ksR (ER l) (n:Int) = true:=qdV hkR h
theorem qr0 {l:List Ru} {n:Nat} (h:n < l.length):strOf (cellAt (ER l) (n:Int) 0) = l[n].name:=by rw [qat h]; rfl
theorem qr1 {l:List Ru} {n:Nat} (h:n < l.length):intOf (cellAt (ER l) (n:Int) 1) = l[n].window:=by rw [qat h]; rfl
theorem qr2 {l:List Ru} {n:Nat} (h:n < l.length):intOf (cellAt (ER l) (n:Int) 2) = l[n].amount.op:=by rw [qat h]; rfl
theorem qr3 {l:List Ru} {n:Nat} (h:n < l.length):intOf (cellAt (ER l) (n:Int) 3) = l[n].amount.num:=by rw [qat h]; rfl
theorem qr4 {l:List Ru} {n:Nat} (h:n < l.length):strOf (cellAt (ER l) (n:Int) 4) = l[n].amount.txt:=by rw [qat h]; rfl
theorem qr5 {l:List Ru} {n:Nat} (h:n < l.length):qaq (cellAt (ER l) (n:Int) 5) = EX l[n].amount.args:=by rw [qat h]; rfl
structure In where
 (tiers:List Tr) (marg:Bool) (basis mode:Int) (keep:Bool)
structure Pr where
 (name cur cal:Bs) (from_ every over tax:Int) (cr de:In) (fees:List Fe) (rules:List Ru)
def ltB (c:Int):Bool:=decide (c >= 97) && decide (c <= 122)
def nmI (c:Int):Bool:=ltB c || (c == 95 || (decide (c >= 48) && decide (c <= 57)))
def nmB (s:Bs):Bool:=match s with
 | []=>false
 | c :: r=>decide (r.length < 16) && (at8 ltB c && r.all (at8 nmI))
def q1r (t:Tr):Bool:=decide (t.from_ < 0) || (decide (t.from_ > 1000000000000) || (decide (t.ppm < 0) || decide (t.ppm > 1000000)))
def qZv (l:List Tr) (i:Nat):Bool:=match l[i]?,l[i + 1]? with
 | some a,some b=>decide (b.from_ <= a.from_)
 | _,_=>false
def qPA (l:List Tr):Int:=
 if l.length > 6 then 5 else bif l.any q1r then 1 else bif (List.range (l.length - 1)).any (qZv l) then 10 else match l with
  | []=>0
  | t :: _=>bif t.from_ != 0 then 1 else 0
theorem qd6 (a b:Bool):br a (some true) (some b) = some (a || b):=by cases a <;> rfl
theorem qnr (a b:Bool):br a (some b) (some false) = some (a && b):=by cases a <;> rfl
def qsd (x:In):Int:=bif qPA x.tiers != 0 then qPA x.tiers else bif decide (x.basis < 1) || (decide (x.basis > 4) || (decide (x.mode < 1) || decide (x.mode > 6))) then 1 else 0
def varsP:List Va:=[⟨[98,97,108,97,110,99,101],2⟩,⟨[108,111,119,101,115,116],2⟩,⟨[118,111,108,117,109,101],2⟩,⟨[97,109,111,117,110,116],2⟩,⟨[99,111,117,110,116],1⟩,⟨[97,103,101],1⟩,⟨[100,97,121],4⟩]
def qzR (x:Fe):Int:=bif !nmB x.name then 4 else bif decide (x.event < 1) || decide (x.event > 4) then 1 else bif qdI x.when_ varsP 5 != 0 then qdI x.when_ varsP 5 else qdI x.amount varsP 2
def qll (x:Ru):Int:=bif !nmB x.name then 4 else bif decide (x.window < 1) || decide (x.window > 3) then 1 else qdI x.amount varsP 2
def qeH {α:Type} (f:α -> Int):List α -> Int
 | []=>0
 | x :: l=>bif f x != 0 then f x else qeH f l
theorem qoD {α:Type} (f:α -> Int):∀ l:List α,qeH f l = match l.find? (fun x=>f x != 0) with | some x=>f x | none=>0
 | []=>rfl
 | x :: l=>by
  simp only [qeH,List.find?_cons]
  cases h:(f x != 0)
  ·simp only [cond_false]; exact qoD f l
  ·rfl
def qEU (p:Pr) (l:List Cu) (c:List Cal):Int:=bif !nmB p.name then 4 else bif !l.any (fun x=>x.code == p.cur) then 14 else bif !c.any (fun x=>x.name == p.cal) then 11 else
 bif !(decide (p.from_ >= 0) && decide (p.from_ <= 73048)) || (!(p.every == 1 || (p.every == 3 || (p.every == 6 || p.every == 12))) || (decide (p.over < 0) || (decide (p.over > 1000000000000) || (decide (p.tax < 0) || decide (p.tax > 1000000))))) then 1 else 0
def prS (p:Pr) (l:List Cu) (c:List Cal):Int:=bif qEU p l c != 0 then qEU p l c else bif qsd p.cr != 0 then qsd p.cr else bif qsd p.de != 0 then qsd p.de else
 bif decide (p.fees.length > 4) || decide (p.rules.length > 4) then 5 else bif qeH qzR p.fees != 0 then qeH qzR p.fees else qeH qll p.rules
def qhs {α:Type} (eq:α -> α -> Bool) (a b:List α) (i:Nat):Bool:=match a[i]?,b[i]? with
 | some x,some y=>!eq x y
 | _,_=>false
def eqT (x y:Tr):Bool:=x.from_ == y.from_ && (x.ppm == y.ppm && true)
def qfZ (a b:In):Bool:=bif a.tiers.length == b.tiers.length then !(List.range a.tiers.length).any (qhs eqT a.tiers b.tiers) && ((a.marg == b.marg) && ((a.basis == b.basis) && ((a.mode == b.mode) && (a.keep == b.keep)))) else false
mutual
def qdc:Ex -> Ex -> Bool
 | .mk o n s l,.mk o' n' s' l'=>(o == o') && ((n == n') && ((s == s') && qpY l l'))
def qpY:List Ex -> List Ex -> Bool
 | [],[]=>true
 | x :: l,y :: m=>qdc x y && qpY l m
 | _,_=>false
end
def qeQ {α:Type} (eq:α -> α -> Bool) (a b:List α):Bool:=bif a.length == b.length then !(List.range a.length).any (qhs eq a b) else false
theorem qRb (p:Nat -> Bool) (n:Nat):(List.range (n + 1)).any p = (p 0 || (List.range n).any fun i=>p (i + 1)):=by
 rw [List.range_succ_eq_map,List.any_cons,List.any_map]; rfl
theorem qgD:∀ a b:List Ex,qpY a b = qeQ qdc a b
 | [],[]=>rfl
 | [],y :: m=>by simp [qpY,qeQ]
 | x :: l,[]=>by simp [qpY,qeQ]
 | x :: l,y :: m=>by
  rw [qpY,qgD l m]
  have h0:qhs qdc (x :: l) (y :: m) 0 = !qdc x y:=by simp [qhs]
  have hs:(fun i=>qhs qdc (x :: l) (y :: m) (i + 1)) = qhs qdc l m:=by funext i; simp [qhs]
  simp only [qeQ,List.length_cons,qRb,h0,hs]
  by_cases h:l.length = m.length
  ·simp [h]
  ·have e1:(l.length == m.length) = false:=by simpa using h
   have e2:(l.length + 1 == m.length + 1) = false:=by simpa using h
   rw [e1,e2]; simp
def qdf (x y:Fe):Bool:=(x.name == y.name) && ((x.event == y.event) && (qdc x.when_ y.when_ && qdc x.amount y.amount))
def qdg (x y:Ru):Bool:=(x.name == y.name) && ((x.window == y.window) && qdc x.amount y.amount)
def qhC (p q:Pr):Bool:=bif (!(p.name == q.name)) || ((!(p.cur == q.cur)) || ((!(p.cal == q.cal)) || ((p.from_ != q.from_) || ((p.every != q.every) || ((p.over != q.over) || (p.tax != q.tax)))))) then false else
 bif !qfZ p.cr q.cr || !qfZ p.de q.de then false else qeQ qdf p.fees q.fees && qeQ qdg p.rules q.rules
def qbJ:Nat -> Ex -> Bool
 | 0,_=>true
 | n + 1,e=>decide (e.args.length > 8) || (decide (e.txt.length > 40) || e.args.any (qbJ n))
def qVp (p:Pr):Bool:=bif ((decide (p.fees.length > 12) || decide (p.rules.length > 12)) || decide (p.cr.tiers.length > 12)) || decide (p.de.tiers.length > 12) then false else
 !p.fees.any (fun x=>qbJ 12 x.when_ || qbJ 12 x.amount) && !p.rules.any (fun x=>qbJ 12 x.amount)
end Go.Tk

/- Tokens over plain data: what the program's package token computes. -/
import Derived.Test.YtbieppilagmdjaaGreatDoorE3
import Derived.Test.YtbieppilagmdjaaGreatDoorE4
import Derived.Lib.TrimByte
import Derived.Lib.ParseIntBTie
set_option linter.unusedVariables false
set_option linter.unusedSimpArgs false
set_option linter.unnecessarySimpa false
namespace Go.Tk
open Go Go.Eng
set_option maxRecDepth 20000
abbrev Bs:=List UInt8
def qE4 (x:Int):Bool:=decide (x >= 97) && decide (x <= 122)
def qco (x:Int):Bool:=decide (x >= 48) && decide (x <= 57)
def qgN (x:Int):Bool:=(qE4 x || qco x) || x == 95
def qgO (x:Int):Bool:=(qgN x || x == 46) || x == 37
def qxE (x:Int):Bool:=x != 10
def at8 (p:Int -> Bool) (c:UInt8):Bool:=p (c.toNat:Int)
section
variable {α:Type} {p:α -> Bool}
end
def spI (x:Int):Bool:=x == 32 || (x == 9 || x == 10)
def blk:Bool -> Bs -> Nat
 | _,[]=>0
 | false,c :: r=>bif spI c.toNat then blk false r + 1 else bif (c.toNat:Int) == 35 then blk true r + 1 else 0
 | true,c :: r=>bif qxE c.toNat then blk true r + 1 else blk false r + 1
def has (l:List Bs) (s:Bs):Bool:=l.any (s == ·)
def qUe:List Bs:=[[112,114,111,100,117,99,116],[99,117,114,114,101,110,99,121],[99,97,108,101,110,100,97,114],[102,114,111,109],
 [101,118,101,114,121],[111,118,101,114,100,114,97,102,116],[116,97,120],[99,114,101,100,105,116],
 [100,101,98,105,116],[109,97,114,103,105,110,97,108],[119,104,111,108,101],[97,99,116,51,54,48],
 [97,99,116,51,54,53],[97,99,116,117,97,108],[116,104,105,114,116,121],[100,111,119,110],[117,112],
 [102,108,111,111,114],[99,101,105,108],[104,97,108,102,95,117,112],[104,97,108,102,95,101,118,101,110],
 [107,101,101,112],[100,114,111,112],[102,101,101],[108,105,109,105,116],[119,104,101,110],
 [97,109,111,117,110,116,95,111,102],[115,105,110,103,108,101],[100,97,105,108,121],[109,111,110,116,104,108,121],
 [109,111,110,116,104],[114,101,116,117,114,110],[99,108,111,115,101],[101,118,101,110,116],[105,102],
 [116,104,101,110],[101,108,115,101],[97,110,100],[111,114],[110,111,116],[109,105,110],[109,97,120]]
def marksS:List Bs:=[[61,61],[33,61],[60,61],[123],[125],[40],[41],[44],[59],[58],[36],[43],[45],[42],[47],[60]]
def qph (s:Bs):Bool:=has qUe s
def qmn (s:Bs):Bool:=s.all (at8 qco) && (s != [] && ((s.length:Int) == 1 || s.head? != some 48))
def qdM (t:Bs):Bs × Bs × Bool:=match t.dropWhile (· != 46) with
 | []=>(t,[],false)
 | _ :: r=>(t.takeWhile (· != 46),r,true)
def qh4 (p:Bs):Bool:=p != [] && (decide (p.length <= 4) && (p.all (at8 qco) && p.getLast? != some 48))
def qlC (p:Bs):Bs:=p ++ List.replicate (4 - p.length) 48
def qbn (a:Nat) (s:Bs):Nat:=s.foldl (fun a c=>a * 10 + (c.toNat - 48)) a
def qdQ (s:Bs):Int × Int:=
 bif s.getLast? == some 37 then
  let c:=qdM s.dropLast
  bif !qmn c.1 || (c.2.2 && !qh4 c.2.1) then (0,2)
  else bif decide (c.1.length > 3) then (0,1)
  else bif decide ((qbn 0 (c.1 ++ qlC c.2.1):Int) > 1000000) then (0,1) else (qbn 0 (c.1 ++ qlC c.2.1),0)
 else (0,2)
def qE5 (t:Bs):Int × Bs × Int:=
 bif qmn t then (bif nOk (Lib.parseIntB 64 t) then (2,t,0) else (0,[],6))
 else bif (qdQ t).2 == 0 then (3,t,0) else bif (qdQ t).2 == 1 then (0,[],6) else (0,[],2)
def preB (m s:Bs):Bool:=decide (m.length <= s.length) && s.take m.length == m
def qaz (s:Bs):Int × Bs × Int:=match s with
 | []=>(0,[],2)
 | c :: _=>
  bif at8 qE4 c then
   (bif qph (s.takeWhile (at8 qgN)) then (5,s.takeWhile (at8 qgN),0)
   else bif decide ((s.takeWhile (at8 qgN)).length > 16) then (0,[],4) else (1,s.takeWhile (at8 qgN),0))
  else bif at8 qco c then qE5 (s.takeWhile (at8 qgO))
  else match marksS.find? (preB · s) with
   | some m=>(4,m,0)
   | none=>(0,[],2)
structure Tok where
 (kind line:Int)
 (text:Bs)
deriving DecidableEq
def Tok.av (x:Tok):AV:=.agg [.int .i64 x.kind,.int .i64 x.line,.str x.text]
def qee:Nat -> Bs -> Int -> List Tok -> List Tok × Int × Int
 | 0,_,_,_=>([],0,0)
 | k + 1,s,line,acc=>
  match s.drop (blk false s) with
  | []=>(acc,0,0)
  | c :: r=>
   bif (qaz (c :: r)).2.2 != 0 then ([],line + (s.take (blk false s)).count 10,(qaz (c :: r)).2.2)
   else qee k ((c :: r).drop (qaz (c :: r)).2.1.length) (line + (s.take (blk false s)).count 10) (acc ++ [⟨(qaz (c :: r)).1,line + (s.take (blk false s)).count 10,(qaz (c :: r)).2.1⟩])
def qii (s:Bs):List Tok × Int × Int:=bif decide ((s.length:Int) > 2048) then ([],0,5) else qee (s.length + 1) s 1 []
end Go.Tk
namespace Go.Tk
open Go Go.Eng
set_option maxRecDepth 20000
open Classical in
noncomputable def jS (IP:Prog) (f:Nat) (es:List AV):Bs:=if h:∃ s n,qal IP f [.view 3 es] [] = some (.ret (.tup [.str s,.int .i64 n]),[]) then h.choose else []
open Classical in
noncomputable def jN (IP:Prog) (f:Nat) (es:List AV):Int:=if h:∃ s n,qal IP f [.view 3 es] [] = some (.ret (.tup [.str s,.int .i64 n]),[]) then h.choose_spec.choose else 0
end Go.Tk
namespace Go.Tk
open Go Go.Eng
set_option linter.unusedSimpArgs false
set_option linter.unusedVariables false
def shT (d:Int) (q:List Tok × Int × Int):List Tok × Int × Int:=(q.1.map fun t=>⟨t.kind,t.line + d,t.text⟩,(bif q.2.2 != 0 then q.2.1 + d else q.2.1),q.2.2)
end Go.Tk
namespace Go.Tk
open Go Go.Eng
set_option maxRecDepth 20000
inductive Ex where
 | mk (op num:Int) (txt:Bs) (args:List Ex)
namespace Ex
def op:Ex -> Int | mk o _ _ _=>o
def num:Ex -> Int | mk _ n _ _=>n
def txt:Ex -> Bs | mk _ _ s _=>s
def args:Ex -> List Ex | mk _ _ _ l=>l
theorem ind {P:Ex -> Prop} (h:∀ o n s l,(∀ x ∈ l,P x) -> P (mk o n s l)):∀ e,P e:=fun e=>
 Ex.rec (motive_1:=P) (motive_2:=fun l=>∀ x ∈ l,P x) (fun o n s l ih=>h o n s l ih) (by intro x hx; cases hx)
  (fun e l he hl x hx=>by
   rcases List.mem_cons.1 hx with rfl | hx
   ·exact he
   ·exact hl x hx) e
mutual
def av:Ex -> AV
 | mk o n s l=>.agg [.int .i64 o,.int .i64 n,.str s,.view 4 (avs l)]
def avs:List Ex -> List AV
 | []=>[]
 | e :: l=>av e :: avs l
end
theorem avs_eq:∀ l:List Ex,avs l = l.map av
 | []=>rfl
 | e :: l=>by simp [avs,avs_eq l]
mutual
def nodes:Ex -> Nat
 | mk _ _ _ l=>nodesL l + 1
def nodesL:List Ex -> Nat
 | []=>0
 | e :: l=>nodes e + nodesL l
end
mutual
def dep:Ex -> Nat
 | mk _ _ _ l=>depL l + 1
def depL:List Ex -> Nat
 | []=>0
 | e :: l=>max (dep e) (depL l)
end
mutual
def allX (p:Ex -> Bool):Ex -> Bool
 | mk o n s l=>p (mk o n s l) && allL p l
def allL (p:Ex -> Bool):List Ex -> Bool
 | []=>true
 | e :: l=>allX p e && allL p l
end
mutual
theorem qR4:∀ e:Ex,dep e <= nodes e
 | mk _ _ _ l=>by have:=qzJ l; simp only [dep,nodes]; omega
theorem qzJ:∀ l:List Ex,depL l <= nodesL l
 | []=>Nat.le_refl _
 | e :: l=>by
  have:=qR4 e
  have:=qzJ l
  simp only [depL,nodesL]; omega
end
end Ex
abbrev EX (l:List Ex):List AV:=l.map Ex.av
theorem qzi (e:Ex):e.av = .agg [.int .i64 e.op,.int .i64 e.num,.str e.txt,.view 4 (EX e.args)]:=by
 cases e; simp [Ex.av,Ex.avs_eq,Ex.op,Ex.num,Ex.txt,Ex.args]
abbrev ksX:List CS:=[CS.int IntKind.i64,CS.int IntKind.i64,CS.str,CS.slice 4]
theorem hkX (e:Ex):qhi ksX (qac e.av) = true:=by rw [qzi]; rfl
theorem okX {l:List Ex} {n:Nat} (h:n < l.length):qcO ksX (EX l) (n:Int) = true:=qbV hkX h
def qr3 (s:Bs):Bool:=(qii s).2.2 == 0 && ((qii s).1.length == 1 && match (qii s).1.head? with
 | some t=>t.kind == 1 && t.text == s
 | none=>false)
def qfo (e:Ex):Bool:=e.op != 4 || qr3 e.txt
def qxH (l:List Bs) (s:Bs):List Bs:=
 if l[(l.takeWhile (qcn · s)).length]? = some s then l else l.take (l.takeWhile (qcn · s)).length ++ [s] ++ l.drop (l.takeWhile (qcn · s)).length
theorem qu1 {l:List Bs} {s x:Bs}:x ∈ qxH l s ↔ x ∈ l \/ x = s:=by
 unfold qxH
 split
 ·rename_i h
  have:=List.mem_of_getElem? h
  constructor
  ·exact .inl
  ·rintro (h | rfl)
   ·exact h
   ·exact this
 ·generalize (l.takeWhile (qcn · s)).length = k
  have:x ∈ l ↔ x ∈ l.take k \/ x ∈ l.drop k:=by rw [<- List.mem_append,List.take_append_drop]
  simp only [List.mem_append,List.mem_singleton,this]
  constructor
  ·rintro ((h | h) | h)
   ·exact .inl (.inl h)
   ·exact .inr h
   ·exact .inl (.inr h)
  ·rintro ((h | h) | h)
   ·exact .inl (.inl h)
   ·exact .inr h
   ·exact .inl (.inr h)
theorem qFS (l:List Bs) (s:Bs):(qxH l s).length <= l.length + 1:=by
 unfold qxH
 split
 ·omega
 ·simp; omega
theorem qiV {x:Bs}:∀ {ns l:List Bs},x ∈ ns.foldl qxH l ↔ x ∈ l \/ x ∈ ns
 | [],l=>by simp
 | s :: ns,l=>by
  rw [List.foldl_cons,qiV,qu1,List.mem_cons,or_assoc]
theorem qu0:∀ (ns l:List Bs),(ns.foldl qxH l).length <= l.length + ns.length
 | [],l=>by simp
 | s :: ns,l=>by
  have:=qu0 ns (qxH l s)
  have:=qFS l s
  simp only [List.foldl_cons,List.length_cons]; omega
mutual
def Ex.names:Ex -> List Bs
 | .mk o _ s l=>Ex.namesL (if o = 4 then [s] else []) l
def Ex.namesL:List Bs -> List Ex -> List Bs
 | acc,[]=>acc
 | acc,e :: l=>Ex.namesL ((Ex.names e).foldl qxH acc) l
end
mutual
theorem qCl:∀ e:Ex,e.names.length <= e.nodes
 | .mk o n s l=>by
  have:=qmD (if o = 4 then [s] else []) l
  simp only [Ex.names,Ex.nodes]
  split at this <;> simp_all <;> omega
theorem qmD:∀ (acc:List Bs) (l:List Ex),(Ex.namesL acc l).length <= acc.length + Ex.nodesL l
 | acc,[]=>by simp [Ex.namesL]
 | acc,e :: l=>by
  have h1:=qCl e
  have h2:=qu0 e.names acc
  have h3:=qmD (e.names.foldl qxH acc) l
  simp only [Ex.namesL,Ex.nodesL]; omega
end
mutual
theorem qCk:∀ e:Ex,e.names.all qr3 = e.allX qfo
 | .mk o n s l=>by
  simp only [Ex.names,Ex.allX,qmC,qfo,Ex.op,Ex.txt]
  by_cases h:o = 4 <;> simp [h]
theorem qmC:∀ (acc:List Bs) (l:List Ex),(Ex.namesL acc l).all qr3 = (acc.all qr3 && Ex.allL qfo l)
 | acc,[]=>by simp [Ex.namesL,Ex.allL]
 | acc,e :: l=>by
  have h1:=qCk e
  simp only [Ex.namesL,Ex.allL,qmC]
  have:(e.names.foldl qxH acc).all qr3 = (acc.all qr3 && e.names.all qr3):=by
   rw [Bool.eq_iff_iff,Bool.and_eq_true,List.all_eq_true,List.all_eq_true,List.all_eq_true]
   constructor
   ·exact fun h=>⟨fun x hx=>h x (qiV.2 (.inl hx)),fun x hx=>h x (qiV.2 (.inr hx))⟩
   ·rintro ⟨h,h'⟩ x hx
    exact (qiV.1 hx).elim (h x) (h' x)
  rw [this,h1,Bool.and_assoc]
end
end Go.Tk
namespace Go.Tk
open Go Go.Eng
set_option linter.unusedSimpArgs false
set_option linter.unusedVariables false
def exN (o:Int) (l:List Ex):Ex:=.mk o 0 [] l
end Go.Tk
namespace Go.Eng
theorem brF {α:Type} {b:Bool} {x y:DT α} (h:b = false):(DT.br b x y).ev = y.ev:=by rw [h]; rfl
theorem brT {α:Type} {b:Bool} {x y:DT α} (h:b = true):(DT.br b x y).ev = x.ev:=by rw [h]; rfl
theorem biS {α β:Type} [Inhabited β] {o:Option β} {v:β} {k:β -> DT α} {e:DT α} (h:o = some v):(DT.bi o k e).ev = (k v).ev:=by rw [h]; rfl
end Go.Eng
namespace Go.Tk
open Go Go.Eng
end Go.Tk

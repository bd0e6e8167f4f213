/- balance.Of over plain data: movements of an account in a journal, and what they come to. -/
import Derived.Test.YtbieppilagmdjaaGreatDoorE4
set_option linter.unusedVariables false
set_option linter.unusedSimpArgs false
set_option linter.unnecessarySimpa false
namespace Go.Tk
open Go Go.Eng
set_option maxRecDepth 20000
structure Leg where
 acc:Int
 amt:Int
 cur:List UInt8
def Leg.av (x:Leg):AV:=.agg [.int .i64 x.acc,.int .i64 x.amt,.str x.cur]
structure Enr where
 id:Int
 booked:Int
 value:Int
 kind:Int
 auth:Int
 period:Int
 key:List UInt8
 text:List UInt8
 legs:List Leg
 chain:Int
def Enr.av (x:Enr):AV:=.agg [.int .i64 x.id,.int .i64 x.booked,.int .i64 x.value,.int .i64 x.kind,.int .i64 x.auth,.int .i64 x.period,.str x.key,.str x.text,.view 3 (x.legs.map Leg.av),.int .u64 x.chain]
abbrev ELg (l:List Leg):List AV:=l.map Leg.av
abbrev EJr (l:List Enr):List AV:=l.map Enr.av
def qSA:AV -> Option Leg
 | .agg [.int .i64 a,.int .i64 n,.str s]=>some ⟨a,n,s⟩
 | _=>none
def qmz:List AV -> Option (List Leg)
 | []=>some []
 | x :: l=>match qSA x,qmz l with
  | some t,some ts=>some (t :: ts)
  | _,_=>none
def qzO:AV -> Option Enr
 | .agg [.int .i64 a,.int .i64 b,.int .i64 c,.int .i64 d,.int .i64 e,.int .i64 f,.str g,.str h,.view 3 ls,.int .u64 k]=>match qmz ls with
  | some l=>some ⟨a,b,c,d,e,f,g,h,l,k⟩
  | none=>none
 | _=>none
def qip:List AV -> Option (List Enr)
 | []=>some []
 | x :: l=>match qzO x,qip l with
  | some t,some ts=>some (t :: ts)
  | _,_=>none
theorem qvk:∀ l:List Leg,qmz (ELg l) = some l
 | []=>rfl
 | t :: l=>by
  have:=qvk l
  simp only [List.map_cons,qmz,this]
  rfl
theorem qkt:∀ {es:List AV} {l:List Leg},qmz es = some l -> es = ELg l
 | [],l,h=>by cases h; rfl
 | x :: es,l,h=>by
  simp only [qmz] at h
  split at h
  ·rename_i t ts h1 h2
   cases h
   rw [qkt h2]
   show x :: ELg ts = t.av :: ELg ts
   congr 1
   unfold qSA at h1
   split at h1
   ·cases h1; rfl
   ·cases h1
  ·cases h
theorem qNz (x:Enr):qzO x.av = some x:=by
 unfold Enr.av qzO
 simp only [qvk]
theorem qwt {v:AV} {x:Enr} (h:qzO v = some x):v = x.av:=by
 unfold qzO at h
 split at h
 ·split at h
  ·rename_i hl
   cases h
   rw [qkt hl]; rfl
  ·cases h
 ·cases h
theorem qnl:∀ l:List Enr,qip (EJr l) = some l
 | []=>rfl
 | t :: l=>by
  have:=qnl l
  simp only [List.map_cons,qip,this,qNz]
theorem qjP:∀ {es:List AV} {l:List Enr},qip es = some l -> es = EJr l
 | [],l,h=>by cases h; rfl
 | x :: es,l,h=>by
  simp only [qip] at h
  split at h
  ·rename_i t ts h1 h2
   cases h
   rw [qjP h2,qwt h1]; rfl
  ·cases h
def amE (a:Int) (l:List Leg):List Int:=(l.filter fun g=>decide (g.acc = a)).map fun g=>g.amt
def ams (a:Int) (l:List Enr):List Int:=l.flatMap fun x=>amE a x.legs
def qOA (l:List Int):Int:=l.foldl (fun n x=>IntKind.wrap .i64 (n - x)) 0
def qV4 (l:List Enr) (a:Int):Int:=qOA (ams a l)
theorem qEn (l:List Int) (x:Int):qOA (l ++ [x]) = IntKind.wrap .i64 (qOA l - x):=by simp [qOA]
theorem qlI (a:Int) (l m:List Enr):ams a (l ++ m) = ams a l ++ ams a m:=by simp [ams]
theorem qlH (a:Int) (l m:List Leg):amE a (l ++ m) = amE a l ++ amE a m:=by simp [amE]
theorem quq (a:Int) {l:List Enr} {k:Nat} (h:k < l.length):ams a (l.take (k + 1)) = ams a (l.take k) ++ amE a l[k].legs:=by
 rw [List.take_succ_eq_append_getElem h,qlI]; simp [ams]
theorem qnb (a:Int) {l:List Leg} {k:Nat} (h:k < l.length):amE a (l.take (k + 1)) = amE a (l.take k) ++ (if l[k].acc = a then [l[k].amt] else []):=by
 rw [List.take_succ_eq_append_getElem h,qlH]; congr 1
 by_cases hc:l[k].acc = a <;> simp [amE,hc]
theorem qQE (a:Int) (l:List Enr) (k:Nat):(ams a (l.take k)).length <= (ams a l).length:=by
 conv=>rhs; rw [<- List.take_append_drop k l,qlI]
 simp
theorem qQD (a:Int) (l:List Leg) (k:Nat):(amE a (l.take k)).length <= (amE a l).length:=by
 conv=>rhs; rw [<- List.take_append_drop k l,qlH]
 simp
theorem qVW (a:Int) {l:List Enr} {k q:Nat} (h:k < l.length) (hq:q < l[k].legs.length) (hc:l[k].legs[q].acc = a):(ams a (l.take k) ++ amE a (l[k].legs.take q)).length < (ams a l).length:=by
 have h1:=qQE a l (k + 1)
 have h2:=qQD a l[k].legs (q + 1)
 rw [quq a h] at h1
 rw [qnb a hq,if_pos hc] at h2
 simp only [List.length_append,List.length_cons,List.length_nil] at h1 h2 ⊢
 omega
def qW5 (l:List Enr):Bool:=decide (l.length <= 140737488355328) && l.all fun x=>decide (x.legs.length <= 140737488355328)
def ofB (es:List AV):Bool:=(qip es).isSome && qW5 ((qip es).getD [])
def ofI (es:List AV) (a:Int):Int:=qV4 ((qip es).getD []) a
def ofE:Ent:=fun x h=>match x,h with
 | [.view 10 es,.int .i64 a],[]=>[(ofB es,.ret (.int .i64 (ofI es a)),[])]
 | _,_=>[]
theorem qXf (l:List Enr) (a:Int):ofI (EJr l) a = qV4 l a:=by unfold ofI; rw [qnl]; rfl
end Go.Tk

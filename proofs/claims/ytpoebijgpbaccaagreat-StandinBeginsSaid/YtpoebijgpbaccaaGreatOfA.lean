/- balance.Of over plain data: movements of an account in a journal, and what they come to. -/
import Derived.Test.YtpoebijgpbaccaaGreatE4
set_option linter.unusedVariables false
set_option linter.unusedSimpArgs false
set_option linter.unnecessarySimpa false
namespace Go.Tk
open Go Go.Eng
set_option maxRecDepth 20000
structure Leg where
 acc:Int
 amt:Int
 cur:List UInt8
def Leg.av (x:Leg):AV:=.agg [.int .i64 x.acc,.int .i64 x.amt,.str x.cur]
structure Enr where
 id:Int
 booked:Int
 value:Int
 kind:Int
 auth:Int
 period:Int
 key:List UInt8
 text:List UInt8
 legs:List Leg
 chain:Int
def Enr.av (x:Enr):AV:=.agg [.int .i64 x.id,.int .i64 x.booked,.int .i64 x.value,.int .i64 x.kind,.int .i64 x.auth,.int .i64 x.period,.str x.key,.str x.text,.view 3 (x.legs.map Leg.av),.int .u64 x.chain]
abbrev ELg (l:List Leg):List AV:=l.map Leg.av
abbrev EJr (l:List Enr):List AV:=l.map Enr.av
def qY3:AV -> Option Leg
 | .agg [.int .i64 a,.int .i64 n,.str s]=>some ⟨a,n,s⟩
 | _=>none
def qpg:List AV -> Option (List Leg)
 | []=>some []
 | x :: l=>match qY3 x,qpg l with
  | some t,some ts=>some (t :: ts)
  | _,_=>none
def qE4:AV -> Option Enr
 | .agg [.int .i64 a,.int .i64 b,.int .i64 c,.int .i64 d,.int .i64 e,.int .i64 f,.str g,.str h,.view 3 ls,.int .u64 k]=>match qpg ls with
  | some l=>some ⟨a,b,c,d,e,f,g,h,l,k⟩
  | none=>none
 | _=>none
def qju:List AV -> Option (List Enr)
 | []=>some []
 | x :: l=>match qE4 x,qju l with
  | some t,some ts=>some (t :: ts)
  | _,_=>none
theorem qzd:∀ l:List Leg,qpg (ELg l) = some l
 | []=>rfl
 | t :: l=>by
  have:=qzd l
  simp only [List.map_cons,qpg,this]
  rfl
theorem qm5:∀ {es:List AV} {l:List Leg},qpg es = some l -> es = ELg l
 | [],l,h=>by cases h; rfl
 | x :: es,l,h=>by
  simp only [qpg] at h
  split at h
  ·rename_i t ts h1 h2
   cases h
   rw [qm5 h2]
   show x :: ELg ts = t.av :: ELg ts
   congr 1
   unfold qY3 at h1
   split at h1
   ·cases h1; rfl
   ·cases h1
  ·cases h
theorem qU0 (x:Enr):qE4 x.av = some x:=by
 unfold Enr.av qE4
 simp only [qzd]
theorem qAs {v:AV} {x:Enr} (h:qE4 v = some x):v = x.av:=by
 unfold qE4 at h
 split at h
 ·split at h
  ·rename_i hl
   cases h
   rw [qm5 hl]; rfl
  ·cases h
 ·cases h
theorem qqh:∀ l:List Enr,qju (EJr l) = some l
 | []=>rfl
 | t :: l=>by
  have:=qqh l
  simp only [List.map_cons,qju,this,qU0]
theorem qlH:∀ {es:List AV} {l:List Enr},qju es = some l -> es = EJr l
 | [],l,h=>by cases h; rfl
 | x :: es,l,h=>by
  simp only [qju] at h
  split at h
  ·rename_i t ts h1 h2
   cases h
   rw [qlH h2,qAs h1]; rfl
  ·cases h
def amE (a:Int) (l:List Leg):List Int:=(l.filter fun g=>decide (g.acc = a)).map fun g=>g.amt
def ams (a:Int) (l:List Enr):List Int:=l.flatMap fun x=>amE a x.legs
def qCO (l:List Int):Int:=l.foldl (fun n x=>IntKind.wrap .i64 (n - x)) 0
def qW6 (l:List Enr) (a:Int):Int:=qCO (ams a l)
theorem qLI (l:List Int) (x:Int):qCO (l ++ [x]) = IntKind.wrap .i64 (qCO l - x):=by simp [qCO]
theorem qor (a:Int) (l m:List Enr):ams a (l ++ m) = ams a l ++ ams a m:=by simp [ams]
theorem qoq (a:Int) (l m:List Leg):amE a (l ++ m) = amE a l ++ amE a m:=by simp [amE]
theorem qx9 (a:Int) {l:List Enr} {k:Nat} (h:k < l.length):ams a (l.take (k + 1)) = ams a (l.take k) ++ amE a l[k].legs:=by
 rw [List.take_succ_eq_append_getElem h,qor]; simp [ams]
theorem qqa (a:Int) {l:List Leg} {k:Nat} (h:k < l.length):amE a (l.take (k + 1)) = amE a (l.take k) ++ (if l[k].acc = a then [l[k].amt] else []):=by
 rw [List.take_succ_eq_append_getElem h,qoq]; congr 1
 by_cases hc:l[k].acc = a <;> simp [amE,hc]
theorem qXS (a:Int) (l:List Enr) (k:Nat):(ams a (l.take k)).length <= (ams a l).length:=by
 conv=>rhs; rw [<- List.take_append_drop k l,qor]
 simp
theorem qXR (a:Int) (l:List Leg) (k:Nat):(amE a (l.take k)).length <= (amE a l).length:=by
 conv=>rhs; rw [<- List.take_append_drop k l,qoq]
 simp
theorem q3g (a:Int) {l:List Enr} {k q:Nat} (h:k < l.length) (hq:q < l[k].legs.length) (hc:l[k].legs[q].acc = a):(ams a (l.take k) ++ amE a (l[k].legs.take q)).length < (ams a l).length:=by
 have h1:=qXS a l (k + 1)
 have h2:=qXR a l[k].legs (q + 1)
 rw [qx9 a h] at h1
 rw [qqa a hq,if_pos hc] at h2
 simp only [List.length_append,List.length_cons,List.length_nil] at h1 h2 ⊢
 omega
def qY4 (l:List Enr):Bool:=decide (l.length <= 140737488355328) && l.all fun x=>decide (x.legs.length <= 140737488355328)
def ofB (es:List AV):Bool:=(qju es).isSome && qY4 ((qju es).getD [])
def ofI (es:List AV) (a:Int):Int:=qW6 ((qju es).getD []) a
def ofE:Ent:=fun x h=>match x,h with
 | [.view 10 es,.int .i64 a],[]=>[(ofB es,.ret (.int .i64 (ofI es a)),[])]
 | _,_=>[]
theorem qVo:∀ a h,(ofE a h).length <= 1:=by
 intro a h
 unfold ofE
 split <;> simp
theorem q4r (l:List Enr) (h:qY4 l = true):ofB (EJr l) = true:=by unfold ofB; rw [qqh]; exact h
theorem qZq (l:List Enr) (a:Int):ofI (EJr l) a = qW6 l a:=by unfold ofI; rw [qqh]; rfl
end Go.Tk

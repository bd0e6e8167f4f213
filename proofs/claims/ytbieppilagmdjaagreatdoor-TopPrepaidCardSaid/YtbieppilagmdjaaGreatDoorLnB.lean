/- Loans over plain data: the parts of payments (for TopPrepaid; not used by a claim yet). -/
import Derived.Test.YtbieppilagmdjaaGreatDoorLnA
set_option linter.unusedVariables false
set_option linter.unusedSimpArgs false
set_option linter.unnecessarySimpa false
namespace Go.Tk
def qvT (fee i o:Int):List (Int × Int):=[(1,fee),(2,0),(3,i),(4,o)].filter fun p=>p.2 != 0
def owL (a b:Int):List (Int × Int):=[(1,0),(2,0),(3,a),(4,b)].filter fun p=>!decide (p.2 <= 0)
def qE9 (k:Int) (l:List (Int × Int)):Int:=((l.filter fun p=>p.1 == k).map (·.2)).sum
def sumL (l:List (Int × Int)):Int:=(l.map (·.2)).sum
theorem qrU:∀ l:List (Int × Int),sumL (l.filter fun p=>p.2 != 0) = sumL l
 | []=>rfl
 | p :: l=>by
  have ih:=qrU l
  unfold sumL at ih ⊢
  by_cases h:p.2 = 0
  ·rw [List.filter_cons_of_neg (by simp [h]),ih,List.map_cons,List.sum_cons,h,Int.zero_add]
  ·rw [List.filter_cons_of_pos (by simp [h]),List.map_cons,List.map_cons,List.sum_cons,List.sum_cons,ih]
theorem qGA (fee i o:Int):sumL (qvT fee i o) = fee + i + o:=by
 unfold qvT
 rw [qrU]
 simp [sumL]
 omega
theorem qEb (fee i o:Int):qE9 4 (qvT fee i o) = o:=by
 unfold qvT qE9
 rw [List.filter_filter]
 by_cases h:o = 0
 ·subst h; simp [List.filter_cons]
 ·simp [List.filter_cons,h]
theorem qGj:owL 0 0 = []:=rfl
def payL (D:List Du) (n on:Int) (s:Ln):List (Int × Int):=
 (if duI (qaO D on) - s.pi > 0 then [(3,tkI D n on s)] else []) ++ ((if duP (qaO D on) - s.pp > 0 /\ n - tkI D n on s ≠ 0 then [(4,tkP D n on s)] else []) ++ (if n - tkI D n on s - tkP D n on s > 0 then [(5,n - tkI D n on s - tkP D n on s)] else []))
theorem qDn (D:List Du) (n on:Int) (s:Ln):qE9 4 (payL D n on s) = tkP D n on s:=by
 unfold payL qE9
 rw [List.filter_append,List.filter_append]
 have h1:(List.filter (fun p:Int × Int=>p.1 == 4) (if duI (qaO D on) - s.pi > 0 then [((3:Int),tkI D n on s)] else [])) = []:=by split <;> rfl
 have h3:(List.filter (fun p:Int × Int=>p.1 == 4) (if n - tkI D n on s - tkP D n on s > 0 then [((5:Int),n - tkI D n on s - tkP D n on s)] else [])) = []:=by split <;> rfl
 rw [h1,h3,List.nil_append,List.append_nil]
 by_cases h:duP (qaO D on) - s.pp > 0 /\ n - tkI D n on s ≠ 0
 ·rw [if_pos h]; simp
 ·rw [if_neg h]
  unfold tkP
  rw [if_neg h]; rfl
end Go.Tk

/- The parentheses of printed expressions are in pairs. -/
import Derived.Test.YtgpbobelbcbcaaaGreatDoorPsB
set_option linter.unusedVariables false
set_option linter.unusedSimpArgs false
set_option linter.unnecessarySimpa false
namespace Go.Tk
open Go Go.Eng
set_option linter.unusedSimpArgs false
set_option linter.unusedVariables false
def sgn (t:Tok):Int:=if t.text = [40] then 1 else if t.text = [41] then -1 else 0
def qo5:List Tok -> Int
 | []=>0
 | t :: l=>sgn t + qo5 l
theorem qhQ:∀ (a b:List Tok),qo5 (a ++ b) = qo5 a + qo5 b
 | [],b=>by simp [qo5]
 | t :: a,b=>by simp only [List.cons_append,qo5,qhQ a b]; omega
def Bal (l:List Tok):Prop:=qo5 l = 0 /\ ∀ n,0 <= qo5 (l.take n)
theorem Bal.nil:Bal []:=⟨rfl,fun n=>by simp [qo5]⟩
theorem Bal.app {a b:List Tok} (ha:Bal a) (hb:Bal b):Bal (a ++ b):=by
 refine ⟨by rw [qhQ,ha.1,hb.1]; rfl,fun n=>?_⟩
 rw [List.take_append,qhQ]
 have h1:=ha.2 n
 have h2:=hb.2 (n - a.length)
 omega
theorem Bal.one {t:Tok} (h:sgn t = 0):Bal [t]:=by
 refine ⟨by simp [qo5,h],fun n=>?_⟩
 cases n with
 | zero=>simp [qo5]
 | succ n=>simp [qo5,h]
theorem Bal.cons {t:Tok} {l:List Tok} (h:sgn t = 0) (hl:Bal l):Bal (t :: l):=Bal.app (Bal.one h) hl
theorem Bal.wrap {a b:Tok} {l:List Tok} (h1:sgn a = 1) (h2:sgn b = -1) (hl:Bal l):Bal (a :: (l ++ [b])):=by
 refine ⟨?_,fun n=>?_⟩
 ·simp only [qo5,qhQ,hl.1,h1,h2]; omega
 ·cases n with
  | zero=>simp [qo5]
  | succ n=>
   rw [List.take_succ_cons,List.take_append]
   simp only [qo5,qhQ,h1]
   have:=hl.2 n
   rcases Nat.eq_zero_or_pos (n - l.length) with hz | hz
   ·rw [hz]; simp only [List.take_zero,qo5]; omega
   ·have h3:List.take (n - l.length) [b] = [b]:=List.take_of_length_le (by simp; omega)
    have h4:l.take n = l:=List.take_of_length_le (by omega)
    rw [h3,h4,hl.1]
    simp only [qo5,h2]; omega
theorem Bal.par {r:Nat} {e:Ex} (h:Bal (wrB e)):Bal (par r e):=by
 unfold Tk.par qBz
 split
 ·exact h.wrap (by decide) (by decide)
 ·exact h
end Go.Tk

/- The parentheses of printed expressions are in pairs. -/
import Derived.Test.YtgpbobelbcbcaaaGreatDoorPsB
set_option linter.unusedVariables false
set_option linter.unusedSimpArgs false
set_option linter.unnecessarySimpa false
namespace Go.Tk
open Go Go.Eng
set_option linter.unusedSimpArgs false
set_option linter.unusedVariables false
def sgn (t:Tok):Int:=if t.text = [40] then 1 else if t.text = [41] then -1 else 0
def qo5:List Tok -> Int
 | []=>0
 | t :: l=>sgn t + qo5 l
theorem qhQ:∀ (a b:List Tok),qo5 (a ++ b) = qo5 a + qo5 b
 | [],b=>by simp [qo5]
 | t :: a,b=>by simp only [List.cons_append,qo5,qhQ a b]; omega
def Bal (l:List Tok):Prop:=qo5 l = 0 /\ ∀ n,0 <= qo5 (l.take n)
theorem Bal.nil:Bal []:=⟨rfl,fun n=>by simp [qo5]⟩
theorem Bal.app {a b:List Tok} (ha:Bal a) (hb:Bal b):Bal (a ++ b):=by
 refine ⟨by rw [qhQ,ha.1,hb.1]; rfl,fun n=>?_⟩
 rw [List.take_append,qhQ]
 have h1:=ha.2 n
 have h2:=hb.2 (n - a.length)
 omega
theorem Bal.one {t:Tok} (h:sgn t = 0):Bal [t]:=by
 refine ⟨by simp [qo5,h],fun n=>?_⟩
 cases n with
 | zero=>simp [qo5]
 | succ n=>simp [qo5,h]
theorem Bal.cons {t:Tok} {l:List Tok} (h:sgn t = 0) (hl:Bal l):Bal (t :: l):=Bal.app (Bal.one h) hl
theorem Bal.wrap {a b:Tok} {l:List Tok} (h1:sgn a = 1) (h2:sgn b = -1) (hl:Bal l):Bal (a :: (l ++ [b])):=by
 refine ⟨?_,fun n=>?_⟩
 ·simp only [qo5,qhQ,hl.1,h1,h2]; omega
 ·cases n with
  | zero=>simp [qo5]
  | succ n=>
   rw [List.take_succ_cons,List.take_append]
   simp only [qo5,qhQ,h1]
   have:=hl.2 n
   rcases Nat.eq_zero_or_pos (n - l.length) with hz | hz
   ·rw [hz]; simp only [List.take_zero,qo5]; omega
   ·have h3:List.take (n - l.length) [b] = [b]:=List.take_of_length_le (by simp; omega)
    have h4:l.take n = l:=List.take_of_length_le (by omega)
    rw [h3,h4,hl.1]
    simp only [qo5,h2]; omega
theorem qzw {t:Tok} (h1:t.text ≠ [40]) (h2:t.text ≠ [41]):sgn t = 0:=by unfold sgn; rw [if_neg h1,if_neg h2]
theorem qDM {l:Bs} (h:l.all (at8 qbd) = true):l ≠ [40] /\ l ≠ [41]:=by
 constructor <;> (rintro rfl; revert h; decide)
theorem qq9 {n:Int} (h:0 <= n):Lib.itoa n ≠ [40] /\ Lib.itoa n ≠ [41]:=by
 rw [qi1 h]
 exact qDM (qbb.1 (qhy n.toNat n.toNat (Nat.le_refl _)).1).1
theorem qHB (n:Nat):qrw n ≠ [40] /\ qrw n ≠ [41]:=by
 have h:(qrw n).getLast? = some 37:=by
  unfold qrw
  rw [<- List.append_assoc]; simp
 constructor <;> (intro he; rw [he] at h; revert h; decide)
theorem qGl {s:Bs} (h:qkY s = true):s ≠ [40] /\ s ≠ [41]:=by
 rw [qxF] at h
 constructor <;> (rintro rfl; revert h; decide)
theorem Bal.par {r:Nat} {e:Ex} (h:Bal (wrB e)):Bal (par r e):=by
 unfold Tk.par qBz
 split
 ·exact h.wrap (by decide) (by decide)
 ·exact h
theorem qLf (op:Int):sgn (wT (qc9 op)) = 0:=by
 unfold qc9
 repeat' split
 all_goals decide
theorem qVI (c:Prop) [Decidable c]:sgn (wT (if c then [109,105,110] else [109,97,120])) = 0:=by split <;> decide
theorem qXb:∀ e:Ex,e.allX qaK = true -> e.allX qbl = true -> Bal (wrB e):=by
 intro e
 induction e using Ex.ind with
 | h o n s l ih=>
  intro hf hn
  rw [Ex.allX_eq,Bool.and_eq_true,List.all_eq_true] at hf hn
  obtain ⟨hop,hn0,hn1,htx⟩:=qdp hf.1
  have iha:∀ x ∈ l,Bal (wrB x):=fun x hx=>ih x hx (hf.2 x hx) (hn.2 x hx)
  simp only [Ex.op,Ex.args,Ex.num,Ex.txt] at hop hn0 hn1 htx
  match l,hop,iha with
  | [],hop,iha=>
   rw [qcr rfl]
   simp only [Ex.op,Ex.num,Ex.txt]
   unfold qnk
   split
   ·exact Bal.one (qzw (qq9 hn0).1 (qq9 hn0).2)
   ·split
    ·exact Bal.cons (by decide) (Bal.one (qzw (qq9 hn0).1 (qq9 hn0).2))
    ·split
     ·exact Bal.one (qzw (qHB _).1 (qHB _).2)
     ·rename_i h1 h2 h3
      have h4:o = 4:=by
       unfold qaE at hop
       split at hop
       ·omega
       ·split at hop
        ·cases hop
        ·split at hop
         ·cases hop
         ·split at hop <;> cases hop
      have hv:qkY s = true:=by
       have:=hn.1
       simp only [qbl,Ex.op,Ex.txt,h4] at this
       simpa using this
      exact Bal.one (qzw (qGl hv).1 (qGl hv).2)
  | [a],hop,iha=>
   rw [qhu rfl]
   refine Bal.cons ?_ (iha a (by simp)).par
   split <;> decide
  | [a,b],hop,iha=>
   by_cases h:o = 17 \/ o = 18
   ·rw [qff (e:=.mk o n s [a,b]) rfl h]
    simp only [Ex.op]
    refine Bal.cons (qVI _) ?_
    have e1:wT [40] :: (wrB a ++ wT [44] :: (wrB b ++ [wT [41]])) = wT [40] :: ((wrB a ++ wT [44] :: wrB b) ++ [wT [41]]):=by simp
    rw [e1]
    exact Bal.wrap (by decide) (by decide) ((iha a (by simp)).app (Bal.cons (by decide) (iha b (by simp))))
   ·rw [qkZ (e:=.mk o n s [a,b]) rfl (fun h'=>h (.inl h')) (fun h'=>h (.inr h'))]
    exact (iha a (by simp)).par.app (Bal.cons (qLf _) (iha b (by simp)).par)
  | a :: b :: c :: m,hop,iha=>
   rw [qxI rfl]
   exact Bal.cons (by decide) ((iha a (by simp)).app (Bal.cons (by decide) ((iha b (by simp)).app (Bal.cons (by decide) (iha c (by simp))))))
def clF:Int -> Nat -> List Tok -> Nat
 | _,_,[]=>0
 | o,i,t :: r=>if o + sgn t = 0 then i else clF (o + sgn t) (i + 1) r
theorem qQw (t:Tok):-1 <= sgn t:=by
 unfold sgn
 split
 ·omega
 ·split <;> omega
theorem qOm:∀ (s:List Tok) (o:Int) (i:Nat),0 < o -> o + qo5 s <= 0 -> i <= clF o i s /\ clF o i s < i + s.length
 | [],o,i,h,h2=>by simp only [qo5] at h2; omega
 | t :: r,o,i,h,h2=>by
  simp only [qo5] at h2
  have:=qQw t
  simp only [clF,List.length_cons]
  split
  ·omega
  ·have:=qOm r (o + sgn t) (i + 1) (by omega) (by omega)
   omega
theorem qY0 {l:List Tok} (hb:Bal l) {i:Nat} (hi:i < l.length) (ht:l[i].text = [40]):i < clF 0 i (l.drop i) /\ clF 0 i (l.drop i) < l.length:=by
 have hd:l.drop i = l[i] :: l.drop (i + 1):=(List.getElem_cons_drop hi).symm
 have hs:sgn l[i] = 1:=by unfold sgn; rw [if_pos ht]
 have h1:=qhQ (l.take i) (l.drop i)
 rw [List.take_append_drop,hb.1,hd] at h1
 simp only [qo5,hs] at h1
 have h2:=hb.2 i
 rw [hd]
 simp only [clF,hs]
 rw [if_neg (by omega)]
 have:=qOm (l.drop (i + 1)) (0 + 1) (i + 1) (by omega) (by omega)
 rw [List.length_drop] at this
 omega
end Go.Tk

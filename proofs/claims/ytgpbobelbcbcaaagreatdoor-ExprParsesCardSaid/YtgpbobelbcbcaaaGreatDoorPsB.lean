/- Expressions as tokens: what is printed is read back; no parentheses can be left out. -/
import Derived.Test.YtgpbobelbcbcaaaGreatDoorPsA
set_option linter.unusedVariables false
set_option linter.unusedSimpArgs false
set_option linter.unnecessarySimpa false
namespace Go.Tk
open Go Go.Eng
set_option linter.unusedSimpArgs false
set_option linter.unusedVariables false
def qaL (op:Int):Nat:=if op = 19 then 0 else if op = 15 then 1 else if op = 14 then 2 else if op = 16 then 3 else if op = 10 \/ op = 11 \/ op = 12 \/ op = 13 then 4 else if op = 5 \/ op = 6 then 5 else if op = 7 \/ op = 8 then 6 else if op = 9 then 7 else 8
def mkT (k:Int) (s:Bs):Tok:=⟨k,1,s⟩
def wT (s:Bs):Tok:=mkT (qgB s) s
def qc9 (op:Int):Bs:=if op = 5 then [43] else if op = 6 then [45] else if op = 7 then [42] else if op = 8 then [47] else if op = 10 then [61,61] else if op = 11 then [33,61] else if op = 12 then [60] else if op = 13 then [60,61] else if op = 14 then [97,110,100] else [111,114]
def qnk (op n:Int) (s:Bs):List Tok:=if op = 1 then [mkT 2 (Lib.itoa n)] else if op = 2 then [wT [36],mkT 2 (Lib.itoa n)] else if op = 3 then [mkT 3 (qrw n.toNat)] else [mkT 1 s]
def qBz (r:Nat) (op:Int) (l:List Tok):List Tok:=if qaL op < r then wT [40] :: (l ++ [wT [41]]) else l
def qcQ (op:Int):Nat:=if qaL op = 4 then 5 else qaL op
def wrB:Ex -> List Tok
 | .mk o n s []=>qnk o n s
 | .mk o n s [a]=>wT (if o = 16 then [110,111,116] else [45]) :: qBz (qaL o) a.op (wrB a)
 | .mk o n s [a,b]=>if o = 17 \/ o = 18 then wT (if o = 17 then [109,105,110] else [109,97,120]) :: wT [40] :: (wrB a ++ wT [44] :: (wrB b ++ [wT [41]]))
   else qBz (qcQ o) a.op (wrB a) ++ wT (qc9 o) :: qBz (qaL o + 1) b.op (wrB b)
 | .mk o n s (a :: b :: c :: _)=>wT [105,102] :: (wrB a ++ wT [116,104,101,110] :: (wrB b ++ wT [101,108,115,101] :: wrB c))
def par (r:Nat) (e:Ex):List Tok:=qBz r e.op (wrB e)
theorem qdR {r:Nat} {e:Ex} (h:r <= qaL e.op):par r e = wrB e:=by unfold par qBz; rw [if_neg (by omega)]
theorem qnS {r:Nat} {e:Ex} (h:qaL e.op < r):par r e = wT [40] :: (wrB e ++ [wT [41]]):=by unfold par qBz; rw [if_pos h]
theorem qcz (e:Ex):par 0 e = wrB e:=qdR (Nat.zero_le _)
theorem qdp {e:Ex} (h:qaK e = true):qaE e.op = (e.args.length:Int) /\ 0 <= e.num /\ e.num <= qdO e.op /\ (e.txt = [] \/ e.op = 4):=by
 simp only [qaK,Bool.and_eq_true,beq_iff_eq,decide_eq_true_eq,Bool.or_eq_true,ge_iff_le] at h
 exact h
theorem qk7 {e:Ex} (h:qaE e.op = (e.args.length:Int)) (h2:e.args.length = 2):5 <= e.op /\ e.op <= 18 /\ e.op ≠ 9 /\ e.op ≠ 16:=by
 rw [h2] at h
 unfold qaE at h
 split at h
 ·cases h
 ·split at h
  ·cases h
  ·split at h
   ·cases h
   ·split at h
    ·omega
    ·cases h
def lvR:Nat -> Nat
 | 0=>1 | 1=>2 | 2=>4 | 3=>5 | _=>6
def stopL (r:Nat) (l:List Tok):Prop:=∀ k,k <= 4 -> r <= lvR k -> opAt k l = 0
theorem stopL.up {r r':Nat} {l:List Tok} (h:stopL r l) (hr:r <= r'):stopL r' l:=fun k hk hl=>h k hk (by omega)
theorem qbc (s:Bs) (t:Tok) (l:List Tok):isW s (t :: l) = isW s [t]:=rfl
theorem qjd {op:Int} (h1:5 <= op) (h2:op <= 15) (h9:op ≠ 9):op = 5 \/ op = 6 \/ op = 7 \/ op = 8 \/ op = 10 \/ op = 11 \/ op = 12 \/ op = 13 \/ op = 14 \/ op = 15:=by omega
theorem qgh {s:Bs} {t:Tok} {l:List Tok} (h:isW s (t :: l) = true):t.text = s /\ t.kind = qgB s:=by
 simp only [isW,Bool.and_eq_true,beq_iff_eq] at h; exact h
theorem qrE (op:Int):qaL op <= 8:=by unfold qaL; (repeat' split) <;> omega
theorem qi1 {n:Int} (h:0 <= n):Lib.itoa n = Lib.decDigits n.toNat:=by unfold Lib.itoa; rw [if_neg (by omega)]
theorem qns {n:Int} (h:0 <= n) (h2:n <= 9223372036854775807):qk4 (Lib.itoa n) = some n:=by
 rw [qi1 h]
 obtain ⟨i1,i2,_⟩:=qhy n.toNat n.toNat (Nat.le_refl _)
 unfold qk4
 rw [qiY i1,i1,i2,decide_eq_false (by omega)]
 simp only [Bool.true_and,Bool.not_false,cond_true,Option.some.injEq]
 omega
theorem qcr {e:Ex} (h:e.args = []):wrB e = qnk e.op e.num e.txt:=by
 obtain ⟨o,n,s,l⟩:=e
 simp only [Ex.args] at h; subst h
 rw [wrB]; rfl
theorem qhu {e a:Ex} (h:e.args = [a]):wrB e = wT (if e.op = 16 then [110,111,116] else [45]) :: par (qaL e.op) a:=by
 obtain ⟨o,n,s,l⟩:=e
 simp only [Ex.args] at h; subst h
 rw [wrB]; rfl
theorem qkZ {e a b:Ex} (h:e.args = [a,b]) (h7:e.op ≠ 17) (h8:e.op ≠ 18):wrB e = par (qcQ e.op) a ++ wT (qc9 e.op) :: par (qaL e.op + 1) b:=by
 obtain ⟨o,n,s,l⟩:=e
 simp only [Ex.args] at h; subst h
 simp only [Ex.op] at h7 h8
 rw [wrB,if_neg (by omega)]; rfl
theorem qff {e a b:Ex} (h:e.args = [a,b]) (h7:e.op = 17 \/ e.op = 18):wrB e = wT (if e.op = 17 then [109,105,110] else [109,97,120]) :: wT [40] :: (wrB a ++ wT [44] :: (wrB b ++ [wT [41]])):=by
 obtain ⟨o,n,s,l⟩:=e
 simp only [Ex.args] at h; subst h
 simp only [Ex.op] at h7
 rw [wrB,if_pos h7]; rfl
theorem qxI {e a b c:Ex} {m:List Ex} (h:e.args = a :: b :: c :: m):wrB e = wT [105,102] :: (wrB a ++ wT [116,104,101,110] :: (wrB b ++ wT [101,108,115,101] :: wrB c)):=by
 obtain ⟨o,n,s,l⟩:=e
 simp only [Ex.args] at h; subst h
 rw [wrB]
theorem qxd (r:Nat) (e:Ex):(wrB e).length <= (par r e).length /\ (par r e).length <= (wrB e).length + 2:=by
 unfold par qBz
 split
 ·simp only [List.length_cons,List.length_append,List.length_nil]; omega
 ·omega
end Go.Tk

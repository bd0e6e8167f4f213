/- Tokens over plain data: what the program's package token computes. -/
import Derived.Test.YtgpbobelbcbcaaaGreatDoorE3
import Derived.Test.YtgpbobelbcbcaaaGreatDoorE4
set_option linter.unusedVariables false
set_option linter.unusedSimpArgs false
set_option linter.unnecessarySimpa false
namespace Go.Tk
open Go Go.Eng
set_option maxRecDepth 20000
abbrev Bs:=List UInt8
def qp1 (x:Int):Bool:=decide (x >= 97) && decide (x <= 122)
def qbd (x:Int):Bool:=decide (x >= 48) && decide (x <= 57)
def qdv (x:Int):Bool:=(qp1 x || qbd x) || x == 95
def qeH (x:Int):Bool:=(qdv x || x == 46) || x == 37
def qhx (x:Int):Bool:=x != 10
def at8 (p:Int -> Bool) (c:UInt8):Bool:=p (c.toNat:Int)
theorem w32 (c:UInt8):IntKind.i32.wrap (c.toNat:Int) = (c.toNat:Int):=by
 have:=c.toNat_lt
 simp [IntKind.wrap,IntKind.signed,IntKind.bits]
 split <;> omega
theorem qbA {n m:Nat} (h:n <= m):leB (n:Int) m = true:=by simp [leB,h]
theorem qSg {n m:Nat}:leB (n:Int) m = decide (n <= m):=by simp [leB]
section
variable {α:Type} {p:α -> Bool}
theorem qgK:∀ (l:List α),(l.takeWhile p).length <= l.length
 | []=>Nat.le_refl _
 | x :: l=>by
  rw [List.takeWhile_cons]
  cases p x
  ·simp
  ·simpa using qgK l
theorem qSZ:∀ {l:List α} {n:Nat} (h:n < l.length),n < (l.takeWhile p).length -> p l[n] = true
 | x :: l,n,h,hn=>by
  rw [List.takeWhile_cons] at hn
  cases hp:p x
  ·simp [hp] at hn
  ·simp only [hp,if_true,List.length_cons] at hn
   cases n with
   | zero=>exact hp
   | succ n=>exact qSZ (l:=l) (by simpa using h) (by omega)
theorem qI8:∀ {l:List α} (h:(l.takeWhile p).length < l.length),p l[(l.takeWhile p).length] = false
 | x :: l,h=>by
  cases hp:p x
  ·simp [List.takeWhile_cons,hp]
  ·have h':(l.takeWhile p).length < l.length:=by
    simpa [List.takeWhile_cons,hp] using h
   have:=qI8 (l:=l) h'
   simp only [List.takeWhile_cons,hp,if_true,List.length_cons,List.getElem_cons_succ]
   exact this
theorem qiH:∀ (l:List α),l.take (l.takeWhile p).length = l.takeWhile p
 | []=>rfl
 | x :: l=>by
  rw [List.takeWhile_cons]
  cases p x
  ·rfl
  ·simp [qiH l]
theorem qoR {l:List α}:l.takeWhile p = l ↔ l.all p = true:=by
 induction l with
 | nil=>simp
 | cons x l ih=>
  rw [List.takeWhile_cons]
  cases hp:p x
  ·simp [hp]
  ·simp [hp,ih]
theorem qI9 (l:List α):∃ r,l = l.takeWhile p ++ r:=⟨l.dropWhile p,(List.takeWhile_append_dropWhile).symm⟩
theorem qI7 {l:List α}:(l.takeWhile p).all p = true:=by
 induction l with
 | nil=>rfl
 | cons x l ih=>
  rw [List.takeWhile_cons]
  cases hp:p x
  ·rfl
  ·simp [hp]
end
theorem qJ7 {α:Type} {l:List α} {p:α -> Bool}:l.any p = decide (l.findIdx p < l.length):=by
 rw [Bool.eq_iff_iff,decide_eq_true_eq,List.findIdx_lt_length,List.any_eq_true]
theorem qjg {st:Bs × Int -> Option (Rd (Bs × Int))} {p:Int -> Bool} {s:Bs}
  (hs:∀ n (h:n < s.length),st (s,(n:Int)) = some (bif p (s[n].toNat:Int) then .next (s,((n + 1:Nat):Int)) else .done 0)) (he:st (s,(s.length:Int)) = some (.done 0)) :
  qaw st (s,0) = some (0,s,((s.takeWhile (at8 p)).length:Int)):=by
 refine qdt (fun n=>(s,(n:Int))) (s.takeWhile (at8 p)).length 0 0 (Nat.zero_le _) (fun m _ hm=>?_) ?_
 ·have h:=Nat.lt_of_lt_of_le hm (qgK s)
  have:=qSZ h hm
  rw [hs m h,show p (s[m].toNat:Int) = true from this]; rfl
 ·by_cases h:(s.takeWhile (at8 p)).length < s.length
  ·have:=qI8 h
   rw [hs _ h,show p (s[(s.takeWhile (at8 p)).length].toNat:Int) = false from this]; rfl
  ·have:=qgK (p:=at8 p) s
   rw [show (s.takeWhile (at8 p)).length = s.length by omega]; exact he
def spI (x:Int):Bool:=x == 32 || (x == 9 || x == 10)
def blk:Bool -> Bs -> Nat
 | _,[]=>0
 | false,c :: r=>bif spI c.toNat then blk false r + 1 else bif (c.toNat:Int) == 35 then blk true r + 1 else 0
 | true,c :: r=>bif qhx c.toNat then blk true r + 1 else blk false r + 1
theorem qiP:∀ (b:Bool) (s:Bs),blk b s <= s.length
 | true,[]=>Nat.le_refl _
 | false,[]=>Nat.le_refl _
 | false,c :: r=>by
  have h1:=qiP false r
  have h2:=qiP true r
  simp only [blk,List.length_cons]
  cases spI c.toNat <;> cases ((c.toNat:Int) == 35) <;> simp <;> omega
 | true,c :: r=>by
  have h1:=qiP false r
  have h2:=qiP true r
  simp only [blk,List.length_cons]
  cases qhx c.toNat <;> simp <;> omega
theorem qqP:∀ (s:Bs),blk true s = (s.takeWhile (at8 qhx)).length + blk false (s.drop (s.takeWhile (at8 qhx)).length)
 | []=>rfl
 | c :: r=>by
  by_cases h:qhx c.toNat = true
  ·have:=qqP r
   rw [List.takeWhile_cons_of_pos (p:=at8 qhx) h,List.length_cons,List.drop_succ_cons]
   simp only [blk,h,cond_true]
   omega
  ·rw [List.takeWhile_cons_of_neg (p:=at8 qhx) h]
   have h10:(c.toNat:Int) = 10:=by simpa [qhx] using h
   simp [blk,spI,qhx,h10]
def has (l:List Bs) (s:Bs):Bool:=l.any (s == ·)
def wordsS:List Bs:=[[112,114,111,100,117,99,116],[99,117,114,114,101,110,99,121],[99,97,108,101,110,100,97,114],[102,114,111,109],
 [101,118,101,114,121],[111,118,101,114,100,114,97,102,116],[116,97,120],[99,114,101,100,105,116],
 [100,101,98,105,116],[109,97,114,103,105,110,97,108],[119,104,111,108,101],[97,99,116,51,54,48],
 [97,99,116,51,54,53],[97,99,116,117,97,108],[116,104,105,114,116,121],[100,111,119,110],[117,112],
 [102,108,111,111,114],[99,101,105,108],[104,97,108,102,95,117,112],[104,97,108,102,95,101,118,101,110],
 [107,101,101,112],[100,114,111,112],[102,101,101],[108,105,109,105,116],[119,104,101,110],
 [97,109,111,117,110,116,95,111,102],[115,105,110,103,108,101],[100,97,105,108,121],[109,111,110,116,104,108,121],
 [109,111,110,116,104],[114,101,116,117,114,110],[99,108,111,115,101],[101,118,101,110,116],[105,102],
 [116,104,101,110],[101,108,115,101],[97,110,100],[111,114],[110,111,116],[109,105,110],[109,97,120]]
def marksS:List Bs:=[[61,61],[33,61],[60,61],[123],[125],[40],[41],[44],[59],[58],[36],[43],[45],[42],[47],[60]]
def qeK (s:Bs):Bool:=has wordsS s
def qgG (s:Bs):Bool:=s.all (at8 qbd) && (s != [] && ((s.length:Int) == 1 || s.head? != some 48))
def qcH (t:Bs):Bs × Bs × Bool:=match t.dropWhile (· != 46) with
 | []=>(t,[],false)
 | _ :: r=>(t.takeWhile (· != 46),r,true)
def qd8 (p:Bs):Bool:=p != [] && (decide (p.length <= 4) && (p.all (at8 qbd) && p.getLast? != some 48))
def qgm (p:Bs):Bs:=p ++ List.replicate (4 - p.length) 48
def qa1 (a:Nat) (s:Bs):Nat:=s.foldl (fun a c=>a * 10 + (c.toNat - 48)) a
def qbN (s:Bs):Int × Int:=
 bif s.getLast? == some 37 then
  let c:=qcH s.dropLast
  bif !qgG c.1 || (c.2.2 && !qd8 c.2.1) then (0,2)
  else bif decide (c.1.length > 3) then (0,1)
  else bif decide ((qa1 0 (c.1 ++ qgm c.2.1):Int) > 1000000) then (0,1) else (qa1 0 (c.1 ++ qgm c.2.1),0)
 else (0,2)
def qxa (t:Bs):Int × Bs × Int:=
 bif qgG t then (bif nOk (Lib.parseIntB 64 t) then (2,t,0) else (0,[],6))
 else bif (qbN t).2 == 0 then (3,t,0) else bif (qbN t).2 == 1 then (0,[],6) else (0,[],2)
def preB (m s:Bs):Bool:=decide (m.length <= s.length) && s.take m.length == m
def qaC (s:Bs):Int × Bs × Int:=match s with
 | []=>(0,[],2)
 | c :: _=>
  bif at8 qp1 c then
   (bif qeK (s.takeWhile (at8 qdv)) then (5,s.takeWhile (at8 qdv),0)
   else bif decide ((s.takeWhile (at8 qdv)).length > 16) then (0,[],4) else (1,s.takeWhile (at8 qdv),0))
  else bif at8 qbd c then qxa (s.takeWhile (at8 qeH))
  else match marksS.find? (preB · s) with
   | some m=>(4,m,0)
   | none=>(0,[],2)
structure Tok where
 (kind line:Int)
 (text:Bs)
deriving DecidableEq
def Tok.av (x:Tok):AV:=.agg [.int .i64 x.kind,.int .i64 x.line,.str x.text]
abbrev ET (l:List Tok):List AV:=l.map Tok.av
abbrev ksT:List CS:=[CS.int IntKind.i64,CS.int IntKind.i64,CS.str]
theorem hkT (h:Tok):qnv ksT (qac h.av) = true:=rfl
theorem okT {l:List Tok} {n:Nat} (h:n < l.length):qaQ ksT (ET l) (n:Int) = true:=qkc hkT h
theorem qt0 {l:List Tok} {n:Nat} (h:n < l.length):intOf (cellAt (ET l) (n:Int) 0) = l[n].kind:=by rw [qbF h]; rfl
theorem qt2 {l:List Tok} {n:Nat} (h:n < l.length):strOf (cellAt (ET l) (n:Int) 2) = l[n].text:=by rw [qbF h]; rfl
def qd9:Nat -> Bs -> Int -> List Tok -> List Tok × Int × Int
 | 0,_,_,_=>([],0,0)
 | k + 1,s,line,acc=>
  match s.drop (blk false s) with
  | []=>(acc,0,0)
  | c :: r=>
   bif (qaC (c :: r)).2.2 != 0 then ([],line + (s.take (blk false s)).count 10,(qaC (c :: r)).2.2)
   else qd9 k ((c :: r).drop (qaC (c :: r)).2.1.length) (line + (s.take (blk false s)).count 10) (acc ++ [⟨(qaC (c :: r)).1,line + (s.take (blk false s)).count 10,(qaC (c :: r)).2.1⟩])
def qeJ (s:Bs):List Tok × Int × Int:=bif decide ((s.length:Int) > 2048) then ([],0,5) else qd9 (s.length + 1) s 1 []
theorem qc7 {s:Bs} (h:(qaC s).2.2 = 0):(qaC s).2.1 ≠ [] /\ ∃ r,s = (qaC s).2.1 ++ r:=by
 unfold qaC at h ⊢
 cases s with
 | nil=>simp at h
 | cons c l=>
  simp only at h ⊢
  cases hl:at8 qp1 c
  ·simp only [hl,cond_false] at h ⊢
   cases hd:at8 qbd c
   ·simp only [hd,cond_false] at h ⊢
    cases hf:marksS.find? (preB · (c :: l)) with
    | none=>simp [hf] at h
    | some m=>
     have h1:=List.find?_some hf
     have h2:=List.mem_of_find?_eq_some hf
     simp only [preB,Bool.and_eq_true,decide_eq_true_eq,beq_iff_eq] at h1
     refine ⟨?_,(c :: l).drop m.length,?_⟩
     ·have:∀ m ∈ marksS,m ≠ []:=by decide
      exact this m h2
     ·conv=>lhs; rw [<- List.take_append_drop m.length (c :: l),h1.2]
   ·simp only [hd,cond_true] at h ⊢
    have e:(qxa ((c :: l).takeWhile (at8 qeH))).2.2 = 0 -> (qxa ((c :: l).takeWhile (at8 qeH))).2.1 = (c :: l).takeWhile (at8 qeH):=by
     unfold qxa
     cases qgG ((c :: l).takeWhile (at8 qeH)) <;> cases nOk (Lib.parseIntB 64 ((c :: l).takeWhile (at8 qeH))) <;> cases ((qbN ((c :: l).takeWhile (at8 qeH))).2 == 0) <;> cases ((qbN ((c :: l).takeWhile (at8 qeH))).2 == 1) <;> simp
    rw [e h]
    refine ⟨?_,qI9 _⟩
    have hn:at8 qeH c = true:=by
     simp only [at8,qeH,qdv] at hd ⊢; simp [hd]
    simp [hn]
  ·simp only [hl,cond_true] at h ⊢
   have hn:at8 qdv c = true:=by
    simp only [at8,qdv] at hl ⊢; simp [hl]
   have hne:(c :: l).takeWhile (at8 qdv) ≠ []:=by simp [hn]
   cases hw:qeK ((c :: l).takeWhile (at8 qdv))
   ·simp only [hw,cond_false] at h ⊢
    cases hg:decide (((c :: l).takeWhile (at8 qdv)).length > 16)
    ·exact ⟨hne,qI9 _⟩
    ·simp [hg] at h
   ·exact ⟨hne,qI9 _⟩
theorem qmk:∀ (l:Bs) (a:Nat),a <= qa1 a l
 | [],a=>Nat.le_refl _
 | c :: r,a=>by
  have:=qmk r (a * 10 + (c.toNat - 48))
  simp only [qa1,List.foldl_cons] at this ⊢; omega
theorem qzF:∀ (l:Bs) (a:Nat),l.all (at8 qbd) = true -> a < 18446744073709551616 -> Lib.parseUint10 a l = if qa1 a l < 18446744073709551616 then .ok (qa1 a l) else .range
 | [],a,_,ha=>by simp [Lib.parseUint10,qa1,ha]
 | c :: r,a,h,ha=>by
  simp only [List.all_cons,Bool.and_eq_true] at h
  have hc:48 <= c.toNat /\ c.toNat <= 57:=by
   have:=h.1
   simp only [at8,qbd,Bool.and_eq_true,decide_eq_true_eq] at this; omega
  have hd:qa1 a (c :: r) = qa1 (a * 10 + (c.toNat - 48)) r:=rfl
  have hge:=qmk r (a * 10 + (c.toNat - 48))
  simp only [Lib.parseUint10,if_pos hc,hd]
  split
  ·rw [if_neg (by omega)]
  ·split
   ·rw [if_neg (by omega)]
   ·exact qzF r _ h.2 (by omega)
theorem qqO {l:Bs} (h:l.all (at8 qbd) = true) (hn:l ≠ []):Lib.atoiAll l = if qa1 0 l < 9223372036854775808 then .ok (qa1 0 l:Int) else .range:=by
 cases l with
 | nil=>exact absurd rfl hn
 | cons c r=>
  have hc:48 <= c.toNat /\ c.toNat <= 57:=by
   have:=h
   simp only [List.all_cons,at8,qbd,Bool.and_eq_true,decide_eq_true_eq] at this; omega
  have h1:¬ (c.toNat = 43 \/ c.toNat = 45):=by omega
  have h2:¬ c.toNat = 45:=by omega
  simp only [Lib.atoiAll,if_neg h1,Lib.parseMag,if_neg hn,qzF _ 0 h (by omega)]
  by_cases hu:qa1 0 (c :: r) < 18446744073709551616
  ·simp only [if_pos hu,h2,not_false_eq_true,true_and,false_and,if_false]
   by_cases hs:qa1 0 (c :: r) < 9223372036854775808
   ·rw [if_neg (by omega),if_pos hs]
   ·rw [if_pos (by omega),if_neg hs]
  ·rw [if_neg hu,if_neg (by omega)]
theorem qqS:∀ (l:Bs) (a k:Nat),l.all (at8 qbd) = true -> a < 10 ^ k -> qa1 a l < 10 ^ (k + l.length)
 | [],a,k,_,ha=>by simpa [qa1] using ha
 | c :: r,a,k,h,ha=>by
  simp only [List.all_cons,Bool.and_eq_true] at h
  have hc:c.toNat <= 57:=by
   have:=h.1
   simp only [at8,qbd,Bool.and_eq_true,decide_eq_true_eq] at this; omega
  have:=qqS r (a * 10 + (c.toNat - 48)) (k + 1) h.2 (by rw [Nat.pow_succ]; omega)
  rw [show k + (c :: r).length = k + 1 + r.length by simp; omega]
  exact this
theorem qKF (l:Bs):Lib.indexByte l 46 = if (l.takeWhile (· != 46)).length < l.length then ((l.takeWhile (· != 46)).length:Int) else -1:=by
 induction l with
 | nil=>rfl
 | cons c r ih=>
  unfold Lib.indexByte
  by_cases hc:c = 46
  ·subst hc; simp
  ·rw [List.takeWhile_cons_of_pos (p:=(· != 46)) (by simpa using hc)]
   simp only [beq_iff_eq,hc,if_false,List.length_cons,Nat.add_lt_add_iff_right,ih]
   split
   ·rw [if_neg (by omega)]; simp
   ·simp
theorem drop_tw {α:Type} {p:α -> Bool}:∀ (l:List α),l.drop (l.takeWhile p).length = l.dropWhile p
 | []=>rfl
 | x :: l=>by
  rw [List.takeWhile_cons,List.dropWhile_cons]
  cases p x
  ·rfl
  ·simpa using drop_tw l
abbrev ES (l:List Bs):List AV:=l.map .str
theorem qBv {l:List Bs} {n:Nat} (h:n < l.length):qaQ [CS.str] (ES l) (n:Int) = true:=qkc (fun _=>rfl) h
theorem qs0 {l:List Bs} {n:Nat} (h:n < l.length):strOf (cellAt (ES l) (n:Int) 0) = l[n]:=by rw [qbF h]; rfl
end Go.Tk

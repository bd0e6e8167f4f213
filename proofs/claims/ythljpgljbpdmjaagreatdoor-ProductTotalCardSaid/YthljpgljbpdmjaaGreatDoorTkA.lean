/- Tokens over plain data: what the program's package token computes. -/
import Derived.Test.YthljpgljbpdmjaaGreatDoorE3
import Derived.Test.YthljpgljbpdmjaaGreatDoorE4
set_option linter.unusedVariables false
set_option linter.unusedSimpArgs false
set_option linter.unnecessarySimpa false
namespace Go.Tk
open Go Go.Eng
set_option maxRecDepth 20000
abbrev Bs:=List UInt8
def qAg (x:Int):Bool:=decide (x >= 97) && decide (x <= 122)
def qhH (x:Int):Bool:=decide (x >= 48) && decide (x <= 57)
def qgX (x:Int):Bool:=(qAg x || qhH x) || x == 95
def qug (x:Int):Bool:=(qgX x || x == 46) || x == 37
def qli (x:Int):Bool:=x != 10
def at8 (p:Int -> Bool) (c:UInt8):Bool:=p (c.toNat:Int)
theorem w32 (c:UInt8):IntKind.i32.wrap (c.toNat:Int) = (c.toNat:Int):=by
 have:=c.toNat_lt
 simp [IntKind.wrap,IntKind.signed,IntKind.bits]
 split <;> omega
theorem qbp {n m:Nat} (h:n <= m):leB (n:Int) m = true:=by simp [leB,h]
theorem qZK {n m:Nat}:leB (n:Int) m = decide (n <= m):=by simp [leB]
section
variable {α:Type} {p:α -> Bool}
theorem qit:∀ (l:List α),(l.takeWhile p).length <= l.length
 | []=>Nat.le_refl _
 | x :: l=>by
  rw [List.takeWhile_cons]
  cases p x
  ·simp
  ·simpa using qit l
theorem q0F:∀ {l:List α} {n:Nat} (h:n < l.length),n < (l.takeWhile p).length -> p l[n] = true
 | x :: l,n,h,hn=>by
  rw [List.takeWhile_cons] at hn
  cases hp:p x
  ·simp [hp] at hn
  ·simp only [hp,if_true,List.length_cons] at hn
   cases n with
   | zero=>exact hp
   | succ n=>exact q0F (l:=l) (by simpa using h) (by omega)
theorem qPF:∀ {l:List α} (h:(l.takeWhile p).length < l.length),p l[(l.takeWhile p).length] = false
 | x :: l,h=>by
  cases hp:p x
  ·simp [List.takeWhile_cons,hp]
  ·have h':(l.takeWhile p).length < l.length:=by
    simpa [List.takeWhile_cons,hp] using h
   have:=qPF (l:=l) h'
   simp only [List.takeWhile_cons,hp,if_true,List.length_cons,List.getElem_cons_succ]
   exact this
theorem qkT:∀ (l:List α),l.take (l.takeWhile p).length = l.takeWhile p
 | []=>rfl
 | x :: l=>by
  rw [List.takeWhile_cons]
  cases p x
  ·rfl
  ·simp [qkT l]
theorem qCB {l:List α}:l.takeWhile p = l ↔ l.all p = true:=by
 induction l with
 | nil=>simp
 | cons x l ih=>
  rw [List.takeWhile_cons]
  cases hp:p x
  ·simp [hp]
  ·simp [hp,ih]
theorem qPG (l:List α):∃ r,l = l.takeWhile p ++ r:=⟨l.dropWhile p,(List.takeWhile_append_dropWhile).symm⟩
end
theorem qRa {α:Type} {l:List α} {p:α -> Bool}:l.any p = decide (l.findIdx p < l.length):=by
 rw [Bool.eq_iff_iff,decide_eq_true_eq,List.findIdx_lt_length,List.any_eq_true]
theorem qlz {st:Bs × Int -> Option (Rd (Bs × Int))} {p:Int -> Bool} {s:Bs}
  (hs:∀ n (h:n < s.length),st (s,(n:Int)) = some (bif p (s[n].toNat:Int) then .next (s,((n + 1:Nat):Int)) else .done 0)) (he:st (s,(s.length:Int)) = some (.done 0)) :
  qap st (s,0) = some (0,s,((s.takeWhile (at8 p)).length:Int)):=by
 refine qcG (fun n=>(s,(n:Int))) (s.takeWhile (at8 p)).length 0 0 (Nat.zero_le _) (fun m _ hm=>?_) ?_
 ·have h:=Nat.lt_of_lt_of_le hm (qit s)
  have:=q0F h hm
  rw [hs m h,show p (s[m].toNat:Int) = true from this]; rfl
 ·by_cases h:(s.takeWhile (at8 p)).length < s.length
  ·have:=qPF h
   rw [hs _ h,show p (s[(s.takeWhile (at8 p)).length].toNat:Int) = false from this]; rfl
  ·have:=qit (p:=at8 p) s
   rw [show (s.takeWhile (at8 p)).length = s.length by omega]; exact he
def spI (x:Int):Bool:=x == 32 || (x == 9 || x == 10)
def blk:Bool -> Bs -> Nat
 | _,[]=>0
 | false,c :: r=>bif spI c.toNat then blk false r + 1 else bif (c.toNat:Int) == 35 then blk true r + 1 else 0
 | true,c :: r=>bif qli c.toNat then blk true r + 1 else blk false r + 1
theorem qrD:∀ (b:Bool) (s:Bs),blk b s <= s.length
 | true,[]=>Nat.le_refl _
 | false,[]=>Nat.le_refl _
 | false,c :: r=>by
  have h1:=qrD false r
  have h2:=qrD true r
  simp only [blk,List.length_cons]
  cases spI c.toNat <;> cases ((c.toNat:Int) == 35) <;> simp <;> omega
 | true,c :: r=>by
  have h1:=qrD false r
  have h2:=qrD true r
  simp only [blk,List.length_cons]
  cases qli c.toNat <;> simp <;> omega
theorem qAP:∀ (s:Bs),blk true s = (s.takeWhile (at8 qli)).length + blk false (s.drop (s.takeWhile (at8 qli)).length)
 | []=>rfl
 | c :: r=>by
  by_cases h:qli c.toNat = true
  ·have:=qAP r
   rw [List.takeWhile_cons_of_pos (p:=at8 qli) h,List.length_cons,List.drop_succ_cons]
   simp only [blk,h,cond_true]
   omega
  ·rw [List.takeWhile_cons_of_neg (p:=at8 qli) h]
   have h10:(c.toNat:Int) = 10:=by simpa [qli] using h
   simp [blk,spI,qli,h10]
def has (l:List Bs) (s:Bs):Bool:=l.any (s == ·)
def wordsS:List Bs:=[[112,114,111,100,117,99,116],[99,117,114,114,101,110,99,121],[99,97,108,101,110,100,97,114],[102,114,111,109],
 [101,118,101,114,121],[111,118,101,114,100,114,97,102,116],[116,97,120],[99,114,101,100,105,116],
 [100,101,98,105,116],[109,97,114,103,105,110,97,108],[119,104,111,108,101],[97,99,116,51,54,48],
 [97,99,116,51,54,53],[97,99,116,117,97,108],[116,104,105,114,116,121],[100,111,119,110],[117,112],
 [102,108,111,111,114],[99,101,105,108],[104,97,108,102,95,117,112],[104,97,108,102,95,101,118,101,110],
 [107,101,101,112],[100,114,111,112],[102,101,101],[108,105,109,105,116],[119,104,101,110],
 [97,109,111,117,110,116,95,111,102],[115,105,110,103,108,101],[100,97,105,108,121],[109,111,110,116,104,108,121],
 [109,111,110,116,104],[114,101,116,117,114,110],[99,108,111,115,101],[101,118,101,110,116],[105,102],
 [116,104,101,110],[101,108,115,101],[97,110,100],[111,114],[110,111,116],[109,105,110],[109,97,120]]
def marksS:List Bs:=[[61,61],[33,61],[60,61],[123],[125],[40],[41],[44],[59],[58],[36],[43],[45],[42],[47],[60]]
def qro (s:Bs):Bool:=has wordsS s
def qRH (s:Bs):Bool:=s.all (at8 qhH) && (s != [] && ((s.length:Int) == 1 || s.head? != some 48))
def qAQ (t:Bs):Bs × Bs × Bool:=match t.dropWhile (· != 46) with
 | []=>(t,[],false)
 | _ :: r=>(t.takeWhile (· != 46),r,true)
def qFw (p:Bs):Bool:=p != [] && (decide (p.length <= 4) && (p.all (at8 qhH) && p.getLast? != some 48))
def qvE (p:Bs):Bs:=p ++ List.replicate (4 - p.length) 48
def qyg (a:Nat) (s:Bs):Nat:=s.foldl (fun a c=>a * 10 + (c.toNat - 48)) a
def qrl (s:Bs):Int × Int:=
 bif s.getLast? == some 37 then
  let c:=qAQ s.dropLast
  bif !qRH c.1 || (c.2.2 && !qFw c.2.1) then (0,2)
  else bif decide (c.1.length > 3) then (0,1)
  else bif decide ((qyg 0 (c.1 ++ qvE c.2.1):Int) > 1000000) then (0,1) else (qyg 0 (c.1 ++ qvE c.2.1),0)
 else (0,2)
def qRU (t:Bs):Int × Bs × Int:=
 bif qRH t then (bif nOk (Lib.parseIntB 64 t) then (2,t,0) else (0,[],6))
 else bif (qrl t).2 == 0 then (3,t,0) else bif (qrl t).2 == 1 then (0,[],6) else (0,[],2)
def preB (m s:Bs):Bool:=decide (m.length <= s.length) && s.take m.length == m
def qbC (s:Bs):Int × Bs × Int:=match s with
 | []=>(0,[],2)
 | c :: _=>
  bif at8 qAg c then
   (bif qro (s.takeWhile (at8 qgX)) then (5,s.takeWhile (at8 qgX),0)
   else bif decide ((s.takeWhile (at8 qgX)).length > 16) then (0,[],4) else (1,s.takeWhile (at8 qgX),0))
  else bif at8 qhH c then qRU (s.takeWhile (at8 qug))
  else match marksS.find? (preB · s) with
   | some m=>(4,m,0)
   | none=>(0,[],2)
structure Tok where
 (kind line:Int)
 (text:Bs)
deriving DecidableEq
def Tok.av (x:Tok):AV:=.agg [.int .i64 x.kind,.int .i64 x.line,.str x.text]
abbrev ET (l:List Tok):List AV:=l.map Tok.av
abbrev ksT:List CS:=[CS.int IntKind.i64,CS.int IntKind.i64,CS.str]
theorem hkT (h:Tok):qiV ksT (qad h.av) = true:=rfl
theorem okT {l:List Tok} {n:Nat} (h:n < l.length):qaD ksT (ET l) (n:Int) = true:=qdV hkT h
theorem qt0 {l:List Tok} {n:Nat} (h:n < l.length):intOf (cellAt (ET l) (n:Int) 0) = l[n].kind:=by rw [qat h]; rfl
theorem qt2 {l:List Tok} {n:Nat} (h:n < l.length):strOf (cellAt (ET l) (n:Int) 2) = l[n].text:=by rw [qat h]; rfl
def qln:Nat -> Bs -> Int -> List Tok -> List Tok × Int × Int
 | 0,_,_,_=>([],0,0)
 | k + 1,s,line,acc=>
  match s.drop (blk false s) with
  | []=>(acc,0,0)
  | c :: r=>
   bif (qbC (c :: r)).2.2 != 0 then ([],line + (s.take (blk false s)).count 10,(qbC (c :: r)).2.2)
   else qln k ((c :: r).drop (qbC (c :: r)).2.1.length) (line + (s.take (blk false s)).count 10) (acc ++ [⟨(qbC (c :: r)).1,line + (s.take (blk false s)).count 10,(qbC (c :: r)).2.1⟩])
def qkS (s:Bs):List Tok × Int × Int:=bif decide ((s.length:Int) > 2048) then ([],0,5) else qln (s.length + 1) s 1 []
theorem qud {s:Bs} (h:(qbC s).2.2 = 0):(qbC s).2.1 ≠ [] /\ ∃ r,s = (qbC s).2.1 ++ r:=by
 unfold qbC at h ⊢
 cases s with
 | nil=>simp at h
 | cons c l=>
  simp only at h ⊢
  cases hl:at8 qAg c
  ·simp only [hl,cond_false] at h ⊢
   cases hd:at8 qhH c
   ·simp only [hd,cond_false] at h ⊢
    cases hf:marksS.find? (preB · (c :: l)) with
    | none=>simp [hf] at h
    | some m=>
     have h1:=List.find?_some hf
     have h2:=List.mem_of_find?_eq_some hf
     simp only [preB,Bool.and_eq_true,decide_eq_true_eq,beq_iff_eq] at h1
     refine ⟨?_,(c :: l).drop m.length,?_⟩
     ·have:∀ m ∈ marksS,m ≠ []:=by decide
      exact this m h2
     ·conv=>lhs; rw [<- List.take_append_drop m.length (c :: l),h1.2]
   ·simp only [hd,cond_true] at h ⊢
    have e:(qRU ((c :: l).takeWhile (at8 qug))).2.2 = 0 -> (qRU ((c :: l).takeWhile (at8 qug))).2.1 = (c :: l).takeWhile (at8 qug):=by
     unfold qRU
     cases qRH ((c :: l).takeWhile (at8 qug)) <;> cases nOk (Lib.parseIntB 64 ((c :: l).takeWhile (at8 qug))) <;> cases ((qrl ((c :: l).takeWhile (at8 qug))).2 == 0) <;> cases ((qrl ((c :: l).takeWhile (at8 qug))).2 == 1) <;> simp
    rw [e h]
    refine ⟨?_,qPG _⟩
    have hn:at8 qug c = true:=by
     simp only [at8,qug,qgX] at hd ⊢; simp [hd]
    simp [hn]
  ·simp only [hl,cond_true] at h ⊢
   have hn:at8 qgX c = true:=by
    simp only [at8,qgX] at hl ⊢; simp [hl]
   have hne:(c :: l).takeWhile (at8 qgX) ≠ []:=by simp [hn]
   cases hw:qro ((c :: l).takeWhile (at8 qgX))
   ·simp only [hw,cond_false] at h ⊢
    cases hg:decide (((c :: l).takeWhile (at8 qgX)).length > 16)
    ·exact ⟨hne,qPG _⟩
    ·simp [hg] at h
   ·exact ⟨hne,qPG _⟩
theorem qIW:∀ (l:Bs) (a:Nat),a <= qyg a l
 | [],a=>Nat.le_refl _
 | c :: r,a=>by
  have:=qIW r (a * 10 + (c.toNat - 48))
  simp only [qyg,List.foldl_cons] at this ⊢; omega
theorem qCC:∀ (l:Bs) (a:Nat),l.all (at8 qhH) = true -> a < 18446744073709551616 -> Lib.parseUint10 a l = if qyg a l < 18446744073709551616 then .ok (qyg a l) else .range
 | [],a,_,ha=>by simp [Lib.parseUint10,qyg,ha]
 | c :: r,a,h,ha=>by
  simp only [List.all_cons,Bool.and_eq_true] at h
  have hc:48 <= c.toNat /\ c.toNat <= 57:=by
   have:=h.1
   simp only [at8,qhH,Bool.and_eq_true,decide_eq_true_eq] at this; omega
  have hd:qyg a (c :: r) = qyg (a * 10 + (c.toNat - 48)) r:=rfl
  have hge:=qIW r (a * 10 + (c.toNat - 48))
  simp only [Lib.parseUint10,if_pos hc,hd]
  split
  ·rw [if_neg (by omega)]
  ·split
   ·rw [if_neg (by omega)]
   ·exact qCC r _ h.2 (by omega)
theorem qRf {l:Bs} (h:l.all (at8 qhH) = true) (hn:l ≠ []):Lib.atoiAll l = if qyg 0 l < 9223372036854775808 then .ok (qyg 0 l:Int) else .range:=by
 cases l with
 | nil=>exact absurd rfl hn
 | cons c r=>
  have hc:48 <= c.toNat /\ c.toNat <= 57:=by
   have:=h
   simp only [List.all_cons,at8,qhH,Bool.and_eq_true,decide_eq_true_eq] at this; omega
  have h1:¬ (c.toNat = 43 \/ c.toNat = 45):=by omega
  have h2:¬ c.toNat = 45:=by omega
  simp only [Lib.atoiAll,if_neg h1,Lib.parseMag,if_neg hn,qCC _ 0 h (by omega)]
  by_cases hu:qyg 0 (c :: r) < 18446744073709551616
  ·simp only [if_pos hu,h2,not_false_eq_true,true_and,false_and,if_false]
   by_cases hs:qyg 0 (c :: r) < 9223372036854775808
   ·rw [if_neg (by omega),if_pos hs]
   ·rw [if_pos (by omega),if_neg hs]
  ·rw [if_neg hu,if_neg (by omega)]
theorem qIX:∀ (l:Bs) (a k:Nat),l.all (at8 qhH) = true -> a < 10 ^ k -> qyg a l < 10 ^ (k + l.length)
 | [],a,k,_,ha=>by simpa [qyg] using ha
 | c :: r,a,k,h,ha=>by
  simp only [List.all_cons,Bool.and_eq_true] at h
  have hc:c.toNat <= 57:=by
   have:=h.1
   simp only [at8,qhH,Bool.and_eq_true,decide_eq_true_eq] at this; omega
  have:=qIX r (a * 10 + (c.toNat - 48)) (k + 1) h.2 (by rw [Nat.pow_succ]; omega)
  rw [show k + (c :: r).length = k + 1 + r.length by simp; omega]
  exact this
theorem qRG (l:Bs):Lib.indexByte l 46 = if (l.takeWhile (· != 46)).length < l.length then ((l.takeWhile (· != 46)).length:Int) else -1:=by
 induction l with
 | nil=>rfl
 | cons c r ih=>
  unfold Lib.indexByte
  by_cases hc:c = 46
  ·subst hc; simp
  ·rw [List.takeWhile_cons_of_pos (p:=(· != 46)) (by simpa using hc)]
   simp only [beq_iff_eq,hc,if_false,List.length_cons,Nat.add_lt_add_iff_right,ih]
   split
   ·rw [if_neg (by omega)]; simp
   ·simp
theorem drop_tw {α:Type} {p:α -> Bool}:∀ (l:List α),l.drop (l.takeWhile p).length = l.dropWhile p
 | []=>rfl
 | x :: l=>by
  rw [List.takeWhile_cons,List.dropWhile_cons]
  cases p x
  ·rfl
  ·simpa using drop_tw l
abbrev ES (l:List Bs):List AV:=l.map .str
theorem qQR {l:List Bs} {n:Nat} (h:n < l.length):qaD [CS.str] (ES l) (n:Int) = true:=qdV (fun _=>rfl) h
theorem qs0 {l:List Bs} {n:Nat} (h:n < l.length):strOf (cellAt (ES l) (n:Int) 0) = l[n]:=by rw [qat h]; rfl
end Go.Tk

/- Tokens over plain data: what the program's package token computes. -/
import Derived.Test.YtpoebijgpbaccaaGreatE3
import Derived.Test.YtpoebijgpbaccaaGreatE4
import Derived.Test.YtpoebijgpbaccaaGreatD53z_1
import Derived.Test.YtpoebijgpbaccaaGreatD53z_3
import Derived.Test.YtpoebijgpbaccaaGreatD53z_5
import Derived.Test.YtpoebijgpbaccaaGreatD53z_7
import Derived.Test.YtpoebijgpbaccaaGreatD53z_9
set_option linter.unusedVariables false
set_option linter.unusedSimpArgs false
set_option linter.unnecessarySimpa false
namespace Go.Tk
open Go Go.Eng
set_option maxRecDepth 20000
abbrev Bs:=List UInt8
def qCI (x:Int):Bool:=decide (x >= 97) && decide (x <= 122)
def qcC (x:Int):Bool:=decide (x >= 48) && decide (x <= 57)
def qfJ (x:Int):Bool:=(qCI x || qcC x) || x == 95
def qhE (x:Int):Bool:=(qfJ x || x == 46) || x == 37
def qCF (x:Int):Bool:=x != 10
def at8 (p:Int -> Bool) (c:UInt8):Bool:=p (c.toNat:Int)
theorem qGZ {n m:Nat} (h:n <= m):leB (n:Int) m = true:=by simp [leB,h]
section
variable {α:Type} {p:α -> Bool}
theorem qxQ:∀ (l:List α),(l.takeWhile p).length <= l.length
 | []=>Nat.le_refl _
 | x :: l=>by
  rw [List.takeWhile_cons]
  cases p x
  ·simp
  ·simpa using qxQ l
theorem qWd:∀ {l:List α} {n:Nat} (h:n < l.length),n < (l.takeWhile p).length -> p l[n] = true
 | x :: l,n,h,hn=>by
  rw [List.takeWhile_cons] at hn
  cases hp:p x
  ·simp [hp] at hn
  ·simp only [hp,if_true,List.length_cons] at hn
   cases n with
   | zero=>exact hp
   | succ n=>exact qWd (l:=l) (by simpa using h) (by omega)
theorem qLW:∀ {l:List α} (h:(l.takeWhile p).length < l.length),p l[(l.takeWhile p).length] = false
 | x :: l,h=>by
  cases hp:p x
  ·simp [List.takeWhile_cons,hp]
  ·have h':(l.takeWhile p).length < l.length:=by
    simpa [List.takeWhile_cons,hp] using h
   have:=qLW (l:=l) h'
   simp only [List.takeWhile_cons,hp,if_true,List.length_cons,List.getElem_cons_succ]
   exact this
theorem qz3 {l:List α}:l.takeWhile p = l ↔ l.all p = true:=by
 induction l with
 | nil=>simp
 | cons x l ih=>
  rw [List.takeWhile_cons]
  cases hp:p x
  ·simp [hp]
  ·simp [hp,ih]
theorem qLX (l:List α):∃ r,l = l.takeWhile p ++ r:=⟨l.dropWhile p,(List.takeWhile_append_dropWhile).symm⟩
end
def spI (x:Int):Bool:=x == 32 || (x == 9 || x == 10)
def blk:Bool -> Bs -> Nat
 | _,[]=>0
 | false,c :: r=>bif spI c.toNat then blk false r + 1 else bif (c.toNat:Int) == 35 then blk true r + 1 else 0
 | true,c :: r=>bif qCF c.toNat then blk true r + 1 else blk false r + 1
theorem qjs:∀ (b:Bool) (s:Bs),blk b s <= s.length
 | true,[]=>Nat.le_refl _
 | false,[]=>Nat.le_refl _
 | false,c :: r=>by
  have h1:=qjs false r
  have h2:=qjs true r
  simp only [blk,List.length_cons]
  cases spI c.toNat <;> cases ((c.toNat:Int) == 35) <;> simp <;> omega
 | true,c :: r=>by
  have h1:=qjs false r
  have h2:=qjs true r
  simp only [blk,List.length_cons]
  cases qCF c.toNat <;> simp <;> omega
def has (l:List Bs) (s:Bs):Bool:=l.any (s == ·)
def wordsS:List Bs:=[[112,114,111,100,117,99,116],[99,117,114,114,101,110,99,121],[99,97,108,101,110,100,97,114],[102,114,111,109],
 [101,118,101,114,121],[111,118,101,114,100,114,97,102,116],[116,97,120],[99,114,101,100,105,116],
 [100,101,98,105,116],[109,97,114,103,105,110,97,108],[119,104,111,108,101],[97,99,116,51,54,48],
 [97,99,116,51,54,53],[97,99,116,117,97,108],[116,104,105,114,116,121],[100,111,119,110],[117,112],
 [102,108,111,111,114],[99,101,105,108],[104,97,108,102,95,117,112],[104,97,108,102,95,101,118,101,110],
 [107,101,101,112],[100,114,111,112],[102,101,101],[108,105,109,105,116],[119,104,101,110],
 [97,109,111,117,110,116,95,111,102],[115,105,110,103,108,101],[100,97,105,108,121],[109,111,110,116,104,108,121],
 [109,111,110,116,104],[114,101,116,117,114,110],[99,108,111,115,101],[101,118,101,110,116],[105,102],
 [116,104,101,110],[101,108,115,101],[97,110,100],[111,114],[110,111,116],[109,105,110],[109,97,120]]
def marksS:List Bs:=[[61,61],[33,61],[60,61],[123],[125],[40],[41],[44],[59],[58],[36],[43],[45],[42],[47],[60]]
def qn6 (s:Bs):Bool:=has wordsS s
def qoP (s:Bs):Bool:=s.all (at8 qcC) && (s != [] && ((s.length:Int) == 1 || s.head? != some 48))
def qd6 (t:Bs):Bs × Bs × Bool:=match t.dropWhile (· != 46) with
 | []=>(t,[],false)
 | _ :: r=>(t.takeWhile (· != 46),r,true)
def qi2 (p:Bs):Bool:=p != [] && (decide (p.length <= 4) && (p.all (at8 qcC) && p.getLast? != some 48))
def qof (p:Bs):Bs:=p ++ List.replicate (4 - p.length) 48
def qbD (a:Nat) (s:Bs):Nat:=s.foldl (fun a c=>a * 10 + (c.toNat - 48)) a
def qea (s:Bs):Int × Int:=
 bif s.getLast? == some 37 then
  let c:=qd6 s.dropLast
  bif !qoP c.1 || (c.2.2 && !qi2 c.2.1) then (0,2)
  else bif decide (c.1.length > 3) then (0,1)
  else bif decide ((qbD 0 (c.1 ++ qof c.2.1):Int) > 1000000) then (0,1) else (qbD 0 (c.1 ++ qof c.2.1),0)
 else (0,2)
def qMS (t:Bs):Int × Bs × Int:=
 bif qoP t then (bif nOk (Lib.parseIntB 64 t) then (2,t,0) else (0,[],6))
 else bif (qea t).2 == 0 then (3,t,0) else bif (qea t).2 == 1 then (0,[],6) else (0,[],2)
def preB (m s:Bs):Bool:=decide (m.length <= s.length) && s.take m.length == m
def qaI (s:Bs):Int × Bs × Int:=match s with
 | []=>(0,[],2)
 | c :: _=>
  bif at8 qCI c then
   (bif qn6 (s.takeWhile (at8 qfJ)) then (5,s.takeWhile (at8 qfJ),0)
   else bif decide ((s.takeWhile (at8 qfJ)).length > 16) then (0,[],4) else (1,s.takeWhile (at8 qfJ),0))
  else bif at8 qcC c then qMS (s.takeWhile (at8 qhE))
  else match marksS.find? (preB · s) with
   | some m=>(4,m,0)
   | none=>(0,[],2)
structure Tok where
 (kind line:Int)
 (text:Bs)
deriving DecidableEq
def Tok.av (x:Tok):AV:=.agg [.int .i64 x.kind,.int .i64 x.line,.str x.text]
def qet:Nat -> Bs -> Int -> List Tok -> List Tok × Int × Int
 | 0,_,_,_=>([],0,0)
 | k + 1,s,line,acc=>
  match s.drop (blk false s) with
  | []=>(acc,0,0)
  | c :: r=>
   bif (qaI (c :: r)).2.2 != 0 then ([],line + (s.take (blk false s)).count 10,(qaI (c :: r)).2.2)
   else qet k ((c :: r).drop (qaI (c :: r)).2.1.length) (line + (s.take (blk false s)).count 10) (acc ++ [⟨(qaI (c :: r)).1,line + (s.take (blk false s)).count 10,(qaI (c :: r)).2.1⟩])
def qjp (s:Bs):List Tok × Int × Int:=bif decide ((s.length:Int) > 2048) then ([],0,5) else qet (s.length + 1) s 1 []
theorem qdt {s:Bs} (h:(qaI s).2.2 = 0):(qaI s).2.1 ≠ [] /\ ∃ r,s = (qaI s).2.1 ++ r:=by
 unfold qaI at h ⊢
 cases s with
 | nil=>simp at h
 | cons c l=>
  simp only at h ⊢
  cases hl:at8 qCI c
  ·simp only [hl,cond_false] at h ⊢
   cases hd:at8 qcC c
   ·simp only [hd,cond_false] at h ⊢
    cases hf:marksS.find? (preB · (c :: l)) with
    | none=>simp [hf] at h
    | some m=>
     have h1:=List.find?_some hf
     have h2:=List.mem_of_find?_eq_some hf
     simp only [preB,Bool.and_eq_true,decide_eq_true_eq,beq_iff_eq] at h1
     refine ⟨?_,(c :: l).drop m.length,?_⟩
     ·have:∀ m ∈ marksS,m ≠ []:=by decide
      exact this m h2
     ·conv=>lhs; rw [<- List.take_append_drop m.length (c :: l),h1.2]
   ·simp only [hd,cond_true] at h ⊢
    have e:(qMS ((c :: l).takeWhile (at8 qhE))).2.2 = 0 -> (qMS ((c :: l).takeWhile (at8 qhE))).2.1 = (c :: l).takeWhile (at8 qhE):=by
     unfold qMS
     cases qoP ((c :: l).takeWhile (at8 qhE)) <;> cases nOk (Lib.parseIntB 64 ((c :: l).takeWhile (at8 qhE))) <;> cases ((qea ((c :: l).takeWhile (at8 qhE))).2 == 0) <;> cases ((qea ((c :: l).takeWhile (at8 qhE))).2 == 1) <;> simp
    rw [e h]
    refine ⟨?_,qLX _⟩
    have hn:at8 qhE c = true:=by
     simp only [at8,qhE,qfJ] at hd ⊢; simp [hd]
    simp [hn]
  ·simp only [hl,cond_true] at h ⊢
   have hn:at8 qfJ c = true:=by
    simp only [at8,qfJ] at hl ⊢; simp [hl]
   have hne:(c :: l).takeWhile (at8 qfJ) ≠ []:=by simp [hn]
   cases hw:qn6 ((c :: l).takeWhile (at8 qfJ))
   ·simp only [hw,cond_false] at h ⊢
    cases hg:decide (((c :: l).takeWhile (at8 qfJ)).length > 16)
    ·exact ⟨hne,qLX _⟩
    ·simp [hg] at h
   ·exact ⟨hne,qLX _⟩
abbrev ES (l:List Bs):List AV:=l.map .str
theorem qSj {l:List Bs} {n:Nat} (h:n < l.length):qaw [CS.str] (ES l) (n:Int) = true:=qbv (fun _=>rfl) h
theorem qs0 {l:List Bs} {n:Nat} (h:n < l.length):strOf (cellAt (ES l) (n:Int) 0) = l[n]:=by rw [qad h]; rfl
end Go.Tk
namespace Go.Tk
open Go Go.Eng
set_option maxRecDepth 20000
inductive Ex where
 | mk (op num:Int) (txt:Bs) (args:List Ex)
namespace Ex
def op:Ex -> Int | mk o _ _ _=>o
def num:Ex -> Int | mk _ n _ _=>n
def txt:Ex -> Bs | mk _ _ s _=>s
def args:Ex -> List Ex | mk _ _ _ l=>l
theorem ind {P:Ex -> Prop} (h:∀ o n s l,(∀ x ∈ l,P x) -> P (mk o n s l)):∀ e,P e:=fun e=>
 Ex.rec (motive_1:=P) (motive_2:=fun l=>∀ x ∈ l,P x) (fun o n s l ih=>h o n s l ih) (by intro x hx; cases hx)
  (fun e l he hl x hx=>by
   rcases List.mem_cons.1 hx with rfl | hx
   ·exact he
   ·exact hl x hx) e
mutual
def av:Ex -> AV
 | mk o n s l=>.agg [.int .i64 o,.int .i64 n,.str s,.view 4 (avs l)]
def avs:List Ex -> List AV
 | []=>[]
 | e :: l=>av e :: avs l
end
theorem avs_eq:∀ l:List Ex,avs l = l.map av
 | []=>rfl
 | e :: l=>by simp [avs,avs_eq l]
mutual
def nodes:Ex -> Nat
 | mk _ _ _ l=>nodesL l + 1
def nodesL:List Ex -> Nat
 | []=>0
 | e :: l=>nodes e + nodesL l
end
mutual
def dep:Ex -> Nat
 | mk _ _ _ l=>depL l + 1
def depL:List Ex -> Nat
 | []=>0
 | e :: l=>max (dep e) (depL l)
end
mutual
def allX (p:Ex -> Bool):Ex -> Bool
 | mk o n s l=>p (mk o n s l) && allL p l
def allL (p:Ex -> Bool):List Ex -> Bool
 | []=>true
 | e :: l=>allX p e && allL p l
end
theorem qEI (p:Ex -> Bool):∀ l:List Ex,allL p l = l.all (allX p)
 | []=>rfl
 | e :: l=>by simp [allL,qEI p l]
theorem allX_eq (p:Ex -> Bool) (e:Ex):allX p e = (p e && e.args.all (allX p)):=by
 cases e; simp [allX,qEI,args]
theorem nodesL_mem {x:Ex}:∀ {l:List Ex},x ∈ l -> nodes x <= nodesL l
 | e :: l,h=>by
  simp only [nodesL]
  rcases List.mem_cons.1 h with rfl | h
  ·omega
  ·have:=nodesL_mem h; omega
theorem depL_mem {x:Ex}:∀ {l:List Ex},x ∈ l -> dep x <= depL l
 | e :: l,h=>by
  simp only [depL]
  rcases List.mem_cons.1 h with rfl | h
  ·omega
  ·have:=depL_mem h; omega
theorem nodes_pos (e:Ex):1 <= nodes e:=by cases e; simp [nodes]
theorem nodesL_len:∀ l:List Ex,l.length <= nodesL l
 | []=>Nat.le_refl _
 | e :: l=>by
  have:=nodesL_len l
  have:=nodes_pos e
  simp only [nodesL,List.length_cons]; omega
theorem dep_fold:∀ (l:List Ex) (a:Nat),l.foldl (fun a x=>max a (dep x)) a = max a (depL l)
 | [],a=>by simp [depL]
 | e :: l,a=>by simp only [List.foldl_cons,depL,dep_fold l]; omega
mutual
theorem dep_le:∀ e:Ex,dep e <= nodes e
 | mk _ _ _ l=>by have:=qE1 l; simp only [dep,nodes]; omega
theorem qE1:∀ l:List Ex,depL l <= nodesL l
 | []=>Nat.le_refl _
 | e :: l=>by
  have:=dep_le e
  have:=qE1 l
  simp only [depL,nodesL]; omega
end
end Ex
abbrev EX (l:List Ex):List AV:=l.map Ex.av
theorem qhM (e:Ex):e.av = .agg [.int .i64 e.op,.int .i64 e.num,.str e.txt,.view 4 (EX e.args)]:=by
 cases e; simp [Ex.av,Ex.avs_eq,Ex.op,Ex.num,Ex.txt,Ex.args]
abbrev ksX:List CS:=[CS.int IntKind.i64,CS.int IntKind.i64,CS.str,CS.slice 4]
theorem hkX (e:Ex):qfK ksX (qac e.av) = true:=by rw [qhM]; rfl
theorem okX {l:List Ex} {n:Nat} (h:n < l.length):qaw ksX (EX l) (n:Int) = true:=qbv hkX h
theorem qx0 {l:List Ex} {n:Nat} (h:n < l.length):intOf (cellAt (EX l) (n:Int) 0) = l[n].op:=by rw [qad h,qhM]; rfl
theorem qx1 {l:List Ex} {n:Nat} (h:n < l.length):intOf (cellAt (EX l) (n:Int) 1) = l[n].num:=by rw [qad h,qhM]; rfl
theorem qx2 {l:List Ex} {n:Nat} (h:n < l.length):strOf (cellAt (EX l) (n:Int) 2) = l[n].txt:=by rw [qad h,qhM]; rfl
theorem qx3 {l:List Ex} {n:Nat} (h:n < l.length):qat (cellAt (EX l) (n:Int) 3) = EX l[n].args:=by rw [qad h,qhM]; rfl
def q8k (e:Ex):Bool:=decide (e.args.length <= big)
def Wd (e:Ex):Prop:=e.allX q8k = true
theorem Wd.len {e:Ex} (h:Wd e):e.args.length <= big:=by
 rw [Wd,Ex.allX_eq,Bool.and_eq_true] at h
 exact of_decide_eq_true h.1
theorem Wd.arg {e x:Ex} (h:Wd e) (hx:x ∈ e.args):Wd x:=by
 rw [Wd,Ex.allX_eq,Bool.and_eq_true,List.all_eq_true] at h
 exact h.2 x hx
def qa5 (op:Int):Int:=
 if op = 1 \/ op = 2 \/ op = 3 \/ op = 4 then 0 else if op = 9 \/ op = 16 then 1 else if op = 19 then 3 else if 5 <= op /\ op <= 18 then 2 else -1
def qiZ (op:Int):Int:=if op = 1 then 9223372036854775807 else if op = 2 then 1000000000000 else if op = 3 then 1000000 else 0
def qbq (e:Ex):Bool:=qa5 e.op == (e.args.length:Int) && (decide (e.num >= 0) && (decide (e.num <= qiZ e.op) && (e.txt == [] || e.op == 4)))
def qoa (s:Bs):Bool:=(qjp s).2.2 == 0 && ((qjp s).1.length == 1 && match (qjp s).1.head? with
 | some t=>t.kind == 1 && t.text == s
 | none=>false)
def qem (e:Ex):Bool:=e.op != 4 || qoa e.txt
def qd0 (e:Ex):Int:=bif decide (e.nodes > 64) || decide (e.dep > 8) then 5 else bif !e.allX qbq then 1 else bif !e.allX qem then 4 else 0
theorem qvZ {e:Ex} (h:qd0 e = 0):e.nodes <= 64 /\ e.dep <= 8 /\ e.allX qbq = true /\ e.allX qem = true:=by
 unfold qd0 at h
 cases h1:decide (e.nodes > 64) <;> cases h2:decide (e.dep > 8) <;> cases h3:e.allX qbq <;> cases h4:e.allX qem <;> simp [h1,h2,h3,h4] at h
 simp at h1 h2
 exact ⟨h1,h2,rfl,rfl⟩
def qB9 (s:Bs):Bool:=match s with
 | []=>false
 | c :: _=>decide (s.length <= 16) && (at8 qCI c && s.all (at8 qfJ))
theorem qvT:∀ (k:Nat) (s:Bs) (line:Int) (acc:List Tok),s.length < k -> (qet k s line acc).2.2 = 0 -> ∃ more,(qet k s line acc).1 = acc ++ more
 | 0,s,_,_,h,_=>by omega
 | k + 1,s,line,acc,h,h0=>by
  simp only [qet] at h0 ⊢
  cases hd:s.drop (blk false s) with
  | nil=>exact ⟨[],by simp⟩
  | cons c r=>
   simp only [hd] at h0 ⊢
   cases hz:((qaI (c :: r)).2.2 != 0)
   ·have hz':(qaI (c :: r)).2.2 = 0:=by simpa using hz
    simp only [hz,cond_false] at h0 ⊢
    obtain ⟨g1,t,g2⟩:=qdt hz'
    have hlen:=congrArg List.length hd
    simp only [List.length_drop,List.length_cons] at hlen
    have g4:1 <= (qaI (c :: r)).2.1.length:=by
     cases hq:(qaI (c :: r)).2.1 with
     | nil=>exact absurd hq g1
     | cons _ _=>simp
    obtain ⟨more,hm⟩:=qvT k _ _ _ (by simp only [List.length_drop,List.length_cons]; omega) h0
    exact ⟨_ :: more,by rw [hm,List.append_assoc]; rfl⟩
   ·simp only [hz,cond_true] at h0
    rw [h0] at hz; simp at hz
theorem qIg {s:Bs} (h:(qaI s).2.2 = 0) (h1:(qaI s).1 = 1):∃ c r,s = c :: r /\ at8 qCI c = true /\ qn6 (s.takeWhile (at8 qfJ)) = false /\ (s.takeWhile (at8 qfJ)).length <= 16 /\ (qaI s).2.1 = s.takeWhile (at8 qfJ):=by
 unfold qaI at h h1 ⊢
 cases s with
 | nil=>simp at h
 | cons c l=>
  simp only at h h1 ⊢
  refine ⟨c,l,rfl,?_⟩
  cases hl:at8 qCI c
  ·exfalso
   simp only [hl,cond_false] at h h1
   cases hd:at8 qcC c
   ·simp only [hd,cond_false] at h h1
    cases hf:marksS.find? (preB · (c :: l)) with
    | none=>simp [hf] at h
    | some m=>simp [hf] at h1
   ·simp only [hd,cond_true] at h h1
    unfold qMS at h h1
    revert h h1
    cases qoP ((c :: l).takeWhile (at8 qhE)) <;> cases nOk (Lib.parseIntB 64 ((c :: l).takeWhile (at8 qhE))) <;> cases ((qea ((c :: l).takeWhile (at8 qhE))).2 == 0) <;> cases ((qea ((c :: l).takeWhile (at8 qhE))).2 == 1) <;> simp
  ·simp only [hl,cond_true] at h h1 ⊢
   cases hw:qn6 ((c :: l).takeWhile (at8 qfJ))
   ·simp only [hw,cond_false] at h h1 ⊢
    cases hg:decide (((c :: l).takeWhile (at8 qfJ)).length > 16)
    ·simp only [cond_false]
     have:=of_decide_eq_false hg
     exact ⟨trivial,trivial,by omega,trivial⟩
    ·simp [hg] at h
   ·simp [hw] at h1
theorem qL2 (s:Bs):qoa s = (qB9 s && !qn6 s):=by
 rw [Bool.eq_iff_iff]
 constructor
 ·intro h
  simp only [qoa,Bool.and_eq_true,beq_iff_eq] at h
  obtain ⟨h1,h2,h3⟩:=h
  cases hb:decide ((s.length:Int) > 2048)
  ·unfold qjp at h1 h2 h3
   simp only [hb,cond_false] at h1 h2 h3
   simp only [qet] at h1 h2 h3
   cases hd:s.drop (blk false s) with
   | nil=>simp [hd] at h2
   | cons c r=>
    simp only [hd] at h1 h2 h3
    cases hz:((qaI (c :: r)).2.2 != 0)
    ·have hz':(qaI (c :: r)).2.2 = 0:=by simpa using hz
     simp only [hz,cond_false] at h1 h2 h3
     obtain ⟨g1,t,g2⟩:=qdt hz'
     have hlen:=congrArg List.length hd
     simp only [List.length_drop,List.length_cons] at hlen
     have hn:=qjs false s
     have g4:1 <= (qaI (c :: r)).2.1.length:=by
      cases hq:(qaI (c :: r)).2.1 with
      | nil=>exact absurd hq g1
      | cons _ _=>simp
     obtain ⟨more,hm⟩:=qvT s.length _ _ _ (by simp only [List.length_drop,List.length_cons]; omega) h1
     rw [hm] at h3
     simp only [List.nil_append,List.cons_append,List.head?_cons,Bool.and_eq_true,beq_iff_eq] at h3
     obtain ⟨h3,h4⟩:=h3
     have g5:=congrArg List.length h4
     have g6:=congrArg List.length g2
     simp only [List.length_append,List.length_cons] at g6
     have hn0:blk false s = 0:=by omega
     rw [hn0,List.drop_zero] at hd
     subst hd
     obtain ⟨_,_,e1,q1,q2,q3,q4⟩:=qIg hz' h3
     cases e1
     rw [q4] at h4
     rw [h4] at q2 q3
     have hall:=qz3.1 h4
     simp only [qB9,Bool.and_eq_true,Bool.not_eq_true']
     exact ⟨⟨decide_eq_true q3,q1,hall⟩,q2⟩
    ·simp only [hz,cond_true] at h1
     rw [h1] at hz; simp at hz
  ·unfold qjp at h1
   simp [hb] at h1
 ·intro h
  simp only [qB9,Bool.and_eq_true,Bool.not_eq_true'] at h
  obtain ⟨h,hw⟩:=h
  cases s with
  | nil=>cases h
  | cons c r=>
   simp only [Bool.and_eq_true,decide_eq_true_eq] at h
   obtain ⟨h16,hl,hall⟩:=h
   have hb:decide (((c :: r).length:Int) > 2048) = false:=by simp only [decide_eq_false_iff_not]; omega
   have hb0:blk false (c :: r) = 0:=by
    simp only [at8,qCI,Bool.and_eq_true,decide_eq_true_eq] at hl
    have e1:spI c.toNat = false:=by
     simp only [spI,Bool.or_eq_false_iff,beq_eq_false_iff_ne,ne_eq]; omega
    have e2:((c.toNat:Int) == 35) = false:=by
     simp only [beq_eq_false_iff_ne,ne_eq]; omega
    simp only [blk,e1,e2,cond_false]
   have ht:=qz3.2 hall
   have hx:qaI (c :: r) = (1,c :: r,0):=by
    have hg:decide ((c :: r).length > 16) = false:=by simp only [decide_eq_false_iff_not]; omega
    simp only [qaI,hl,cond_true,ht,hw,cond_false,hg]
   have htk:qjp (c :: r) = ([⟨1,1,c :: r⟩],0,0):=by
    unfold qjp
    rw [hb,cond_false]
    simp only [List.length_cons,qet,hb0,List.drop_zero,hx]
    simp [qet,blk]
   simp [qoa,htk]
def qn9 (l:List Bs) (s:Bs):List Bs:=
 if l[(l.takeWhile (qba · s)).length]? = some s then l else l.take (l.takeWhile (qba · s)).length ++ [s] ++ l.drop (l.takeWhile (qba · s)).length
theorem qyT {l:List Bs} {s x:Bs}:x ∈ qn9 l s ↔ x ∈ l \/ x = s:=by
 unfold qn9
 split
 ·rename_i h
  have:=List.mem_of_getElem? h
  constructor
  ·exact .inl
  ·rintro (h | rfl)
   ·exact h
   ·exact this
 ·generalize (l.takeWhile (qba · s)).length = k
  have:x ∈ l ↔ x ∈ l.take k \/ x ∈ l.drop k:=by rw [<- List.mem_append,List.take_append_drop]
  simp only [List.mem_append,List.mem_singleton,this]
  constructor
  ·rintro ((h | h) | h)
   ·exact .inl (.inl h)
   ·exact .inr h
   ·exact .inl (.inr h)
  ·rintro ((h | h) | h)
   ·exact .inl (.inl h)
   ·exact .inr h
   ·exact .inl (.inr h)
theorem qyS (l:List Bs) (s:Bs):(qn9 l s).length <= l.length + 1:=by
 unfold qn9
 split
 ·omega
 ·simp; omega
theorem qjX {x:Bs}:∀ {ns l:List Bs},x ∈ ns.foldl qn9 l ↔ x ∈ l \/ x ∈ ns
 | [],l=>by simp
 | s :: ns,l=>by
  rw [List.foldl_cons,qjX,qyT,List.mem_cons,or_assoc]
theorem qqq:∀ (ns l:List Bs),(ns.foldl qn9 l).length <= l.length + ns.length
 | [],l=>by simp
 | s :: ns,l=>by
  have:=qqq ns (qn9 l s)
  have:=qyS l s
  simp only [List.foldl_cons,List.length_cons]; omega
mutual
def Ex.names:Ex -> List Bs
 | .mk o _ s l=>Ex.namesL (if o = 4 then [s] else []) l
def Ex.namesL:List Bs -> List Ex -> List Bs
 | acc,[]=>acc
 | acc,e :: l=>Ex.namesL ((Ex.names e).foldl qn9 acc) l
end
mutual
theorem qna:∀ e:Ex,e.names.length <= e.nodes
 | .mk o n s l=>by
  have:=qpk (if o = 4 then [s] else []) l
  simp only [Ex.names,Ex.nodes]
  split at this <;> simp_all <;> omega
theorem qpk:∀ (acc:List Bs) (l:List Ex),(Ex.namesL acc l).length <= acc.length + Ex.nodesL l
 | acc,[]=>by simp [Ex.namesL]
 | acc,e :: l=>by
  have h1:=qna e
  have h2:=qqq e.names acc
  have h3:=qpk (e.names.foldl qn9 acc) l
  simp only [Ex.namesL,Ex.nodesL]; omega
end
mutual
theorem quJ:∀ e:Ex,e.names.all qoa = e.allX qem
 | .mk o n s l=>by
  simp only [Ex.names,Ex.allX,qpj,qem,Ex.op,Ex.txt]
  by_cases h:o = 4 <;> simp [h]
theorem qpj:∀ (acc:List Bs) (l:List Ex),(Ex.namesL acc l).all qoa = (acc.all qoa && Ex.allL qem l)
 | acc,[]=>by simp [Ex.namesL,Ex.allL]
 | acc,e :: l=>by
  have h1:=quJ e
  simp only [Ex.namesL,Ex.allL,qpj]
  have:(e.names.foldl qn9 acc).all qoa = (acc.all qoa && e.names.all qoa):=by
   rw [Bool.eq_iff_iff,Bool.and_eq_true,List.all_eq_true,List.all_eq_true,List.all_eq_true]
   constructor
   ·exact fun h=>⟨fun x hx=>h x (qjX.2 (.inl hx)),fun x hx=>h x (qjX.2 (.inr hx))⟩
   ·rintro ⟨h,h'⟩ x hx
    exact (qjX.1 hx).elim (h x) (h' x)
  rw [this,h1,Bool.and_assoc]
end
end Go.Tk
namespace Go.Proofs.H53z
open Go Go.Eng Go.Tk
set_option maxRecDepth 20000
theorem qw7 {s:Bs} (hl:s.length <= big):qmG (s,0) = some (qqT (fun c=>!at8 qfJ c) (fun _=>0) 1 s,s,((s.findIdx (fun c=>!at8 qfJ c):Nat):Int)):=by
 rw [qoX]
 refine qaY (hd:=fun n=>(s,(n:Int))) (jx:=fun _=>0) _ 1 (fun n h=>?_) ?_
 ·simp only [qic,qjd,qbu h,qbG h,qlA h,qaJ h hl,br_eq,cond_true,ev_br,ev_at,cond_some,ev_bi_some,at8,qfJ,qCI,qcC]
  have e1:decide ((s[n].toNat:Int) < 97) = !decide ((s[n].toNat:Int) >= 97):=by by_cases h:(s[n].toNat:Int) >= 97 <;> simp [h] <;> omega
  have e2:decide ((s[n].toNat:Int) > 122) = !decide ((s[n].toNat:Int) <= 122):=by by_cases h:(s[n].toNat:Int) <= 122 <;> simp [h] <;> omega
  have e3:decide ((s[n].toNat:Int) < 48) = !decide ((s[n].toNat:Int) >= 48):=by by_cases h:(s[n].toNat:Int) >= 48 <;> simp [h] <;> omega
  have e4:decide ((s[n].toNat:Int) > 57) = !decide ((s[n].toNat:Int) <= 57):=by by_cases h:(s[n].toNat:Int) <= 57 <;> simp [h] <;> omega
  rw [e1,e2,e3,e4,bne]
  cases decide ((s[n].toNat:Int) >= 97) <;> cases decide ((s[n].toNat:Int) <= 122) <;> cases decide ((s[n].toNat:Int) >= 48) <;> cases decide ((s[n].toNat:Int) <= 57) <;> cases ((s[n].toNat:Int) == 95) <;> rfl
 ·simp [qic,qjd]
theorem qwU (s:Bs):ql9 s = some (qB9 s):=by
 rw [qBg,qkQ]
 cases s with
 | nil=>rfl
 | cons c r=>
  have e0:decide (((c :: r).length:Int) < 1) = false:=by simp only [List.length_cons,decide_eq_false_iff_not]; omega
  have e1:inB (c :: r).length 0 = true:=by simp [inB]
  have e2:qaK (c :: r) 0 = (c.toNat:Int):=by simp [qaK,qdO]
  have e3:decide (((c :: r).length:Int) > 16) = !decide ((c :: r).length <= 16):=by
   by_cases h:(c :: r).length <= 16 <;> simp only [h,decide_true,decide_false,Bool.not_true,Bool.not_false,decide_eq_true_eq,decide_eq_false_iff_not] <;> omega
  simp only [e0,e1,e2,e3,br_eq,cond_false,cond_true,cond_some,ev_bi_some,ev_br,ev_at,qB9,at8,qCI]
  cases h16:decide ((c :: r).length <= 16)
  ·rfl
  ·have hl:(c :: r).length <= big:=Nat.le_trans (of_decide_eq_true h16) (by decide)
   rw [qw7 hl,qa1]
   have e4:decide ((c.toNat:Int) < 97) = !decide ((c.toNat:Int) >= 97):=by by_cases h:(c.toNat:Int) >= 97 <;> simp [h] <;> omega
   have e5:decide ((c.toNat:Int) > 122) = !decide ((c.toNat:Int) <= 122):=by by_cases h:(c.toNat:Int) <= 122 <;> simp [h] <;> omega
   rw [e4,e5]
   have e6:(c :: r).any (fun c=>!at8 qfJ c) = !(c :: r).all (at8 qfJ):=by rw [List.any_eq_not_all_not]; simp
   rw [e6]
   show _ = some (_ && (_ && (c :: r).all (at8 qfJ)))
   cases decide ((c.toNat:Int) >= 97) <;> cases decide ((c.toNat:Int) <= 122) <;> cases (c :: r).all (at8 qfJ) <;> simp
theorem qwJ:qlS = some (ES wordsS):=by
 rw [qAM,qkp]; rfl
theorem qw8 (s:Bs):qmH (s,ES wordsS,0) = some (qqT (s == ·) (fun _=>0) 1 wordsS,s,ES wordsS,((wordsS.findIdx (s == ·):Nat):Int)):=by
 rw [qoZ]
 refine qaY (hd:=fun n=>(s,ES wordsS,(n:Int))) (jx:=fun _=>0) _ 1 (fun n h=>?_) ?_
 ·simp only [qid,qje,List.length_map,qbu h,qSj h,qs0 h,ev_br,ev_at,cond_true,qaJ h (show wordsS.length <= big by decide)]
  rw [BEq.comm (a:=wordsS[n]) (b:=s)]
  cases (s == wordsS[n]) <;> rfl
 ·simp [qid,qje]
theorem qwV (s:Bs):qiJ s = some (qn6 s):=by
 rw [qBk,qkT,qwJ]
 simp only [ev_bi_some,qw8,qa1,qn6,has]
 cases wordsS.any (s == ·) <;> simp
theorem qBO (s:Bs):qsX s = some (qoa s):=by
 rw [qFx,qrX,qwU,qwV,qL2]
 cases qB9 s <;> simp
theorem qp3:∀ (e:Ex),Wd e -> ∀ (most:Nat),most <= 1000000 -> ∀ n,e.dep <= n -> qcF n e.op e.num e.txt (EX e.args) (most:Int) = some ((min e.nodes (most + 1):Nat):Int):=by
 intro e
 induction e using Ex.ind with
 | h o n s l ih=>
  intro hw most hmost m hm
  have hlen:=hw.len
  simp only [Ex.args] at hlen
  have hwa:∀ x ∈ l,Wd x:=fun x hx=>hw.arg (e:=.mk o n s l) hx
  simp only [Ex.dep] at hm
  cases m with
  | zero=>omega
  | succ k=>
   simp only [qcF,qrI,Ex.op,Ex.num,Ex.txt,Ex.args]
   have key:∀ (r i c:Nat),i + r = l.length -> c <= most + 1 -> ∃ q,qtJ (qcF k) ((most:Int),(c:Int),(i:Int),o,n,s,EX l) = some (0,(most:Int),((min (c + Ex.nodesL (l.drop i)) (most + 1):Nat):Int),q):=by
    intro r
    induction r with
    | zero=>
     intro i c hi hc
     have:i = l.length:=by omega
     subst this
     refine ⟨((l.length:Int),o,n,s,EX l),?_⟩
     rw [qhW,qaQ (j:=0)]
     ·rw [List.drop_length]; simp only [Ex.nodesL,Nat.add_zero]; rw [Nat.min_eq_left hc]
     ·simp [qhA,qil]
    | succ r ihr=>
     intro i c hi hc
     have hn:i < l.length:=by omega
     by_cases hcm:c <= most
     ·have hx:l[i] ∈ l:=List.getElem_mem hn
      have h2:=Ex.depL_mem hx
      have hwr:IntKind.i64.wrap ((most:Int) - (c:Int)) = ((most - c:Nat):Int):=by
       rw [wrap64 (by omega) (by omega)]; omega
      have hg:=ih l[i] hx (hwa _ hx) (most - c) (by omega) k (by omega)
      have hpos:=Ex.nodes_pos l[i]
      have hws:IntKind.i64.wrap ((c:Int) + ((min l[i].nodes (most - c + 1):Nat):Int)) = ((c + min l[i].nodes (most - c + 1):Nat):Int):=by
       rw [wrap64 (by omega) (by omega)]; omega
      have hst:(qhA (qcF k) ((most:Int),(c:Int),(i:Int),o,n,s,EX l)).ev = some (.next ((most:Int),((c + min l[i].nodes (most - c + 1):Nat):Int),((i + 1:Nat):Int),o,n,s,EX l)):=by
       have e1:decide ((c:Int) <= (most:Int)) = true:=by simp; omega
       simp only [qhA,qil,List.length_map,qbu hn,e1,br_eq,cond_true,ev_bi_some,ev_br,ev_at,okX hn,qx0 hn,qx1 hn,qx2 hn,qx3 hn,hwr,hg,hws,qaJ hn hlen]
      obtain ⟨q,hq⟩:=ihr (i + 1) (c + min l[i].nodes (most - c + 1)) (by omega) (by omega)
      refine ⟨q,?_⟩
      rw [qhW] at hq ⊢
      rw [qcO hst,hq,drop_at hn]
      simp only [Ex.nodesL]
      congr 4
      omega
     ·refine ⟨((i:Int),o,n,s,EX l),?_⟩
      rw [qhW,qaQ (j:=0)]
      ·have:min (c + Ex.nodesL (l.drop i)) (most + 1) = c:=by omega
       rw [this]
      ·have e1:decide ((c:Int) <= (most:Int)) = false:=by simp; omega
       simp only [qhA,qil,List.length_map,qbu hn,e1,br_eq,cond_true,cond_false,ev_bi_some,ev_br,ev_at]
   obtain ⟨q,hq⟩:=key l.length 0 1 (by omega) (by omega)
   have hq':qtJ (qcF k) ((most:Int),1,0,o,n,s,EX l) = some (0,(most:Int),((min (1 + Ex.nodesL (l.drop 0)) (most + 1):Nat):Int),q):=hq
   rw [hq']
   simp only [pj_some,if_true,ev_bi_some,ev_at,List.drop_zero,Ex.nodes]
   congr 3; omega
theorem qlU {e:Ex} (hw:Wd e) {most:Nat} (hm:most <= 1000000):qcL e.op e.num e.txt (EX e.args) (most:Int) = some (decide (e.nodes > most)):=by
 have hc:qqm e.op e.num e.txt (EX e.args) (most:Int) = some ((min e.nodes (most + 1):Nat):Int):=qm6 (qp3 e hw most hm)
 rw [qAN,qkq,hc]
 simp only [ev_bi_some,ev_at]
 congr 1
 by_cases h:e.nodes > most <;> simp [h] <;> omega
theorem qwK {e:Ex} (h:e.nodes <= big):qlT e.op e.num e.txt (EX e.args) = some (e.dep:Int):=by
 refine qm6 (n:=e.dep) ?_
 induction e using Ex.ind with
 | h o n s l ih=>
  intro m hm
  cases m with
  | zero=>simp [Ex.dep] at hm
  | succ k=>
   have hdl:=Ex.dep_le (.mk o n s l)
   simp only [Ex.op,Ex.num,Ex.txt,Ex.args,qd1,qrF]
   simp only [Ex.nodes,Ex.dep] at h hm hdl
   have hll:=Ex.nodesL_len l
   have key:qy7 (qd1 k) (0,0,o,n,s,EX l) = some (0,((l.foldl (fun a x=>max a (Ex.dep x)) 0:Nat):Int),(l.length:Int),o,n,s,EX l):=by
    rw [qtI]
    refine qH1 (l:=l) (hd:=fun i a=>(((a:Nat):Int),(i:Int),o,n,s,EX l)) (f:=fun a x=>max a (Ex.dep x)) (jx:=fun _=>0) (inv:=fun _ _=>True) trivial (fun _ _ _ _=>trivial) ?_ ?_
    ·intro i a hn _
     have hx:l[i] ∈ l:=List.getElem_mem hn
     have h1:=Ex.nodesL_mem hx
     have h2:=Ex.depL_mem hx
     have hg:=ih l[i] hx (by omega) k (by omega)
     have hm:(if (l[i].dep:Int) > (a:Int) then (l[i].dep:Int) else (a:Int)) = ((max a l[i].dep:Nat):Int):=by
      by_cases hc:a < l[i].dep
      ·rw [if_pos (by omega),Nat.max_eq_right (by omega)]
      ·rw [if_neg (by omega),Nat.max_eq_left (by omega)]
     simp only [qnK,qnL,List.length_map,qbu hn,okX hn,qx0 hn,qx1 hn,qx2 hn,qx3 hn,hg,ev_br,ev_at,ev_bi_some,cond_true,hm,qaJ hn (show l.length <= big by omega)]
    ·intro a _
     simp [qnK,qnL]
   rw [key,Ex.dep_fold]
   have hw:IntKind.i64.wrap (((max 0 (Ex.depL l):Nat):Int) + 1) = ((Ex.depL l + 1:Nat):Int):=by
    simp only [big] at h
    rw [Nat.zero_max,wrap64 (by omega) (by omega)]; simp
   simp only [pj_some,if_true,ev_bi_some,ev_at,Ex.dep,hw]
theorem qBM (op:Int):qsV op = some (qa5 op):=by
 rw [qFv,qrV]
 simp only [br_eq,cond_some,ev_bi_some,ev_br,ev_at,qa5]
 by_cases h0:op < 1
 ·simp [h0]; rw [if_neg (by omega),if_neg (by omega),if_neg (by omega),if_neg (by omega)]
 by_cases h1:op > 19
 ·simp [h0,h1]; rw [if_neg (by omega),if_neg (by omega),if_neg (by omega),if_neg (by omega)]
 by_cases h2:op <= 4
 ·have e:op = 1 \/ op = 2 \/ op = 3 \/ op = 4:=by omega
  rw [if_pos e]; simp [h0,h1,h2]
 by_cases h3:op = 9
 ·subst h3; simp
 by_cases h4:op = 16
 ·subst h4; simp
 by_cases h5:op = 19
 ·subst h5; simp
 simp [h0,h1,h2,h3,h4,h5]
 rw [if_neg (by omega),if_pos (by omega)]
theorem qwW (op:Int):qmc op = some (qiZ op):=by
 rw [qBl,qkU]
 simp only [ev_br,ev_at,cond_some,qiZ]
 by_cases h1:op = 1
 ·simp [h1]
 by_cases h2:op = 2
 ·simp [h2]
 by_cases h3:op = 3
 ·simp [h3]
 have e1:(op == 1) = false:=by simpa using h1
 have e2:(op == 2) = false:=by simpa using h2
 have e3:(op == 3) = false:=by simpa using h3
 simp [h1,h2,h3,e1,e2,e3]
theorem qwM {e:Ex} (h:e.nodes <= big):qqn e.op e.num e.txt (EX e.args) = some (e.allX qbq):=by
 refine qm6 (n:=e.dep) ?_
 induction e using Ex.ind with
 | h o n s l ih=>
  intro m hm
  cases m with
  | zero=>simp [Ex.dep] at hm
  | succ k=>
   have hal:=Ex.allX_eq qbq (.mk o n s l)
   show qdv (k + 1) o n s (EX l) = some ((Ex.mk o n s l).allX qbq)
   simp only [qdv,qrJ]
   simp only [Ex.nodes,Ex.dep] at h hm
   have hll:=Ex.nodesL_len l
   have key:qmZ (qdv k) (0,o,n,s,EX l) = some (qqT (fun x=>!Ex.allX qbq x) (fun _=>0) 1 l,((l.findIdx (fun x=>!Ex.allX qbq x):Nat):Int),o,n,s,EX l):=by
    rw [qtK]
    refine qaY (hd:=fun i=>((i:Int),o,n,s,EX l)) (jx:=fun _=>0) _ 1 (fun i hn=>?_) ?_
    ·have hx:l[i] ∈ l:=List.getElem_mem hn
     have h1:=Ex.nodesL_mem hx
     have h2:=Ex.depL_mem hx
     have hg:=ih l[i] hx (by omega) k (by omega)
     simp only [qnP,qnQ,List.length_map,qbu hn,okX hn,qx0 hn,qx1 hn,qx2 hn,qx3 hn,hg,ev_br,ev_at,ev_bi_some,cond_true,qaJ hn (show l.length <= big by omega)]
     cases l[i].allX qbq <;> rfl
    ·simp [qnP,qnQ]
   rw [key,hal,qa1,qBM,qwW,Ex.args]
   have e1:decide (n < 0) = !decide (n >= 0):=by by_cases h:n >= 0 <;> simp [h] <;> omega
   have e2:decide (n > qiZ o) = !decide (n <= qiZ o):=by by_cases h:n <= qiZ o <;> simp [h] <;> omega
   have e3:((l.length:Int) == qa5 o) = (qa5 o == (l.length:Int)):=by rw [Bool.eq_iff_iff,beq_iff_eq,beq_iff_eq]; exact eq_comm
   have hna:l.any (fun x=>!Ex.allX qbq x) = !l.all (Ex.allX qbq):=by
    rw [List.any_eq_not_all_not]; simp
   simp only [ev_bi_some,ev_br,ev_at,List.length_map,bne,e3,hna,pj_some]
   rw [e1,e2]
   show _ = some ((qa5 o == (l.length:Int) && (decide (n >= 0) && (decide (n <= qiZ o) && (s == [] || o == 4)))) && _)
   cases (qa5 o == (l.length:Int)) <;> cases decide (n >= 0) <;> cases decide (n <= qiZ o) <;> cases (s == []) <;> cases (o == 4) <;> cases l.all (Ex.allX qbq) <;> rfl
theorem qBX {l:List Bs} (hl:l.length <= big) (s:Bs):qy3 (ES l,s,0) = some (0,ES l,s,(((l.takeWhile (qba · s)).length:Nat):Int)):=by
 rw [qto]
 refine qgE (fun n=>(ES l,s,(n:Int))) (l.takeWhile (qba · s)).length 0 0 (Nat.zero_le _) (fun m _ hm=>?_) ?_
 ·have h:=Nat.lt_of_lt_of_le hm (qxQ l)
  have:=qWd h hm
  simp only [qji,qij,List.length_map,qbu h,qSj h,qs0 h,br_eq,cond_true,ev_bi_some,ev_br,ev_at,this,qaJ h hl]
 ·by_cases h:(l.takeWhile (qba · s)).length < l.length
  ·have:=qLW h
   simp only [qji,qij,List.length_map,qbu h,qSj h,qs0 h,br_eq,cond_true,ev_bi_some,ev_br,ev_at,this,cond_false]
  ·have h2:=qxQ (p:=(qba · s)) l
   simp only [qji,qij,List.length_map,qSe h,br_eq,cond_false,ev_bi_some,ev_br,ev_at]
theorem qwD {l:List Bs} (hl:l.length <= 1000000) (s:Bs):qfX (ES l) s = some (ES (qn9 l s)):=by
 have hb:l.length <= big:=Nat.le_trans hl (by decide)
 rw [qAt,qj8,qBX hb]
 have hk:=qxQ (p:=(qba · s)) l
 unfold qn9
 generalize hkk:(l.takeWhile (qba · s)).length = k at hk
 simp only [pj_some,if_true,ev_bi_some,List.length_map,Int.toNat_natCast]
 have hr:∀ n,n <= 2000000 -> room n 16 = true:=fun n hn=>qLe (by simp only [lim]; omega)
 by_cases hlt:k < l.length
 ·simp only [qbu hlt,qSj hlt,qs0 hlt,br_eq,cond_true,ev_bi_some,ev_br]
  rw [List.getElem?_eq_getElem hlt]
  cases hq:(l[k] == s)
  ·have hne:¬ l[k] = s:=by simpa using hq
   have hD:decide ((List.drop k (ES l)).length = 0) = false:=by simp; omega
   have hD':decide ((List.drop k (ES l)).length ≠ 0) = true:=by simp; omega
   simp only [Option.some.injEq,hne,if_false,cond_false,qGZ (Nat.le_of_lt hlt),Bool.and_true,Bool.true_and,Bool.false_and,Bool.and_self,cond_true,hD,hD',decide_true]
   by_cases hk0:k = 0
   ·subst hk0
    rw [hr _ (by simp; omega)]
    simp
   ·have hTl:(List.take k (ES l)).length = k:=by rw [List.length_take,List.length_map]; omega
    have hT:decide ((List.take k (ES l)).length = 0) = false:=by rw [hTl]; simpa using hk0
    have hT':decide ((List.take k (ES l)).length ≠ 0) = true:=by rw [hTl]; simpa using hk0
    simp only [hT,hT',Bool.true_and,Bool.false_and,cond_false]
    rw [hr _ (by simp; omega),hr _ (by simp; omega),hr _ (by simp; omega)]
    simp [List.map_append,List.map_take,List.map_drop]
  ·have hqe:l[k] = s:=by simpa using hq
   simp [hqe]
 ·have hke:k = l.length:=by omega
  have hD:decide ((List.drop k (ES l)).length = 0) = true:=by simp; omega
  simp only [qSe hlt,br_eq,cond_false,ev_bi_some,ev_br,qGZ hk,Bool.and_true,Bool.true_and,cond_true,hD,decide_true]
  rw [List.getElem?_eq_none (by omega)]
  simp only [reduceCtorEq,if_false]
  by_cases hk0:k = 0
  ·have:l = []:=by cases l with
    | nil=>rfl
    | cons _ _=>simp at hke; omega
   subst this; subst hk0; rfl
  ·have hTl:(List.take k (ES l)).length = k:=by rw [List.length_take,List.length_map]; omega
   have hT:decide ((List.take k (ES l)).length = 0) = false:=by rw [hTl]; simpa using hk0
   have hT':decide ((List.take k (ES l)).length ≠ 0) = true:=by rw [hTl]; simpa using hk0
   simp only [hT,hT',Bool.true_and,cond_false,ev_br]
   rw [hr _ (by simp; omega),hr _ (by simp; omega)]
   have e1:List.take k (ES l) = ES l:=List.take_of_length_le (by simp; omega)
   have e2:List.take k l = l:=List.take_of_length_le (by omega)
   have e3:List.drop k l = []:=List.drop_eq_nil_of_le (by omega)
   simp [e1,e2,e3]
def hdI (f:Nat) (i:Int) (L:List AV) (j:Int) (o n:Int) (s:Bs) (A:List AV) (acc:List Bs):qc6:=match f with
 | 0=>.inl (i,L,j,o,n,s,A,ES acc)
 | 1=>.inr (.inl (i,L,j,o,n,s,A))
 | _=>.inr (.inr (ES acc,i,L,j,o,n,s,A))
def hdO (f:Nat) (i:Int) (o n:Int) (s:Bs) (A:List AV) (acc:List Bs):qcJ:=match f with
 | 0=>.inl (i,o,n,s,A,ES acc)
 | 1=>.inr (.inl (i,o,n,s,A))
 | _=>.inr (.inr (ES acc,i,o,n,s,A))
def fOk (f:Nat) (acc:List Bs):Prop:=f <= 2 /\ (f = 1 -> acc = [])
theorem qsk {L:List Bs} (hL:L.length <= 1000000) (i o n:Int) (s:Bs) (A:List AV):∀ (r j f:Nat) (acc:List Bs),j + r = L.length -> fOk f acc -> acc.length + r <= 1000000 ->
  qek (hdI f i (ES L) (j:Int) o n s A acc) = some (if r = 0 then f else 2,hdI (if r = 0 then f else 2) i (ES L) (L.length:Int) o n s A ((L.drop j).foldl qn9 acc))
 | 0,j,f,acc,hj,hf,_=>by
  have:j = L.length:=by omega
  subst this
  obtain ⟨h1,h2⟩:=hf
  rw [qmY,List.drop_length]
  simp only [if_true,List.foldl_nil]
  match f,h1 with
  | 0,_=>rw [qaQ (j:=0)]; simp [hdI,qeb,qnM]
  | 1,_=>rw [qaQ (j:=1)]; simp [hdI,qeb,qnN]
  | 2,_=>rw [qaQ (j:=2)]; simp [hdI,qeb,qnO]
 | r + 1,j,f,acc,hj,hf,hb=>by
  have hn:j < L.length:=by omega
  obtain ⟨h1,h2⟩:=hf
  have hst:(qeb (hdI f i (ES L) (j:Int) o n s A acc)).ev = some (.next (hdI 2 i (ES L) ((j + 1:Nat):Int) o n s A (qn9 acc L[j]))):=by
   have hi:=qwD (l:=acc) (by omega) L[j]
   match f,h1 with
   | 0,_=>simp only [hdI,qeb,Sum.elim_inl,qnM,List.length_map,qbu hn,qSj hn,qs0 hn,hi,ev_br,ev_at,ev_bi_some,cond_true,qaJ hn (Nat.le_trans hL (by decide))]
   | 1,_=>
    have:=h2 rfl
    subst this
    have hi':qfX [] L[j] = some (ES (qn9 [] L[j])):=hi
    simp only [hdI,qeb,Sum.elim_inl,Sum.elim_inr,qnN,List.length_map,qbu hn,qSj hn,qs0 hn,hi',ev_br,ev_at,ev_bi_some,cond_true,qaJ hn (Nat.le_trans hL (by decide))]
   | 2,_=>simp only [hdI,qeb,Sum.elim_inr,qnO,List.length_map,qbu hn,qSj hn,qs0 hn,hi,ev_br,ev_at,ev_bi_some,cond_true,qaJ hn (Nat.le_trans hL (by decide))]
  have hle:=qyS acc L[j]
  have ih:=qsk hL i o n s A r (j + 1) 2 (qn9 acc L[j]) (by omega) ⟨Nat.le_refl _,by omega⟩ (by omega)
  rw [qmY] at ih ⊢
  rw [qcO hst,ih,drop_at hn]
  have:(if r = 0 then 2 else 2) = 2:=by split <;> rfl
  rw [this,if_neg (show ¬ r + 1 = 0 by omega),List.foldl_cons]
noncomputable def qIc (y:Option (Nat × qcJ)):DT qll:=
 .bi (pj 0 y) (fun y0=>.at ((sl y0).snd.snd.snd.snd.snd)) (.bi (pj 1 y) (fun _=>.at ([])) (.bi (pj 2 y) (fun y0=>.at ((sr (sr y0)).fst)) .no))
theorem qId (G:Int -> Int -> List UInt8 -> List AV -> Option qll) (x0 x1:Int) (x2:Bs) (x3:List AV) :
  qrG G x0 x1 x2 x3 = .br (x0 == 4) (qIc (qgh G (hdO 0 0 x0 x1 x2 x3 [x2]))) (qIc (qgh G (hdO 1 0 x0 x1 x2 x3 []))):=rfl
theorem qp2:∀ (e:Ex),e.nodes <= 1000000 -> ∀ n,e.dep <= n -> qcE n e.op e.num e.txt (EX e.args) = some (ES e.names):=by
 intro e
 induction e using Ex.ind with
 | h o n s l ih=>
  intro h m hm
  simp only [Ex.dep] at hm
  have hll:=Ex.nodesL_len l
  simp only [Ex.nodes] at h
  cases m with
  | zero=>omega
  | succ k=>
   have key:∀ (r i f:Nat) (acc:List Bs),i + r = l.length -> fOk f acc -> acc.length + Ex.nodesL (l.drop i) <= 1000000 -> (qIc (qgh (qcE k) (hdO f (i:Int) o n s (EX l) acc))).ev = some (ES (Ex.namesL acc (l.drop i))):=by
    intro r
    induction r with
    | zero=>
     intro i f acc hi hf _
     have:i = l.length:=by omega
     subst this
     obtain ⟨h1,h2⟩:=hf
     rw [qmX,List.drop_length]
     match f,h1 with
     | 0,_=>
      rw [qaQ (j:=0)]
      ·rfl
      ·simp [hdO,qb3,qgs]
     | 1,_=>
      have:=h2 rfl
      subst this
      rw [qaQ (j:=1)]
      ·rfl
      ·simp [hdO,qb3,qgt]
     | 2,_=>
      rw [qaQ (j:=2)]
      ·rfl
      ·simp [hdO,qb3,qgu]
    | succ r ihr=>
     intro i f acc hi hf hb
     have hn:i < l.length:=by omega
     have hx:l[i] ∈ l:=List.getElem_mem hn
     have h1:=Ex.nodesL_mem hx
     have h2:=Ex.depL_mem hx
     have hg:=ih l[i] hx (by omega) k (by omega)
     have hnl:=qna l[i]
     rw [drop_at hn] at hb ⊢
     simp only [Ex.nodesL] at hb
     have hin:=qsk (L:=l[i].names) (by omega) (i:Int) o n s (EX l) l[i].names.length 0 f acc (by omega) hf (by omega)
     rw [List.drop_zero] at hin
     have hfl:=qqq l[i].names acc
     generalize hf2:(if l[i].names.length = 0 then f else 2) = f2 at hin
     have hf2ok:fOk f2 (l[i].names.foldl qn9 acc):=by
      rw [<- hf2]
      by_cases hz:l[i].names.length = 0
      ·rw [if_pos hz]
       have:l[i].names = []:=List.length_eq_zero_iff.1 hz
       rw [this]; exact hf
      ·rw [if_neg hz]; exact ⟨Nat.le_refl _,by omega⟩
     have hst:(qb3 (qcE k) (hdO f (i:Int) o n s (EX l) acc)).ev = some (.next (hdO f2 ((i + 1:Nat):Int) o n s (EX l) (l[i].names.foldl qn9 acc))):=by
      obtain ⟨hf1,_⟩:=hf
      obtain ⟨hf3,_⟩:=hf2ok
      have hin':qek (hdI f (i:Int) (ES l[i].names) 0 o n s (EX l) acc) = some (f2,hdI f2 (i:Int) (ES l[i].names) (l[i].names.length:Int) o n s (EX l) (l[i].names.foldl qn9 acc)):=hin
      have hw:=qaJ hn (show l.length <= big by simp only [big]; omega)
      match f,hf1,f2,hf3 with
      | 0,_,0,_=>simp (decide:=true) only [hdO,hdI,qb3,Sum.elim_inl,qgs,List.length_map,qbu hn,okX hn,qx0 hn,qx1 hn,qx2 hn,qx3 hn,hg,ev_br,ev_at,ev_bi_some,ev_bi_none,cond_true,pj_some,if_true,if_false,sl_inl,sr_inr,hw] at hin' ⊢; simp (decide:=true) only [hin',pj_some,if_true,if_false,ev_bi_some,ev_bi_none,ev_at,sl_inl,sr_inr,hw]
      | 0,_,1,_=>simp (decide:=true) only [hdO,hdI,qb3,Sum.elim_inl,qgs,List.length_map,qbu hn,okX hn,qx0 hn,qx1 hn,qx2 hn,qx3 hn,hg,ev_br,ev_at,ev_bi_some,ev_bi_none,cond_true,pj_some,if_true,if_false,sl_inl,sr_inr,hw] at hin' ⊢; simp (decide:=true) only [hin',pj_some,if_true,if_false,ev_bi_some,ev_bi_none,ev_at,sl_inl,sr_inr,hw]
      | 0,_,2,_=>simp (decide:=true) only [hdO,hdI,qb3,Sum.elim_inl,qgs,List.length_map,qbu hn,okX hn,qx0 hn,qx1 hn,qx2 hn,qx3 hn,hg,ev_br,ev_at,ev_bi_some,ev_bi_none,cond_true,pj_some,if_true,if_false,sl_inl,sr_inr,hw] at hin' ⊢; simp (decide:=true) only [hin',pj_some,if_true,if_false,ev_bi_some,ev_bi_none,ev_at,sl_inl,sr_inr,hw]
      | 1,_,0,_=>simp (decide:=true) only [hdO,hdI,qb3,Sum.elim_inl,Sum.elim_inr,qgt,List.length_map,qbu hn,okX hn,qx0 hn,qx1 hn,qx2 hn,qx3 hn,hg,ev_br,ev_at,ev_bi_some,ev_bi_none,cond_true,pj_some,if_true,if_false,sl_inl,sr_inr,hw] at hin' ⊢; simp (decide:=true) only [hin',pj_some,if_true,if_false,ev_bi_some,ev_bi_none,ev_at,sl_inl,sr_inr,hw]
      | 1,_,1,_=>simp (decide:=true) only [hdO,hdI,qb3,Sum.elim_inl,Sum.elim_inr,qgt,List.length_map,qbu hn,okX hn,qx0 hn,qx1 hn,qx2 hn,qx3 hn,hg,ev_br,ev_at,ev_bi_some,ev_bi_none,cond_true,pj_some,if_true,if_false,sl_inl,sr_inr,hw] at hin' ⊢; simp (decide:=true) only [hin',pj_some,if_true,if_false,ev_bi_some,ev_bi_none,ev_at,sl_inl,sr_inr,hw]
      | 1,_,2,_=>simp (decide:=true) only [hdO,hdI,qb3,Sum.elim_inl,Sum.elim_inr,qgt,List.length_map,qbu hn,okX hn,qx0 hn,qx1 hn,qx2 hn,qx3 hn,hg,ev_br,ev_at,ev_bi_some,ev_bi_none,cond_true,pj_some,if_true,if_false,sl_inl,sr_inr,hw] at hin' ⊢; simp (decide:=true) only [hin',pj_some,if_true,if_false,ev_bi_some,ev_bi_none,ev_at,sl_inl,sr_inr,hw]
      | 2,_,0,_=>simp (decide:=true) only [hdO,hdI,qb3,Sum.elim_inr,qgu,List.length_map,qbu hn,okX hn,qx0 hn,qx1 hn,qx2 hn,qx3 hn,hg,ev_br,ev_at,ev_bi_some,ev_bi_none,cond_true,pj_some,if_true,if_false,sl_inl,sr_inr,hw] at hin' ⊢; simp (decide:=true) only [hin',pj_some,if_true,if_false,ev_bi_some,ev_bi_none,ev_at,sl_inl,sr_inr,hw]
      | 2,_,1,_=>simp (decide:=true) only [hdO,hdI,qb3,Sum.elim_inr,qgu,List.length_map,qbu hn,okX hn,qx0 hn,qx1 hn,qx2 hn,qx3 hn,hg,ev_br,ev_at,ev_bi_some,ev_bi_none,cond_true,pj_some,if_true,if_false,sl_inl,sr_inr,hw] at hin' ⊢; simp (decide:=true) only [hin',pj_some,if_true,if_false,ev_bi_some,ev_bi_none,ev_at,sl_inl,sr_inr,hw]
      | 2,_,2,_=>simp (decide:=true) only [hdO,hdI,qb3,Sum.elim_inr,qgu,List.length_map,qbu hn,okX hn,qx0 hn,qx1 hn,qx2 hn,qx3 hn,hg,ev_br,ev_at,ev_bi_some,ev_bi_none,cond_true,pj_some,if_true,if_false,sl_inl,sr_inr,hw] at hin' ⊢; simp (decide:=true) only [hin',pj_some,if_true,if_false,ev_bi_some,ev_bi_none,ev_at,sl_inl,sr_inr,hw]
     have ihn:=ihr (i + 1) f2 (l[i].names.foldl qn9 acc) (by omega) hf2ok (by omega)
     rw [qmX] at ihn ⊢
     rw [qcO hst,ihn]
     simp only [Ex.namesL]
   show qcE (k + 1) o n s (EX l) = some (ES (Ex.mk o n s l).names)
   simp only [qcE,qId,ev_br,Ex.names]
   by_cases ho:o = 4
   ·have e:(o == 4) = true:=by simpa using ho
    rw [e,cond_true,if_pos ho]
    exact key l.length 0 0 [s] (by omega) ⟨by omega,by omega⟩ (by simp; omega)
   ·have e:(o == 4) = false:=by simpa using ho
    rw [e,cond_false,if_neg ho]
    exact key l.length 0 1 [] (by omega) ⟨by omega,fun _=>rfl⟩ (by simp; omega)
theorem qwL {e:Ex} (h:e.nodes <= 1000000):qql e.op e.num e.txt (EX e.args) = some (ES e.names):=qm6 (qp2 e h)
theorem qBW {l:List Bs} (hl:l.length <= big):qtg (ES l,0) = some (qqT (fun s=>!qoa s) (fun _=>0) 1 l,ES l,((l.findIdx (fun s=>!qoa s):Nat):Int)):=by
 rw [qth]
 refine qaY (hd:=fun i=>(ES l,(i:Int))) (jx:=fun _=>0) _ 1 (fun i hn=>?_) ?_
 ·simp only [qnE,qnF,List.length_map,qbu hn,qSj hn,qs0 hn,qBO,ev_br,ev_at,ev_bi_some,cond_true,qaJ hn hl]
  cases qoa l[i] <;> rfl
 ·simp [qnE,qnF]
theorem qBN {e:Ex} (hw:Wd e):qsW e.op e.num e.txt (EX e.args) = some (qd0 e):=by
 have hG:=qlU hw (most:=64) (by omega)
 rw [qFw,qrW,show (64:Int) = ((64:Nat):Int) from rfl,hG,qd0]
 by_cases h64:e.nodes > 64
 ·simp [h64]
 ·have hb:e.nodes <= big:=by simp only [big]; omega
  have hs:e.nodes <= 1000000:=by omega
  have hnl:=qna e
  have hna:e.names.any (fun s=>!qoa s) = !e.allX qem:=by
   rw [<- quJ,List.any_eq_not_all_not]; simp
  rw [qwK hb,qwM hb,qwL hs]
  have e2:decide (gv (some (e.dep:Int)) > 8) = decide (e.dep > 8):=by
   show decide ((e.dep:Int) > 8) = _
   by_cases h:e.dep > 8 <;> simp [h] <;> omega
  have e3:decide (e.nodes > 64) = false:=by simpa using h64
  have hvl:=qBW (show e.names.length <= big by simp only [big]; omega)
  rw [qa1,hna] at hvl
  simp only [ev_bi_some,br_eq,sm_some,e2,e3,cond_false]
  cases decide (e.dep > 8) <;> cases e.allX qbq <;> cases hn:e.allX qem <;> simp [hvl,hn]
end Go.Proofs.H53z
namespace Go.Tk
open Go Go.Eng
set_option maxRecDepth 20000
structure Va where
 (name:Bs)
 (ty:Int)
def Va.av (x:Va):AV:=.agg [.str x.name,.int .i64 x.ty]
abbrev EV (l:List Va):List AV:=l.map Va.av
abbrev ksV:List CS:=[CS.str,CS.int IntKind.i64]
theorem hkV (h:Va):qfK ksV (qac h.av) = true:=rfl
theorem okV {l:List Va} {n:Nat} (h:n < l.length):qaw ksV (EV l) (n:Int) = true:=qbv hkV h
theorem qv0 {l:List Va} {n:Nat} (h:n < l.length):strOf (cellAt (EV l) (n:Int) 0) = l[n].name:=by rw [qad h]; rfl
theorem qv1 {l:List Va} {n:Nat} (h:n < l.length):intOf (cellAt (EV l) (n:Int) 1) = l[n].ty:=by rw [qad h]; rfl
abbrev EI (l:List Int):List AV:=l.map (.int .i64)
abbrev ksI:List CS:=[CS.int IntKind.i64]
theorem okI {l:List Int} {n:Nat} (h:n < l.length):qaw ksI (EI l) (n:Int) = true:=qbv (fun _=>rfl) h
theorem qi0 {l:List Int} {n:Nat} (h:n < l.length):intOf (cellAt (EI l) (n:Int) 0) = l[n]:=by rw [qad h]; rfl
def qb6 (t:Int):Bool:=decide (t >= 1) && decide (t <= 5)
theorem qcj {t:Int} (h:qb6 t = true):t = 1 \/ t = 2 \/ t = 3 \/ t = 4 \/ t = 5:=by
 simp only [qb6,Bool.and_eq_true,decide_eq_true_eq] at h; omega
def ariL:List ((Int × Int × Int) × Int):=[((5,1,1),1),((5,2,2),2),((5,3,3),3),((5,4,1),4),((6,1,1),1),((6,2,2),2),((6,3,3),3),((6,4,1),4),((6,4,4),1),((7,1,1),1),((7,1,2),2),((7,1,3),3),((7,2,1),2),((7,2,3),2),((7,3,1),3),((7,3,2),2),((8,1,1),1),((8,2,1),2),((8,2,2),1),((8,3,1),3)]
def qEL (op a b:Int):Option Int:=(ariL.find? fun p=>p.1 == (op,a,b)).map (·.2)
theorem qTx {op a b t:Int} (h:qEL op a b = some t):t ≠ 0 /\ 5 <= op /\ op <= 8:=by
 unfold qEL at h
 cases hf:(ariL.find? fun p=>p.1 == (op,a,b)) with
 | none=>rw [hf] at h; cases h
 | some p=>
  rw [hf] at h; cases h
  have h1:=List.mem_of_find?_eq_some hf
  have h2:=List.find?_some hf
  have:∀ p ∈ ariL,p.2 ≠ 0 /\ 5 <= p.1.1 /\ p.1.1 <= 8:=by decide
  obtain ⟨h3,h4,h5⟩:=this p h1
  have:p.1 = (op,a,b):=by simpa using h2
  rw [this] at h4 h5
  exact ⟨h3,h4,h5⟩
theorem qTy {op:Int} (h:op < 5 \/ 8 < op) (a b:Int):qEL op a b = none:=by
 cases hq:qEL op a b with
 | none=>rfl
 | some t=>have:=qTx hq; omega
def nrm (p:Int × Bool):Int × Bool:=bif p.2 then (p.1,true) else (0,false)
def qh4 (op a:Int):Int × Bool:=
 if op = 16 then bif a == 5 then (5,true) else (0,false)
 else if op = 9 then bif a == 1 || (a == 2 || a == 3) then (a,true) else (0,false)
 else (0,false)
def qLZ (op a b:Int):Int × Bool:=
 if op = 10 \/ op = 11 then bif a == b then (5,true) else (0,false)
 else if op = 12 \/ op = 13 then bif a == b && a != 5 then (5,true) else (0,false)
 else if op = 14 \/ op = 15 then bif a == b && a == 5 then (5,true) else (0,false)
 else if op = 17 \/ op = 18 then bif a == b && a != 5 then (a,true) else (0,false)
 else match qEL op a b with
  | some t=>(t,true)
  | none=>(0,false)
def qLL (op a b c:Int):Int × Bool:=bif op == 19 && (a == 5 && b == c) then (b,true) else (0,false)
def qVI (op:Int) (l:List Int):Int × Bool:=bif !l.all qb6 then (0,false) else match l with
 | [a]=>qh4 op a
 | [a,b]=>qLZ op a b
 | [a,b,c]=>qLL op a b c
 | _=>(0,false)
def qWg (vs:List Va) (s:Bs):Int × Int:=match vs.find? fun v=>v.name == s with
 | none=>(0,4)
 | some v=>bif qb6 v.ty then (v.ty,0) else (0,3)
def qXb (op:Int) (p:List Int × Int):Int × Int:=bif p.2 != 0 then (0,p.2) else bif (qVI op p.1).2 then ((qVI op p.1).1,0) else (0,3)
mutual
def Ex.ty (vs:List Va):Ex -> Int × Int
 | .mk o _ s l=>if o = 1 then (1,0) else if o = 2 then (2,0) else if o = 3 then (3,0) else if o = 4 then qWg vs s else qXb o (Ex.tys vs l)
def Ex.tys (vs:List Va):List Ex -> List Int × Int
 | []=>([],0)
 | e :: l=>bif (Ex.ty vs e).2 != 0 then ([],(Ex.ty vs e).2) else bif (Ex.tys vs l).2 != 0 then ([],(Ex.tys vs l).2) else ((Ex.ty vs e).1 :: (Ex.tys vs l).1,0)
end
def ofS (e:Ex) (vs:List Va):Int × Int:=bif qd0 e != 0 then (0,qd0 e) else e.ty vs
def qlD (e:Ex) (vs:List Va) (want:Int):Int:=bif (ofS e vs).2 != 0 then (ofS e vs).2 else bif (ofS e vs).1 != want then 3 else 0
end Go.Tk
namespace Go.Proofs.H53z
open Go Go.Eng Go.Tk
set_option maxRecDepth 20000
theorem qmd (x:Int):qiK x = some (qb6 x):=by
 rw [qBm,qkV]; by_cases h:x >= 1 <;> simp [qb6,h]
theorem qdD (x:Int):qcK x = some (x == 1 || (x == 2 || x == 3)):=by
 rw [qAv,qka]
 cases h:(x == 1) <;> cases h':(x == 2) <;> simp [h,h']
theorem qwY {op a b:Int} (ha:qb6 a = true) (hb:qb6 b = true):∃ p,qml op a b = some p /\ nrm p = qLZ op a b:=by
 rw [qBB,qld]
 by_cases h1:op = 5
 ·subst h1
  simp only [qdD]
  rcases qcj ha with rfl | rfl | rfl | rfl | rfl <;> rcases qcj hb with rfl | rfl | rfl | rfl | rfl <;> exact ⟨_,rfl,rfl⟩
 by_cases h2:op = 6
 ·subst h2
  simp only [qdD]
  rcases qcj ha with rfl | rfl | rfl | rfl | rfl <;> rcases qcj hb with rfl | rfl | rfl | rfl | rfl <;> exact ⟨_,rfl,rfl⟩
 by_cases h3:op = 7
 ·subst h3
  simp only [qFC,qr8,qdD]
  rcases qcj ha with rfl | rfl | rfl | rfl | rfl <;> rcases qcj hb with rfl | rfl | rfl | rfl | rfl <;> exact ⟨_,rfl,rfl⟩
 by_cases h4:op = 8
 ·subst h4
  simp only [qdD]
  rcases qcj ha with rfl | rfl | rfl | rfl | rfl <;> rcases qcj hb with rfl | rfl | rfl | rfl | rfl <;> exact ⟨_,rfl,rfl⟩
 by_cases g1:op = 10
 ·subst g1; exact ⟨_,rfl,by cases h:(a == b) <;> simp [nrm,qLZ,h]⟩
 by_cases g2:op = 11
 ·subst g2; exact ⟨_,rfl,by cases h:(a == b) <;> simp [nrm,qLZ,h]⟩
 by_cases g3:op = 12
 ·subst g3; exact ⟨(5,a == b && a != 5),by cases h:(a == b) <;> simp [h],by cases h:(a == b && a != 5) <;> simp [nrm,qLZ,h]⟩
 by_cases g4:op = 13
 ·subst g4; exact ⟨(5,a == b && a != 5),by cases h:(a == b) <;> simp [h],by cases h:(a == b && a != 5) <;> simp [nrm,qLZ,h]⟩
 have hand:(a == 5 && b == 5) = (a == b && a == 5):=by
  rw [Bool.eq_iff_iff]; simp only [Bool.and_eq_true,beq_iff_eq]
  constructor
  ·rintro ⟨rfl,rfl⟩; exact ⟨rfl,rfl⟩
  ·rintro ⟨rfl,rfl⟩; exact ⟨rfl,rfl⟩
 by_cases g5:op = 14
 ·subst g5; exact ⟨(5,a == 5 && b == 5),by cases h:(a == 5) <;> simp [h],by rw [hand]; cases h:(a == b && a == 5) <;> simp [nrm,qLZ,h]⟩
 by_cases g6:op = 15
 ·subst g6; exact ⟨(5,a == 5 && b == 5),by cases h:(a == 5) <;> simp [h],by rw [hand]; cases h:(a == b && a == 5) <;> simp [nrm,qLZ,h]⟩
 by_cases g7:op = 17
 ·subst g7; exact ⟨(a,a == b && a != 5),by cases h:(a == b) <;> simp [h],by cases h:(a == b && a != 5) <;> simp [nrm,qLZ,h]⟩
 by_cases g8:op = 18
 ·subst g8; exact ⟨(a,a == b && a != 5),by cases h:(a == b) <;> simp [h],by cases h:(a == b && a != 5) <;> simp [nrm,qLZ,h]⟩
 have e1:(op == 10) = false:=by simpa using g1
 have e2:(op == 11) = false:=by simpa using g2
 have e3:(op == 12) = false:=by simpa using g3
 have e4:(op == 13) = false:=by simpa using g4
 have e5:(op == 14) = false:=by simpa using g5
 have e6:(op == 15) = false:=by simpa using g6
 have e7:(op == 17) = false:=by simpa using g7
 have e8:(op == 18) = false:=by simpa using g8
 have d1:(op == 5) = false:=by simpa using h1
 have d2:(op == 6) = false:=by simpa using h2
 have d3:(op == 7) = false:=by simpa using h3
 have d4:(op == 8) = false:=by simpa using h4
 refine ⟨(0,false),by simp only [d1,d2,d3,d4,e1,e2,e3,e4,e5,e6,e7,e8,ev_br,ev_at,cond_false],?_⟩
 simp only [qLZ,g1,g2,g3,g4,g5,g6,g7,g8,or_self,if_false]
 rw [qTy (by omega)]; rfl
theorem qgC {l:List Int} (hl:l.length <= big) (op:Int):qtp (op,EI l,0) = some (qqT (fun t=>!qb6 t) (fun _=>0) 1 l,op,EI l,((l.findIdx (fun t=>!qb6 t):Nat):Int)):=by
 rw [qtq]
 refine qaY (hd:=fun i=>(op,EI l,(i:Int))) (jx:=fun _=>0) _ 1 (fun i hn=>?_) ?_
 ·simp only [qnG,qnH,List.length_map,qbu hn,okI hn,qi0 hn,qmd,ev_br,ev_at,ev_bi_some,cond_true,qaJ hn hl]
  cases qb6 l[i] <;> rfl
 ·simp [qnG,qnH]
theorem qwE (l:List Int) (op:Int):qfo op (EI l) = some (qVI op l):=by
 rw [qAu,qj9]
 unfold qVI
 match l with
 | a :: b :: c :: d :: r=>
  have e1:decide (((EI (a :: b :: c :: d :: r)).length:Int) > 3) = true:=by simp; omega
  simp only [e1,ev_br,ev_at,cond_true]
  cases (a :: b :: c :: d :: r).all qb6 <;> rfl
 | []=>
  rw [qgC (by decide)]
  have hr:qfY op (EI []) = some (0,false):=by
   rw [qgz,qfC]
   cases (op == 9) <;> cases (op == 16) <;> cases (op == 19) <;> rfl
  simp [-List.map_nil,qqT,hr]
 | [a]=>
  rw [qgC (by simp [big]),qa1,show [a].any (fun t=>!qb6 t) = !qb6 a by simp]
  have hr:∃ p,qfY op (EI [a]) = some p /\ nrm p = qh4 op a:=by
   rw [qgz,qfC]
   have e0:intOf (cellAt (EI [a]) 0 0) = a:=rfl
   have e1:qaw ksI (EI [a]) 0 = true:=rfl
   unfold qh4
   by_cases h1:op = 9
   ·subst h1
    refine ⟨(a,a == 1 || (a == 2 || a == 3)),by simp [-List.map_cons,-List.map_nil,qdD,e0,e1],?_⟩
    cases h:(a == 1 || (a == 2 || a == 3)) <;> simp [nrm,h]
   by_cases h2:op = 16
   ·subst h2
    refine ⟨(5,a == 5),by simp [-List.map_cons,-List.map_nil,e0,e1],?_⟩
    cases h:(a == 5) <;> simp [nrm,h]
   have d1:(op == 9) = false:=by simpa using h1
   have d2:(op == 16) = false:=by simpa using h2
   refine ⟨(0,false),?_,by simp [nrm,h1,h2]⟩
   cases h:(op == 19) <;> simp [-List.map_cons,-List.map_nil,d1,d2,h]
  obtain ⟨p,h1,h2⟩:=hr
  cases hg:qb6 a
  ·simp [hg]
  ·simp only [List.all_cons,List.all_nil,hg,Bool.and_self,Bool.not_true,cond_false,<- h2,nrm]
   cases hp:p.2 <;> simp [-List.map_cons,-List.map_nil,h1,hp]
 | [a,b]=>
  rw [qgC (by simp [big]),qa1,show [a,b].any (fun t=>!qb6 t) = !(qb6 a && qb6 b) by simp]
  cases hg:(qb6 a && qb6 b)
  ·simp [hg]
  ·have hab:=hg
   simp only [Bool.and_eq_true] at hab
   obtain ⟨q,hq1,hq2⟩:=qwY (op:=op) hab.1 hab.2
   have hr:qfY op (EI [a,b]) = some q:=by
    rw [qgz,qfC]
    have e0:intOf (cellAt (EI [a,b]) 0 0) = a:=rfl
    have e0':intOf (cellAt (EI [a,b]) 1 0) = b:=rfl
    have e1:qaw ksI (EI [a,b]) 0 = true:=rfl
    have e1':qaw ksI (EI [a,b]) 1 = true:=rfl
    cases (op == 9) <;> cases (op == 16) <;> cases (op == 19) <;> simp [-List.map_cons,-List.map_nil,e0,e0',e1,e1',hq1]
   simp only [List.all_cons,List.all_nil,hg,Bool.and_true,Bool.not_true,cond_false,<- hq2,nrm]
   cases hp:q.2 <;> simp [-List.map_cons,-List.map_nil,hr,hp]
 | [a,b,c]=>
  rw [qgC (by simp [big]),qa1,show [a,b,c].any (fun t=>!qb6 t) = !(qb6 a && (qb6 b && qb6 c)) by simp]
  cases hg:(qb6 a && (qb6 b && qb6 c))
  ·simp [hg]
  ·have hr:∃ p,qfY op (EI [a,b,c]) = some p /\ nrm p = qLL op a b c:=by
    rw [qgz,qfC]
    have e0:intOf (cellAt (EI [a,b,c]) 0 0) = a:=rfl
    have e1:intOf (cellAt (EI [a,b,c]) 1 0) = b:=rfl
    have e2:intOf (cellAt (EI [a,b,c]) 2 0) = c:=rfl
    have d0:qaw ksI (EI [a,b,c]) 0 = true:=rfl
    have d1:qaw ksI (EI [a,b,c]) 1 = true:=rfl
    have d2:qaw ksI (EI [a,b,c]) 2 = true:=rfl
    unfold qLL
    cases h9:(op == 9) <;> cases h16:(op == 16) <;> cases h19:(op == 19) <;> cases h5:(a == 5) <;> cases hbc:(b == c) <;> simp [-List.map_cons,-List.map_nil,e0,e1,e2,d0,d1,d2,h5,hbc,nrm]
   obtain ⟨p,h1,h2⟩:=hr
   simp only [List.all_cons,List.all_nil,hg,Bool.and_true,Bool.not_true,cond_false,<- h2,nrm]
   cases hp:p.2 <;> simp [-List.map_cons,-List.map_nil,h1,hp]
theorem qyt {α:Type} {l:List α} {p:α -> Bool} {x:α} (h:l.find? p = some x):∃ h':l.findIdx p < l.length,l[l.findIdx p] = x:=by
 have hlt:l.findIdx p < l.length:=List.findIdx_lt_length.2 ⟨x,List.mem_of_find?_eq_some h,List.find?_some h⟩
 refine ⟨hlt,?_⟩
 rw [List.find?_eq_getElem?_findIdx,List.getElem?_eq_getElem hlt] at h
 exact Option.some.inj h
theorem qxb {vs:List Va} (hl:vs.length <= big) (o n:Int) (s:Bs) (A:List AV):qgf (EV vs,0,o,n,s,A) = some (qqT (fun v=>v.name == s) (fun v=>bif qb6 v.ty then 0 else 1) 2 vs,EV vs,((vs.findIdx (fun v=>v.name == s):Nat):Int),o,n,s,A):=by
 rw [qpa]
 refine qaY (hd:=fun i=>(EV vs,(i:Int),o,n,s,A)) _ _ 2 (fun i hn=>?_) ?_
 ·simp only [qii,qjh,List.length_map,qbu hn,okV hn,qv0 hn,qv1 hn,qmd,ev_br,ev_at,ev_bi_some,cond_true,qaJ hn hl]
  cases (vs[i].name == s) <;> cases qb6 vs[i].ty <;> rfl
 ·simp [qii,qjh]
def hdQ (vs:List Va) (l:List Ex) (i:Int) (o n:Int) (s:Bs):List Int -> qb8
 | []=>.inl (EV vs,i,o,n,s,EX l)
 | acc=>.inr (EV vs,i,o,n,s,EX l,EI acc)
def qW3 (op:Int) (acc:List Int) (p:List Int × Int):Int × Int:=qXb op (acc ++ p.1,p.2)
noncomputable def ofU (G:Int -> Int -> List UInt8 -> List AV -> List AV -> Option qgZ) (y:Option (Nat × qb8)):DT qgZ:=
     (.bi (pj 0 y) (fun y0=>
      .at ((0,(gv
    (G (intOf (cellAt (sl y0).snd.snd.snd.snd.snd (sl y0).snd.fst 0)) (intOf (cellAt (sl y0).snd.snd.snd.snd.snd (sl y0).snd.fst 1))
      (strOf (cellAt (sl y0).snd.snd.snd.snd.snd (sl y0).snd.fst 2)) (qat (cellAt (sl y0).snd.snd.snd.snd.snd (sl y0).snd.fst 3)) (sl y0).fst)).snd)))
      (.bi (pj 1 y) (fun y0=>
       .bi (qfo (sl y0).snd.snd.fst []) (fun y1=>
        .br (!y1.snd) (.at ((0,3))) (.at ((y1.fst,0))))
        (.no))
       (.bi (pj 2 y) (fun y0=>
        .at ((0,(gv
    (G (intOf (cellAt (sr y0).snd.snd.snd.snd.snd.fst (sr y0).snd.fst 0)) (intOf (cellAt (sr y0).snd.snd.snd.snd.snd.fst (sr y0).snd.fst 1))
      (strOf (cellAt (sr y0).snd.snd.snd.snd.snd.fst (sr y0).snd.fst 2)) (qat (cellAt (sr y0).snd.snd.snd.snd.snd.fst (sr y0).snd.fst 3)) (sr y0).fst)).snd)))
        (.bi (pj 3 y) (fun y0=>
         .bi (qfo (sr y0).snd.snd.fst (sr y0).snd.snd.snd.snd.snd.snd) (fun y1=>
          .br (!y1.snd) (.at ((0,3))) (.at ((y1.fst,0))))
          (.no))
         (.no)))))
noncomputable def ofW (y:Option (Nat × qcV)):DT qgZ:=
     (.bi (pj 0 y) (fun y0=>
      .at ((intOf (cellAt y0.fst y0.snd.fst 1),0)))
      (.bi (pj 1 y) (fun y0=>
       .at ((0,3)))
       (.bi (pj 2 y) (fun y0=>
        .at ((0,4)))
        (.no))))
theorem qZr (G:Int -> Int -> List UInt8 -> List AV -> List AV -> Option qgZ) (x0 x1:Int) (x2:Bs) (x3 x4:List AV):qrM G x0 x1 x2 x3 x4 =
  .br (x0 == 1) (.at ((1,0))) (.br (x0 == 2) (.at ((2,0))) (.br (x0 == 3) (.at ((3,0))) (.br (x0 == 4) (ofW (qgf (x4,0,x0,x1,x2,x3)))
   (ofU G (qgg G (.inl (x4,0,x0,x1,x2,x3))))))):=rfl
theorem qVp {vs:List Va} (hl:vs.length <= big) (o n:Int) (s:Bs) (A:List AV):(ofW (qgf (EV vs,0,o,n,s,A))).ev = some (qWg vs s):=by
 rw [qxb hl]
 unfold qWg qqT ofW
 cases hf:vs.find? (fun v=>v.name == s) with
 | none=>rfl
 | some v=>
  obtain ⟨h1,h2⟩:=qyt hf
  have hq:=qv1 h1
  rw [h2] at hq
  simp only
  cases hg:qb6 v.ty
  ·simp
  ·simp [-List.map_cons,hq]
theorem qAb {vs:List Va} (hv:vs.length <= big):∀ (e:Ex),e.nodes <= 1000000 -> ∀ n,e.dep <= n -> qcs n e.op e.num e.txt (EX e.args) (EV vs) = some (e.ty vs):=by
 intro e
 induction e using Ex.ind with
 | h o n s l ih=>
  intro h m hm
  simp only [Ex.dep] at hm
  have hll:=Ex.nodesL_len l
  simp only [Ex.nodes] at h
  cases m with
  | zero=>omega
  | succ k=>
   have key:∀ (r i:Nat) (acc:List Int),i + r = l.length -> acc.length + (l.drop i).length <= 1000000 -> (ofU (qcs k) (qgg (qcs k) (hdQ vs l (i:Int) o n s acc))).ev = some (qW3 o acc (Ex.tys vs (l.drop i))):=by
    intro r
    induction r with
    | zero=>
     intro i acc hi _
     have:i = l.length:=by omega
     subst this
     rw [qgB,List.drop_length]
     have hres:=fun (acc:List Int)=>qwE acc o
     cases acc with
     | nil=>
      rw [qaQ (j:=1)]
      ·have h0:qfo o [] = some (qVI o []):=hres []
       simp (decide:=true) only [ofU,hdQ,pj_some,if_true,if_false,ev_bi_none,ev_bi_some,sl_inl,h0,ev_br,ev_at,qW3,qXb,Ex.tys,List.append_nil]
       cases (qVI o []).2 <;> rfl
      ·simp [hdQ,qcW,qgN]
     | cons a acc=>
      rw [qaQ (j:=3)]
      ·have h0:=hres (a :: acc)
       simp (decide:=true) only [ofU,hdQ,pj_some,if_true,if_false,ev_bi_none,ev_bi_some,sr_inr,h0,ev_br,ev_at,qW3,qXb,Ex.tys,List.append_nil]
       cases (qVI o (a :: acc)).2 <;> rfl
      ·simp [hdQ,qcW,qgO]
    | succ r ihr=>
     intro i acc hi hb
     have hn:i < l.length:=by omega
     have hx:l[i] ∈ l:=List.getElem_mem hn
     have h1:=Ex.nodesL_mem hx
     have h2:=Ex.depL_mem hx
     have hg:=ih l[i] hx (by omega) k (by omega)
     rw [drop_at hn] at hb ⊢
     simp only [List.length_cons] at hb
     have hroom:room (acc.length + 1) 8 = true:=qLe (by simp only [lim]; omega)
     cases he:((Ex.ty vs l[i]).2 != 0)
     ·have hst:(qcW (qcs k) (hdQ vs l (i:Int) o n s acc)).ev = some (.next (hdQ vs l ((i + 1:Nat):Int) o n s (acc ++ [(Ex.ty vs l[i]).1]))):=by
       cases acc with
       | nil=>simp only [hdQ,qcW,Sum.elim_inl,qgN,List.length_map,qbu hn,okX hn,qx0 hn,qx1 hn,qx2 hn,qx3 hn,hg,he,ev_br,ev_at,ev_bi_some,cond_true,cond_false,qaJ hn (show l.length <= big by simp only [big]; omega)]; rfl
       | cons a acc=>
        simp only [List.length_cons] at hroom
        simp only [hdQ,qcW,Sum.elim_inr,qgO,qbu hn,okX hn,qx0 hn,qx1 hn,qx2 hn,qx3 hn,hg,he,ev_br,ev_at,ev_bi_some,cond_true,cond_false,qaJ hn (show l.length <= big by simp only [big]; omega),List.length_map,List.length_cons,hroom]
        simp [hdQ]
      have ihn:=ihr (i + 1) (acc ++ [(Ex.ty vs l[i]).1]) (by omega) (by simp only [List.length_append,List.length_cons,List.length_nil]; omega)
      rw [qgB] at ihn ⊢
      rw [qcO hst,ihn]
      congr 1
      simp only [Ex.tys,he,cond_false,qW3,qXb]
      cases hz:((Ex.tys vs (l.drop (i + 1))).2 != 0)
      ·simp at hz; simp [hz]
      ·simp [hz]
     ·have hfin:∀ a:List Int,qW3 o a (Ex.tys vs (l[i] :: l.drop (i + 1))) = (0,(Ex.ty vs l[i]).2):=by
       intro a
       simp only [Ex.tys,he,cond_true,qW3,qXb]
      rw [hfin,qgB]
      cases acc with
      | nil=>
       rw [qaQ (j:=0)]
       ·simp (decide:=true) only [ofU,hdQ,pj_some,if_true,ev_bi_some,sl_inl,qx0 hn,qx1 hn,qx2 hn,qx3 hn,hg,gv_some,ev_at]
       ·simp only [hdQ,qcW,Sum.elim_inl,qgN,List.length_map,qbu hn,okX hn,qx0 hn,qx1 hn,qx2 hn,qx3 hn,hg,he,ev_br,ev_at,ev_bi_some,cond_true]
      | cons a acc=>
       rw [qaQ (j:=2)]
       ·simp (decide:=true) only [ofU,hdQ,pj_some,if_true,if_false,ev_bi_none,ev_bi_some,sr_inr,qx0 hn,qx1 hn,qx2 hn,qx3 hn,hg,gv_some,ev_at]
       ·simp only [hdQ,qcW,Sum.elim_inr,qgO,List.length_map,qbu hn,okX hn,qx0 hn,qx1 hn,qx2 hn,qx3 hn,hg,he,ev_br,ev_at,ev_bi_some,cond_true]
   show qcs (k + 1) o n s (EX l) (EV vs) = some ((Ex.mk o n s l).ty vs)
   simp only [qcs,qZr,ev_br,ev_at,qVp hv,ev_bi_some,Ex.ty]
   by_cases h1:o = 1
   ·subst h1; rfl
   by_cases h2:o = 2
   ·subst h2; rfl
   by_cases h3:o = 3
   ·subst h3; rfl
   by_cases h4:o = 4
   ·subst h4; rfl
   have e1:(o == 1) = false:=by simpa using h1
   have e2:(o == 2) = false:=by simpa using h2
   have e3:(o == 3) = false:=by simpa using h3
   have e4:(o == 4) = false:=by simpa using h4
   rw [e1,e2,e3,e4]
   simp only [cond_false,h1,h2,h3,h4,if_false]
   exact key l.length 0 [] (by omega) (by simp; omega)
theorem qw0 {vs:List Va} (hv:vs.length <= big) {e:Ex} (h:e.nodes <= 1000000):qqo e.op e.num e.txt (EX e.args) (EV vs) = some (e.ty vs):=qm6 (qAb hv e h)
theorem qwZ {vs:List Va} (hv:vs.length <= big) {e:Ex} (hw:Wd e):qmn e.op e.num e.txt (EX e.args) (EV vs) = some (ofS e vs):=by
 rw [qBF,qlh,qBN hw]
 unfold ofS
 cases hz:(qd0 e != 0)
 ·have hz':qd0 e = 0:=by simpa using hz
  have:=(qvZ hz').1
  simp [hz,qw0 hv (e:=e) (by omega)]
 ·simp [hz]
end Go.Proofs.H53z
namespace Go.Tk
open Go Go.Eng
set_option maxRecDepth 20000
structure Tr where
 (from_ ppm:Int)
def Tr.av (x:Tr):AV:=.agg [.int .i64 x.from_,.int .i64 x.ppm]
abbrev ETr (l:List Tr):List AV:=l.map Tr.av
abbrev q4g:List CS:=[CS.int IntKind.i64,CS.int IntKind.i64]
theorem q6y (h:Tr):qfK q4g (qac h.av) = true:=rfl
theorem q2I {l:List Tr} {n:Nat} (h:n < l.length):qaw q4g (ETr l) (n:Int) = true:=qbv q6y h
theorem q2S {l:List Tr} {n:Nat} (h:n < l.length):intOf (cellAt (ETr l) (n:Int) 0) = l[n].from_:=by rw [qad h]; rfl
theorem q5g {l:List Tr} {n:Nat} (h:n < l.length):intOf (cellAt (ETr l) (n:Int) 1) = l[n].ppm:=by rw [qad h]; rfl
structure Cu where
 (code:Bs) (digits:Int)
def Cu.av (x:Cu):AV:=.agg [.str x.code,.int .i64 x.digits]
abbrev EC (l:List Cu):List AV:=l.map Cu.av
theorem hkC (h:Cu):qfK ksV (qac h.av) = true:=rfl
theorem okC {l:List Cu} {n:Nat} (h:n < l.length):qaw ksV (EC l) (n:Int) = true:=qbv hkC h
theorem qc0 {l:List Cu} {n:Nat} (h:n < l.length):strOf (cellAt (EC l) (n:Int) 0) = l[n].code:=by rw [qad h]; rfl
structure Cal where
 (name:Bs) (wk hol:List AV)
def Cal.av (x:Cal):AV:=.agg [.str x.name,.view 1 x.wk,.view 1 x.hol]
abbrev EK (l:List Cal):List AV:=l.map Cal.av
abbrev ksK:List CS:=[CS.str,CS.slice 1,CS.slice 1]
theorem hkK (h:Cal):qfK ksK (qac h.av) = true:=rfl
theorem okK {l:List Cal} {n:Nat} (h:n < l.length):qaw ksK (EK l) (n:Int) = true:=qbv hkK h
theorem qk0 {l:List Cal} {n:Nat} (h:n < l.length):strOf (cellAt (EK l) (n:Int) 0) = l[n].name:=by rw [qad h]; rfl
theorem qk1 {l:List Cal} {n:Nat} (h:n < l.length):qat (cellAt (EK l) (n:Int) 1) = l[n].wk:=by rw [qad h]; rfl
theorem qk2 {l:List Cal} {n:Nat} (h:n < l.length):qat (cellAt (EK l) (n:Int) 2) = l[n].hol:=by rw [qad h]; rfl
structure Fe where
 (name:Bs) (event:Int) (when_ amount:Ex)
def Fe.av (x:Fe):AV:=.agg [.str x.name,.int .i64 x.event,.int .i64 x.when_.op,.int .i64 x.when_.num,.str x.when_.txt,.view 4 (EX x.when_.args),.int .i64 x.amount.op,.int .i64 x.amount.num,.str x.amount.txt,.view 4 (EX x.amount.args)]
abbrev EF (l:List Fe):List AV:=l.map Fe.av
abbrev ksF:List CS:=[CS.str,CS.int .i64,CS.int .i64,CS.int .i64,CS.str,CS.slice 4,CS.int .i64,CS.int .i64,CS.str,CS.slice 4]
theorem hkF (h:Fe):qfK ksF (qac h.av) = true:=rfl
theorem okF {l:List Fe} {n:Nat} (h:n < l.length):qaw ksF (EF l) (n:Int) = true:=qbv hkF h
theorem qf0 {l:List Fe} {n:Nat} (h:n < l.length):strOf (cellAt (EF l) (n:Int) 0) = l[n].name:=by rw [qad h]; rfl
theorem qf1 {l:List Fe} {n:Nat} (h:n < l.length):intOf (cellAt (EF l) (n:Int) 1) = l[n].event:=by rw [qad h]; rfl
theorem qf2 {l:List Fe} {n:Nat} (h:n < l.length):intOf (cellAt (EF l) (n:Int) 2) = l[n].when_.op:=by rw [qad h]; rfl
theorem qf3 {l:List Fe} {n:Nat} (h:n < l.length):intOf (cellAt (EF l) (n:Int) 3) = l[n].when_.num:=by rw [qad h]; rfl
theorem qf4 {l:List Fe} {n:Nat} (h:n < l.length):strOf (cellAt (EF l) (n:Int) 4) = l[n].when_.txt:=by rw [qad h]; rfl
theorem qf5 {l:List Fe} {n:Nat} (h:n < l.length):qat (cellAt (EF l) (n:Int) 5) = EX l[n].when_.args:=by rw [qad h]; rfl
theorem qf6 {l:List Fe} {n:Nat} (h:n < l.length):intOf (cellAt (EF l) (n:Int) 6) = l[n].amount.op:=by rw [qad h]; rfl
theorem qf7 {l:List Fe} {n:Nat} (h:n < l.length):intOf (cellAt (EF l) (n:Int) 7) = l[n].amount.num:=by rw [qad h]; rfl
theorem qf8 {l:List Fe} {n:Nat} (h:n < l.length):strOf (cellAt (EF l) (n:Int) 8) = l[n].amount.txt:=by rw [qad h]; rfl
theorem qf9 {l:List Fe} {n:Nat} (h:n < l.length):qat (cellAt (EF l) (n:Int) 9) = EX l[n].amount.args:=by rw [qad h]; rfl
structure Ru where
 (name:Bs) (window:Int) (amount:Ex)
def Ru.av (x:Ru):AV:=.agg [.str x.name,.int .i64 x.window,.int .i64 x.amount.op,.int .i64 x.amount.num,.str x.amount.txt,.view 4 (EX x.amount.args)]
abbrev ER (l:List Ru):List AV:=l.map Ru.av
abbrev ksR:List CS:=[CS.str,CS.int .i64,CS.int .i64,CS.int .i64,CS.str,CS.slice 4]
theorem hkR (h:Ru):qfK ksR (qac h.av) = true:=rfl
theorem okR {l:List Ru} {n:Nat} (h:n < l.length):qaw ksR (ER l) (n:Int) = true:=qbv hkR h
theorem qr0 {l:List Ru} {n:Nat} (h:n < l.length):strOf (cellAt (ER l) (n:Int) 0) = l[n].name:=by rw [qad h]; rfl
theorem qr1 {l:List Ru} {n:Nat} (h:n < l.length):intOf (cellAt (ER l) (n:Int) 1) = l[n].window:=by rw [qad h]; rfl
theorem qr2 {l:List Ru} {n:Nat} (h:n < l.length):intOf (cellAt (ER l) (n:Int) 2) = l[n].amount.op:=by rw [qad h]; rfl
theorem qr3 {l:List Ru} {n:Nat} (h:n < l.length):intOf (cellAt (ER l) (n:Int) 3) = l[n].amount.num:=by rw [qad h]; rfl
theorem qr4 {l:List Ru} {n:Nat} (h:n < l.length):strOf (cellAt (ER l) (n:Int) 4) = l[n].amount.txt:=by rw [qad h]; rfl
theorem qr5 {l:List Ru} {n:Nat} (h:n < l.length):qat (cellAt (ER l) (n:Int) 5) = EX l[n].amount.args:=by rw [qad h]; rfl
structure In where
 (tiers:List Tr) (marg:Bool) (basis mode:Int) (keep:Bool)
structure Pr where
 (name cur cal:Bs) (from_ every over tax:Int) (cr de:In) (fees:List Fe) (rules:List Ru)
def ltB (c:Int):Bool:=decide (c >= 97) && decide (c <= 122)
def nmI (c:Int):Bool:=ltB c || (c == 95 || (decide (c >= 48) && decide (c <= 57)))
def nmB (s:Bs):Bool:=match s with
 | []=>false
 | c :: r=>decide (r.length < 16) && (at8 ltB c && r.all (at8 nmI))
def qW5 (t:Tr):Bool:=decide (t.from_ < 0) || (decide (t.from_ > 1000000000000) || (decide (t.ppm < 0) || decide (t.ppm > 1000000)))
def qYB (l:List Tr) (i:Nat):Bool:=match l[i]?,l[i + 1]? with
 | some a,some b=>decide (b.from_ <= a.from_)
 | _,_=>false
def qLM (l:List Tr):Int:=
 if l.length > 6 then 5 else bif l.any qW5 then 1 else bif (List.range (l.length - 1)).any (qYB l) then 10 else match l with
  | []=>0
  | t :: _=>bif t.from_ != 0 then 1 else 0
theorem qbw (a b:Bool):br a (some true) (some b) = some (a || b):=by cases a <;> rfl
def qR4 (x:In):Int:=bif qLM x.tiers != 0 then qLM x.tiers else bif decide (x.basis < 1) || (decide (x.basis > 4) || (decide (x.mode < 1) || decide (x.mode > 6))) then 1 else 0
def varsP:List Va:=[⟨[98,97,108,97,110,99,101],2⟩,⟨[108,111,119,101,115,116],2⟩,⟨[118,111,108,117,109,101],2⟩,⟨[97,109,111,117,110,116],2⟩,⟨[99,111,117,110,116],1⟩,⟨[97,103,101],1⟩,⟨[100,97,121],4⟩]
def qMP (x:Fe):Int:=bif !nmB x.name then 4 else bif decide (x.event < 1) || decide (x.event > 4) then 1 else bif qlD x.when_ varsP 5 != 0 then qlD x.when_ varsP 5 else qlD x.amount varsP 2
def qu4 (x:Ru):Int:=bif !nmB x.name then 4 else bif decide (x.window < 1) || decide (x.window > 3) then 1 else qlD x.amount varsP 2
def qgX {α:Type} (f:α -> Int):List α -> Int
 | []=>0
 | x :: l=>bif f x != 0 then f x else qgX f l
theorem qms {α:Type} (f:α -> Int):∀ l:List α,qgX f l = match l.find? (fun x=>f x != 0) with | some x=>f x | none=>0
 | []=>rfl
 | x :: l=>by
  simp only [qgX,List.find?_cons]
  cases h:(f x != 0)
  ·simp only [cond_false]; exact qms f l
  ·rfl
def qU9 (p:Pr) (l:List Cu) (c:List Cal):Int:=bif !nmB p.name then 4 else bif !l.any (fun x=>x.code == p.cur) then 14 else bif !c.any (fun x=>x.name == p.cal) then 11 else
 bif !(decide (p.from_ >= 0) && decide (p.from_ <= 73048)) || (!(p.every == 1 || (p.every == 3 || (p.every == 6 || p.every == 12))) || (decide (p.over < 0) || (decide (p.over > 1000000000000) || (decide (p.tax < 0) || decide (p.tax > 1000000))))) then 1 else 0
def prS (p:Pr) (l:List Cu) (c:List Cal):Int:=bif qU9 p l c != 0 then qU9 p l c else bif qR4 p.cr != 0 then qR4 p.cr else bif qR4 p.de != 0 then qR4 p.de else
 bif decide (p.fees.length > 4) || decide (p.rules.length > 4) then 5 else bif qgX qMP p.fees != 0 then qgX qMP p.fees else qgX qu4 p.rules
mutual
def qhx:Ex -> Ex -> Bool
 | .mk o n s l,.mk o' n' s' l'=>(o == o') && ((n == n') && ((s == s') && qpv l l'))
def qpv:List Ex -> List Ex -> Bool
 | [],[]=>true
 | x :: l,y :: m=>qhx x y && qpv l m
 | _,_=>false
end
end Go.Tk
namespace Go.Proofs.H53z
open Go Go.Eng Go.Tk
set_option maxRecDepth 20000
def q5L (x:Fe):Prop:=x.name.length <= big /\ x.when_.nodes <= big /\ x.amount.nodes <= big
def q6t (x:Ru):Prop:=x.name.length <= big /\ x.amount.nodes <= big
theorem qn2:varsP.length <= big:=by decide
structure PrOk (p:Pr):Prop where
 name:p.name.length <= big
 crl:p.cr.tiers.length <= 1000000
 del:p.de.tiers.length <= 1000000
 fel:p.fees.length <= 1000000
 rul:p.rules.length <= 1000000
 fees:∀ x ∈ p.fees,q5L x
 rules:∀ x ∈ p.rules,q6t x
theorem qzb {n:Nat} (h:n <= 1000000):n <= big:=Nat.le_trans h (by decide)
theorem qjy {α:Type} {f:α -> Int} {l:List α} (h:l.any (fun x=>f x != 0) = true):∃ h':l.findIdx (fun x=>f x != 0) < l.length,f l[l.findIdx fun x=>f x != 0] = qgX f l /\ qgX f l ≠ 0:=by
 rw [qms]
 cases hf:l.find? (fun x=>f x != 0) with
 | none=>
  rw [List.any_eq_true] at h
  obtain ⟨x,hx,hp⟩:=h
  exact absurd hp (List.find?_eq_none.1 hf x hx)
 | some x=>
  obtain ⟨h',hx⟩:=qyt hf
  exact ⟨h',by rw [hx],by simpa using List.find?_some hf⟩
theorem qoL {α:Type} {f:α -> Int} {l:List α} (h:l.any (fun x=>f x != 0) = false):qgX f l = 0:=by
 rw [qms]
 cases hf:l.find? (fun x=>f x != 0) with
 | none=>rfl
 | some x=>
  rw [List.any_eq_false] at h
  exact absurd (List.find?_some hf) (h x (List.mem_of_find?_eq_some hf))
def q8l (e:Ex):Bool:=decide (e.args.length <= 1000000)
def Wm (e:Ex):Prop:=e.allX q8l = true
theorem Wm.len {e:Ex} (h:Wm e):e.args.length <= 1000000:=by
 rw [Wm,Ex.allX_eq,Bool.and_eq_true] at h
 exact of_decide_eq_true h.1
theorem Wm.arg {e x:Ex} (h:Wm e) (hx:x ∈ e.args):Wm x:=by
 rw [Wm,Ex.allX_eq,Bool.and_eq_true,List.all_eq_true] at h
 exact h.2 x hx
def FeW (x:Fe):Prop:=Wd x.when_ /\ Wd x.amount
structure PrW (p:Pr):Prop where
 crl:p.cr.tiers.length <= 1000000
 del:p.de.tiers.length <= 1000000
 fel:p.fees.length <= 1000000
 rul:p.rules.length <= 1000000
 fees:∀ x ∈ p.fees,FeW x
 rules:∀ x ∈ p.rules,Wd x.amount
end Go.Proofs.H53z
namespace Go.Proofs.H53z
open Go Go.Eng Go.Tk
set_option maxRecDepth 20000
theorem qme:qhd = some (EV varsP):=by rw [qBo,qkX]; rfl
theorem qhb {vs:List Va} (hv:vs.length <= big) {e:Ex} (hw:Wd e) (want:Int):qha e.op e.num e.txt (EX e.args) (EV vs) want = some (qlD e vs want):=by
 rw [qAP,qkr,qwZ hv hw,qlD]
 cases h1:((ofS e vs).2 != 0) <;> cases h3:((ofS e vs).1 != want) <;> simp [h1,h3]
theorem ql7 {l:List Cu} (hl:l.length <= big) (s:Bs):∃ a b,qiH (EC l) s = some (a,b,l.any fun c=>c.code == s):=by
 have hloop:qmD (EC l,s,0,[],0) = some (qqT (fun c=>c.code == s) (fun _=>0) 1 l,EC l,s,((l.findIdx fun c=>c.code == s:Nat):Int),[],0):=by
  rw [qoU]
  refine qaY (hd:=fun i=>(EC l,s,(i:Int),[],0)) (jx:=fun _=>0) _ 1 (fun i hn=>?_) ?_
  ·simp only [qia,qjb,List.length_map,qbu hn,okC hn,qc0 hn,ev_br,ev_at,cond_true,qaJ hn hl]
   cases (l[i].code == s) <;> rfl
  ·simp [qia,qjb]
 rw [qBd,qkN,hloop,qa1]
 cases h:l.any (fun c=>c.code == s)
 ·exact ⟨_,_,by simp (decide:=true); exact ⟨rfl,rfl⟩⟩
 ·exact ⟨_,_,by simp (decide:=true); exact ⟨rfl,rfl⟩⟩
theorem qwT {l:List Cal} (hl:l.length <= big) (s:Bs):∃ a b c,ql8 (Tk.EK l) s = some (a,b,c,l.any fun c=>c.name == s):=by
 have hloop:qmE (Tk.EK l,s,0,[]) = some (qqT (fun c=>c.name == s) (fun _=>0) 1 l,Tk.EK l,s,((l.findIdx fun c=>c.name == s:Nat):Int),[]):=by
  rw [qoV]
  refine qaY (hd:=fun i=>(Tk.EK l,s,(i:Int),[])) (jx:=fun _=>0) _ 1 (fun i hn=>?_) ?_
  ·simp only [qib,qjc,List.length_map,qbu hn,okK hn,qk0 hn,ev_br,ev_at,cond_true,qaJ hn hl]
   cases (l[i].name == s) <;> rfl
  ·simp [qib,qjc]
 rw [qBe,qkO,hloop,qa1]
 cases h:l.any (fun c=>c.name == s)
 ·exact ⟨_,_,_,by simp (decide:=true); exact ⟨rfl,rfl,rfl⟩⟩
 ·exact ⟨_,_,_,by simp (decide:=true); exact ⟨rfl,rfl,rfl⟩⟩
theorem qwI (d:Int):qbf d = some (decide (d >= 0) && decide (d <= 73048)):=by
 rw [qoz,qin]
 cases decide (d >= 0) <;> simp
theorem qBY {l:List Tr} (hl:l.length <= big):qtL (ETr l,0) = some (bif l.any qW5 then 0 else 1,ETr l,((l.findIdx qW5:Nat):Int)):=by
 have h:=qaY (st:=fun v=>(qjj v).ev) (l:=l) (hd:=fun i=>(ETr l,(i:Int))) (jx:=fun _=>0) qW5 1 (fun i hn=>?_) ?_
 ·rw [qa1] at h
  rw [qtM]; exact h
 ·simp only [qjj,qnR,List.length_map,qbu hn,q2I hn,q2S hn,q5g hn,ev_br,ev_at,br_eq,cond_true,qaJ hn hl,qW5]
  cases decide (l[i].from_ < 0) <;> cases decide (l[i].from_ > 1000000000000) <;> cases decide (l[i].ppm < 0) <;> cases decide (l[i].ppm > 1000000) <;> rfl
 ·simp [qjj,qnR]
theorem qBZ {l:List Tr} (hl:l.length <= big):∃ w,qtN (ETr l,1) = some (bif (List.range (l.length - 1)).any (qYB l) then 0 else 1,ETr l,w):=by
 have h:=quC (st:=fun v=>(qjk v).ev) (N:=l.length - 1) (hd:=fun i=>(ETr l,((i + 1:Nat):Int))) (jx:=fun _=>0) (qYB l) 1 (fun i hn=>?_) ?_
 ·rw [qa1] at h
  rw [qtO]; exact ⟨_,h⟩
 ·have h1:i + 1 < l.length:=by omega
  have h0:i < l.length:=by omega
  have e1:IntKind.i64.wrap (((i + 1:Nat):Int) - 1) = (i:Int):=by rw [wrap64 (by omega) (by simp only [big] at hl; omega)]; omega
  simp only [qjk,qnS,List.length_map,qbu h1,q2I h1,q2S h1,q5g h1,e1,q2I h0,q2S h0,q5g h0,ev_br,ev_at,cond_true,qaJ h1 hl,qYB,List.getElem?_eq_getElem h0,List.getElem?_eq_getElem h1]
  cases decide (l[i + 1].from_ <= l[i].from_) <;> rfl
 ·have:decide (((l.length - 1 + 1:Nat):Int) < (((ETr l).length:Nat):Int)) = false:=by simp; omega
  simp only [qjk,qnS,this]; rfl
theorem qwN {l:List Tr} (hl:l.length <= big):qlV (ETr l) = some (qLM l):=by
 obtain ⟨w,hw⟩:=qBZ hl
 rw [qAQ,qks,List.length_map,qBY hl]
 unfold qLM
 by_cases h6:l.length > 6
 ·have:decide ((l.length:Int) > 6) = true:=by simp; omega
  rw [this,if_pos h6]; rfl
 ·have h6':decide ((l.length:Int) > 6) = false:=by simp; omega
  rw [h6',if_neg h6]
  cases l.any qW5
  ·simp (decide:=true) only [ev_br,br_eq,cond_false,pj_some,if_true,if_false,ev_bi_none,ev_bi_some,hw]
   cases (List.range (l.length - 1)).any (qYB l)
   ·cases l with
    | nil=>simp (decide:=true)
    | cons t r=>
     have h0:0 < (t :: r).length:=by simp
     have e1:qaw q4g (ETr (t :: r)) 0 = true:=q2I (n:=0) h0
     have e2:intOf (cellAt (ETr (t :: r)) 0 0) = t.from_:=q2S (n:=0) h0
     have e3:decide ((((ETr (t :: r)).length:Nat):Int) > 0) = true:=by simp
     simp (decide:=true) only [pj_some,if_true,if_false,ev_bi_none,Bool.not_false,Bool.not_true,cond_true,cond_false,ev_br,br_eq,e1,e2,e3,ev_bi_some]
     cases (t.from_ != 0) <;> rfl
   ·simp (decide:=true)
  ·simp (decide:=true)
theorem qoH {x:In} (hl:x.tiers.length <= big):qoG (ETr x.tiers) x.marg x.basis x.mode x.keep = some (qR4 x):=by
 rw [qFy,qrY,qwN hl,qR4]
 simp only [ev_bi_some,qbw,ev_br,ev_at,Bool.or_assoc]
 cases qLM x.tiers != 0
 ·cases (decide (x.basis < 1) || (decide (x.basis > 4) || (decide (x.mode < 1) || decide (x.mode > 6)))) <;> rfl
 ·rfl
theorem qw9 {c:UInt8} {r:Bs} (hl:r.length < 16):∃ w,qmI (c :: r,1) = some (bif r.any (fun x=>!at8 nmI x) then 0 else 1,w):=by
 have h:=qaY (st:=fun v=>(qgM v).ev) (l:=r) (hd:=fun i=>(c :: r,((i + 1:Nat):Int))) (jx:=fun _=>0) (fun x=>!at8 nmI x) 1 (fun i hn=>?_) ?_
 ·rw [qa1] at h
  rw [qo0]; exact ⟨_,h⟩
 ·have h1:i + 1 < (c :: r).length:=by simp; omega
  have eg:(c :: r)[i + 1] = r[i]:=rfl
  have e48:decide ((r[i].toNat:Int) >= 48) = !decide ((r[i].toNat:Int) < 48):=by
   by_cases h:(r[i].toNat:Int) < 48
   ·simp [h]
   ·simp [h]; omega
  have e57:decide ((r[i].toNat:Int) <= 57) = !decide ((r[i].toNat:Int) > 57):=by
   by_cases h:(r[i].toNat:Int) > 57
   ·simp [h]
   ·simp [h]; omega
  have e97:decide ((r[i].toNat:Int) >= 97) = !decide ((r[i].toNat:Int) < 97):=by
   by_cases h:(r[i].toNat:Int) < 97
   ·simp [h]
   ·simp [h]; omega
  have e122:decide ((r[i].toNat:Int) <= 122) = !decide ((r[i].toNat:Int) > 122):=by
   by_cases h:(r[i].toNat:Int) > 122
   ·simp [h]
   ·simp [h]; omega
  simp only [qgM,qjf,qbu h1,qbG h1,qlA h1,eg,ev_br,br_eq,cond_true,at8,nmI,ltB,e48,e57,e97,e122,bne,qaJ h1 (show (c :: r).length <= big by simp [big]; omega)]
  generalize decide ((r[i].toNat:Int) < 97) = a1
  generalize decide ((r[i].toNat:Int) > 122) = a2
  generalize ((r[i].toNat:Int) == 95) = a4
  generalize decide ((r[i].toNat:Int) < 48) = a5
  generalize decide ((r[i].toNat:Int) > 57) = a6
  cases a1 <;> cases a2 <;> cases a4 <;> cases a5 <;> cases a6 <;> rfl
 ·have:decide (((r.length + 1:Nat):Int) < (((c :: r).length:Nat):Int)) = false:=by simp
  simp only [qgM,qjf,this]; rfl
theorem qcM (s:Bs):qdE s = some (nmB s):=by
 rw [qBn,qkW]
 cases s with
 | nil=>rfl
 | cons c r=>
  have h0:0 < (c :: r).length:=by simp
  have e0:inB (c :: r).length 0 = true:=qbG h0
  have e1:qaK (c :: r) 0 = (c.toNat:Int):=qlA h0
  have e2:decide ((((c :: r).length:Nat):Int) > 16) = !decide (r.length < 16):=by
   by_cases h:r.length < 16
   ·simp [h]; omega
   ·simp [h]; omega
  have e3:((c :: r) == ([]:Bs)) = false:=rfl
  have e97:decide ((c.toNat:Int) >= 97) = !decide ((c.toNat:Int) < 97):=by
   by_cases h:(c.toNat:Int) < 97
   ·simp [h]
   ·simp [h]; omega
  have e122:decide ((c.toNat:Int) <= 122) = !decide ((c.toNat:Int) > 122):=by
   by_cases h:(c.toNat:Int) > 122
   ·simp [h]
   ·simp [h]; omega
  rw [e3,e2,e0,e1,nmB]
  by_cases h16:r.length < 16
  ·obtain ⟨w,h⟩:=qw9 (c:=c) h16
   have hany:r.any (fun x=>!at8 nmI x) = !r.all (at8 nmI):=by rw [List.any_eq_not_all_not]; simp
   have h1:at8 ltB c = (decide ((c.toNat:Int) >= 97) && decide ((c.toNat:Int) <= 122)):=rfl
   rw [h,decide_eq_true h16,hany,h1,e97,e122]
   generalize r.all (at8 nmI) = q
   generalize decide ((c.toNat:Int) < 97) = a1
   generalize decide ((c.toNat:Int) > 122) = a2
   cases q <;> cases a1 <;> cases a2 <;> rfl
  ·rw [decide_eq_false h16]; rfl
theorem qmm {x:Fe} (h:FeW x):qhi x.name x.event x.when_.op x.when_.num x.when_.txt (EX x.when_.args) x.amount.op x.amount.num x.amount.txt (EX x.amount.args) = some (qMP x):=by
 rw [qBC,qle,qcM,qme,qMP]
 simp only [ev_bi_some,qbw,ev_br,ev_at,qhb qn2 h.1,qhb qn2 h.2]
 cases nmB x.name <;> cases (decide (x.event < 1) || decide (x.event > 4)) <;> cases (qlD x.when_ varsP 5 != 0) <;> rfl
theorem qmf {x:Ru} (h:Wd x.amount):qhe x.name x.window x.amount.op x.amount.num x.amount.txt (EX x.amount.args) = some (qu4 x):=by
 rw [qBp,qkY,qcM,qme,qu4]
 simp only [ev_bi_some,qbw,ev_br,ev_at,qhb qn2 h]
 cases nmB x.name <;> cases (decide (x.window < 1) || decide (x.window > 3)) <;> rfl
abbrev HdC (p:Pr) (i:Int):qd3:=(i,p.name,p.cur,p.cal,p.from_,p.every,p.over,p.tax,ETr p.cr.tiers,p.cr.marg,p.cr.basis,p.cr.mode,p.cr.keep,ETr p.de.tiers,p.de.marg,p.de.basis,p.de.mode,p.de.keep,EF p.fees,ER p.rules)
theorem qB0 {p:Pr} (hp:PrW p):qtP (HdC p 0) = some (bif p.fees.any (fun x=>qMP x != 0) then 0 else 1,HdC p ((p.fees.findIdx fun x=>qMP x != 0:Nat):Int)):=by
 have h:=qaY (st:=fun v=>(qjl v).ev) (l:=p.fees) (hd:=fun i=>HdC p (i:Int)) (jx:=fun _=>0) (fun x=>qMP x != 0) 1 (fun i hn=>?_) ?_
 ·rw [qa1] at h
  rw [qtQ]; exact h
 ·simp only [HdC,qjl,qnT,List.length_map,qbu hn,okF hn,qf0 hn,qf1 hn,qf2 hn,qf3 hn,qf4 hn,qf5 hn,qf6 hn,qf7 hn,qf8 hn,qf9 hn,qmm (hp.fees _ (List.getElem_mem hn)),ev_bi_some,ev_br,ev_at,cond_true,qaJ hn (qzb hp.fel)]
  cases qMP p.fees[i] != 0 <;> rfl
 ·simp [qjl,qnT]
theorem qB1 {p:Pr} (hp:PrW p):qtR (HdC p 0) = some (bif p.rules.any (fun x=>qu4 x != 0) then 0 else 1,HdC p ((p.rules.findIdx fun x=>qu4 x != 0:Nat):Int)):=by
 have h:=qaY (st:=fun v=>(qjm v).ev) (l:=p.rules) (hd:=fun i=>HdC p (i:Int)) (jx:=fun _=>0) (fun x=>qu4 x != 0) 1 (fun i hn=>?_) ?_
 ·rw [qa1] at h
  rw [qtS]; exact h
 ·simp only [HdC,qjm,qnU,List.length_map,qbu hn,okR hn,qr0 hn,qr1 hn,qr2 hn,qr3 hn,qr4 hn,qr5 hn,qmf (hp.rules _ (List.getElem_mem hn)),ev_bi_some,ev_br,ev_at,cond_true,qaJ hn (qzb hp.rul)]
  cases qu4 p.rules[i] != 0 <;> rfl
 ·simp [qjm,qnU]
theorem qwO {p:Pr} {l:List Cu} {c:List Cal} (hp:PrW p) (hl:l.length <= big) (hc:c.length <= big) :
  qlW p.name p.cur p.cal p.from_ p.every p.over p.tax (ETr p.cr.tiers) p.cr.marg p.cr.basis p.cr.mode p.cr.keep (ETr p.de.tiers) p.de.marg p.de.basis p.de.mode p.de.keep (EF p.fees) (ER p.rules) (EC l) (Tk.EK c) = some (prS p l c):=by
 obtain ⟨a1,a2,h1⟩:=ql7 hl p.cur
 obtain ⟨b1,b2,b3,h2⟩:=qwT hc p.cal
 have h0:=qB0 hp
 have h9:=qB1 hp
 simp only [HdC] at h0 h9
 have e1:decide ((((EF p.fees).length:Nat):Int) > 4) = decide (p.fees.length > 4):=by rw [List.length_map]; congr 1; exact propext ⟨fun h=>by omega,fun h=>by omega⟩
 have e2:decide ((((ER p.rules).length:Nat):Int) > 4) = decide (p.rules.length > 4):=by rw [List.length_map]; congr 1; exact propext ⟨fun h=>by omega,fun h=>by omega⟩
 rw [qAR,qkt,qcM,h1,h2,qwI,qoH (qzb hp.crl),qoH (qzb hp.del),h0,e1,e2,prS,qU9]
 generalize decide (p.from_ >= 0) = d1
 generalize decide (p.from_ <= 73048) = d2
 generalize decide (p.over < 0) = d3
 generalize decide (p.over > 1000000000000) = d4
 generalize decide (p.tax < 0) = d5
 generalize decide (p.tax > 1000000) = d6
 generalize (p.every == 1) = g1
 generalize (p.every == 3) = g2
 generalize (p.every == 6) = g3
 generalize (p.every == 12) = g4
 have hq:((((((!(d1 && d2)) || !(((g1 || g2) || g3) || g4)) || d3) || d4) || d5) || d6) = (!(d1 && d2) || (!(g1 || (g2 || (g3 || g4))) || (d3 || (d4 || (d5 || d6))))):=by simp only [Bool.or_assoc]
 rw [<- hq,ev_bi_some,ev_br,ev_bi_some,ev_br,ev_bi_some,ev_br,qbw,ev_bi_some,qbw,ev_bi_some,qbw,ev_bi_some,ev_bi_some,qbw,ev_bi_some,qbw,ev_bi_some,qbw,ev_bi_some,qbw,ev_bi_some,qbw,ev_bi_some,ev_br,ev_bi_some,ev_br,ev_bi_some,ev_br,qbw,ev_bi_some,ev_br]
 generalize ((((((!(d1 && d2)) || !(((g1 || g2) || g3) || g4)) || d3) || d4) || d5) || d6) = q4
 generalize nmB p.name = q1
 generalize l.any (fun x=>x.code == p.cur) = q2
 generalize c.any (fun x=>x.name == p.cal) = q3
 cases q1
 ·rfl
 cases q2
 ·rfl
 cases q3
 ·rfl
 cases q4
 ·cases g1:(qR4 p.cr != 0)
  ·cases g2:(qR4 p.de != 0)
   ·cases g3:(decide (p.fees.length > 4) || decide (p.rules.length > 4))
    ·cases h3:p.fees.any (fun x=>qMP x != 0)
     ·have hz:=qoL h3
      simp (decide:=true) only [ev_bi_some,ev_br,ev_at,cond_false,cond_true,pj_some,if_true,if_false,ev_bi_none,hz,h9,g1,g2,Bool.not_true,bne_self_eq_false]
      cases h4:p.rules.any (fun x=>qu4 x != 0)
      ·simp (decide:=true) [qoL h4]
      ·obtain ⟨hi,hv,hnz⟩:=qjy h4
       simp (decide:=true) only [pj_some,if_true,ev_bi_some,cond_true,qr0 hi,qr1 hi,qr2 hi,qr3 hi,qr4 hi,qr5 hi,qmf (hp.rules _ (List.getElem_mem hi)),gv_some,ev_at,hv]
     ·obtain ⟨hi,hv,hnz⟩:=qjy h3
      have hnz':(qgX qMP p.fees != 0) = true:=by simpa using hnz
      simp (decide:=true) only [ev_bi_some,ev_br,ev_at,cond_false,cond_true,pj_some,if_true,qf0 hi,qf1 hi,qf2 hi,qf3 hi,qf4 hi,qf5 hi,qf6 hi,qf7 hi,qf8 hi,qf9 hi,qmm (hp.fees _ (List.getElem_mem hi)),gv_some,hv,hnz',g1,g2,Bool.not_true,bne_self_eq_false]
    ·simp [g1,g2]
   ·simp [g1]
  ·simp
 ·rfl
end Go.Proofs.H53z

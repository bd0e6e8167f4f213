/- Expressions over plain data. -/
import Derived.Test.YthljpgljbpdmjaaGreatDoorTkA
set_option linter.unusedVariables false
set_option linter.unusedSimpArgs false
set_option linter.unnecessarySimpa false
namespace Go.Tk
open Go Go.Eng
set_option maxRecDepth 20000
inductive Ex where
 | mk (op num:Int) (txt:Bs) (args:List Ex)
namespace Ex
def op:Ex -> Int | mk o _ _ _=>o
def num:Ex -> Int | mk _ n _ _=>n
def txt:Ex -> Bs | mk _ _ s _=>s
def args:Ex -> List Ex | mk _ _ _ l=>l
theorem ind {P:Ex -> Prop} (h:∀ o n s l,(∀ x ∈ l,P x) -> P (mk o n s l)):∀ e,P e:=fun e=>
 Ex.rec (motive_1:=P) (motive_2:=fun l=>∀ x ∈ l,P x) (fun o n s l ih=>h o n s l ih) (by intro x hx; cases hx)
  (fun e l he hl x hx=>by
   rcases List.mem_cons.1 hx with rfl | hx
   ·exact he
   ·exact hl x hx) e
mutual
def av:Ex -> AV
 | mk o n s l=>.agg [.int .i64 o,.int .i64 n,.str s,.view 4 (avs l)]
def avs:List Ex -> List AV
 | []=>[]
 | e :: l=>av e :: avs l
end
theorem avs_eq:∀ l:List Ex,avs l = l.map av
 | []=>rfl
 | e :: l=>by simp [avs,avs_eq l]
mutual
def nodes:Ex -> Nat
 | mk _ _ _ l=>nodesL l + 1
def nodesL:List Ex -> Nat
 | []=>0
 | e :: l=>nodes e + nodesL l
end
mutual
def dep:Ex -> Nat
 | mk _ _ _ l=>depL l + 1
def depL:List Ex -> Nat
 | []=>0
 | e :: l=>max (dep e) (depL l)
end
mutual
def allX (p:Ex -> Bool):Ex -> Bool
 | mk o n s l=>p (mk o n s l) && allL p l
def allL (p:Ex -> Bool):List Ex -> Bool
 | []=>true
 | e :: l=>allX p e && allL p l
end
theorem qIG (p:Ex -> Bool):∀ l:List Ex,allL p l = l.all (allX p)
 | []=>rfl
 | e :: l=>by simp [allL,qIG p l]
theorem allX_eq (p:Ex -> Bool) (e:Ex):allX p e = (p e && e.args.all (allX p)):=by
 cases e; simp [allX,qIG,args]
theorem nodesL_mem {x:Ex}:∀ {l:List Ex},x ∈ l -> nodes x <= nodesL l
 | e :: l,h=>by
  simp only [nodesL]
  rcases List.mem_cons.1 h with rfl | h
  ·omega
  ·have:=nodesL_mem h; omega
theorem depL_mem {x:Ex}:∀ {l:List Ex},x ∈ l -> dep x <= depL l
 | e :: l,h=>by
  simp only [depL]
  rcases List.mem_cons.1 h with rfl | h
  ·omega
  ·have:=depL_mem h; omega
theorem nodes_pos (e:Ex):1 <= nodes e:=by cases e; simp [nodes]
theorem dep_pos (e:Ex):1 <= dep e:=by cases e; simp [dep]
theorem nodesL_len:∀ l:List Ex,l.length <= nodesL l
 | []=>Nat.le_refl _
 | e :: l=>by
  have:=nodesL_len l
  have:=nodes_pos e
  simp only [nodesL,List.length_cons]; omega
theorem nodesL_app:∀ (a b:List Ex),nodesL (a ++ b) = nodesL a + nodesL b
 | [],b=>by simp [nodesL]
 | e :: a,b=>by simp only [List.cons_append,nodesL,nodesL_app a b]; omega
theorem nodes_fold:∀ (l:List Ex) (a:Nat),l.foldl (fun a x=>a + nodes x) a = a + nodesL l
 | [],a=>rfl
 | e :: l,a=>by simp only [List.foldl_cons,nodesL,nodes_fold l]; omega
theorem dep_fold:∀ (l:List Ex) (a:Nat),l.foldl (fun a x=>max a (dep x)) a = max a (depL l)
 | [],a=>by simp [depL]
 | e :: l,a=>by simp only [List.foldl_cons,depL,dep_fold l]; omega
mutual
theorem dep_le:∀ e:Ex,dep e <= nodes e
 | mk _ _ _ l=>by have:=qIY l; simp only [dep,nodes]; omega
theorem qIY:∀ l:List Ex,depL l <= nodesL l
 | []=>Nat.le_refl _
 | e :: l=>by
  have:=dep_le e
  have:=qIY l
  simp only [depL,nodesL]; omega
end
end Ex
abbrev EX (l:List Ex):List AV:=l.map Ex.av
theorem qiB (e:Ex):e.av = .agg [.int .i64 e.op,.int .i64 e.num,.str e.txt,.view 4 (EX e.args)]:=by
 cases e; simp [Ex.av,Ex.avs_eq,Ex.op,Ex.num,Ex.txt,Ex.args]
abbrev ksX:List CS:=[CS.int IntKind.i64,CS.int IntKind.i64,CS.str,CS.slice 4]
theorem hkX (e:Ex):qiV ksX (qad e.av) = true:=by rw [qiB]; rfl
theorem okX {l:List Ex} {n:Nat} (h:n < l.length):qaD ksX (EX l) (n:Int) = true:=qdV hkX h
theorem qx0 {l:List Ex} {n:Nat} (h:n < l.length):intOf (cellAt (EX l) (n:Int) 0) = l[n].op:=by rw [qat h,qiB]; rfl
theorem qx1 {l:List Ex} {n:Nat} (h:n < l.length):intOf (cellAt (EX l) (n:Int) 1) = l[n].num:=by rw [qat h,qiB]; rfl
theorem qx2 {l:List Ex} {n:Nat} (h:n < l.length):strOf (cellAt (EX l) (n:Int) 2) = l[n].txt:=by rw [qat h,qiB]; rfl
theorem qx3 {l:List Ex} {n:Nat} (h:n < l.length):qaq (cellAt (EX l) (n:Int) 3) = EX l[n].args:=by rw [qat h,qiB]; rfl
theorem quf (e:Ex):e.nodes = Ex.nodesL e.args + 1:=by cases e; rfl
theorem q23 (e:Ex):e.dep = Ex.depL e.args + 1:=by cases e; rfl
theorem qyR {e x:Ex} (h:x ∈ e.args):x.dep < e.dep:=by
 have:=Ex.depL_mem h
 rw [q23 e]; omega
def zct (e:Ex):Bool:=decide (e.args.length <= big)
def Wd (e:Ex):Prop:=e.allX zct = true
theorem Wd.len {e:Ex} (h:Wd e):e.args.length <= big:=by
 rw [Wd,Ex.allX_eq,Bool.and_eq_true] at h
 exact of_decide_eq_true h.1
theorem Wd.arg {e x:Ex} (h:Wd e) (hx:x ∈ e.args):Wd x:=by
 rw [Wd,Ex.allX_eq,Bool.and_eq_true,List.all_eq_true] at h
 exact h.2 x hx
def qaV (op:Int):Int:=
 if op = 1 \/ op = 2 \/ op = 3 \/ op = 4 then 0 else if op = 9 \/ op = 16 then 1 else if op = 19 then 3 else if 5 <= op /\ op <= 18 then 2 else -1
def qgc (op:Int):Int:=if op = 1 then 9223372036854775807 else if op = 2 then 1000000000000 else if op = 3 then 1000000 else 0
def qaF (e:Ex):Bool:=qaV e.op == (e.args.length:Int) && (decide (e.num >= 0) && (decide (e.num <= qgc e.op) && (e.txt == [] || e.op == 4)))
def qkU (s:Bs):Bool:=(qkS s).2.2 == 0 && ((qkS s).1.length == 1 && match (qkS s).1.head? with
 | some t=>t.kind == 1 && t.text == s
 | none=>false)
def qbf (e:Ex):Bool:=e.op != 4 || qkU e.txt
def qbO (e:Ex):Int:=bif decide (e.nodes > 64) || decide (e.dep > 8) then 5 else bif !e.allX qaF then 1 else bif !e.allX qbf then 4 else 0
theorem qq6 {e:Ex} (h:qbO e = 0):e.nodes <= 64 /\ e.dep <= 8 /\ e.allX qaF = true /\ e.allX qbf = true:=by
 unfold qbO at h
 cases h1:decide (e.nodes > 64) <;> cases h2:decide (e.dep > 8) <;> cases h3:e.allX qaF <;> cases h4:e.allX qbf <;> simp [h1,h2,h3,h4] at h
 simp at h1 h2
 exact ⟨h1,h2,rfl,rfl⟩
def qFr (s:Bs):Bool:=match s with
 | []=>false
 | c :: _=>decide (s.length <= 16) && (at8 qAg c && s.all (at8 qgX))
theorem qx9:∀ (k:Nat) (s:Bs) (line:Int) (acc:List Tok),s.length < k -> (qln k s line acc).2.2 = 0 -> ∃ more,(qln k s line acc).1 = acc ++ more
 | 0,s,_,_,h,_=>by omega
 | k + 1,s,line,acc,h,h0=>by
  simp only [qln] at h0 ⊢
  cases hd:s.drop (blk false s) with
  | nil=>exact ⟨[],by simp⟩
  | cons c r=>
   simp only [hd] at h0 ⊢
   cases hz:((qbC (c :: r)).2.2 != 0)
   ·have hz':(qbC (c :: r)).2.2 = 0:=by simpa using hz
    simp only [hz,cond_false] at h0 ⊢
    obtain ⟨g1,t,g2⟩:=qud hz'
    have hlen:=congrArg List.length hd
    simp only [List.length_drop,List.length_cons] at hlen
    have g4:1 <= (qbC (c :: r)).2.1.length:=by
     cases hq:(qbC (c :: r)).2.1 with
     | nil=>exact absurd hq g1
     | cons _ _=>simp
    obtain ⟨more,hm⟩:=qx9 k _ _ _ (by simp only [List.length_drop,List.length_cons]; omega) h0
    exact ⟨_ :: more,by rw [hm,List.append_assoc]; rfl⟩
   ·simp only [hz,cond_true] at h0
    rw [h0] at hz; simp at hz
theorem qLF {s:Bs} (h:(qbC s).2.2 = 0) (h1:(qbC s).1 = 1):∃ c r,s = c :: r /\ at8 qAg c = true /\ qro (s.takeWhile (at8 qgX)) = false /\ (s.takeWhile (at8 qgX)).length <= 16 /\ (qbC s).2.1 = s.takeWhile (at8 qgX):=by
 unfold qbC at h h1 ⊢
 cases s with
 | nil=>simp at h
 | cons c l=>
  simp only at h h1 ⊢
  refine ⟨c,l,rfl,?_⟩
  cases hl:at8 qAg c
  ·exfalso
   simp only [hl,cond_false] at h h1
   cases hd:at8 qhH c
   ·simp only [hd,cond_false] at h h1
    cases hf:marksS.find? (preB · (c :: l)) with
    | none=>simp [hf] at h
    | some m=>simp [hf] at h1
   ·simp only [hd,cond_true] at h h1
    unfold qRU at h h1
    revert h h1
    cases qRH ((c :: l).takeWhile (at8 qug)) <;> cases nOk (Lib.parseIntB 64 ((c :: l).takeWhile (at8 qug))) <;> cases ((qrl ((c :: l).takeWhile (at8 qug))).2 == 0) <;> cases ((qrl ((c :: l).takeWhile (at8 qug))).2 == 1) <;> simp
  ·simp only [hl,cond_true] at h h1 ⊢
   cases hw:qro ((c :: l).takeWhile (at8 qgX))
   ·simp only [hw,cond_false] at h h1 ⊢
    cases hg:decide (((c :: l).takeWhile (at8 qgX)).length > 16)
    ·simp only [cond_false]
     have:=of_decide_eq_false hg
     exact ⟨trivial,trivial,by omega,trivial⟩
    ·simp [hg] at h
   ·simp [hw] at h1
theorem q0H (s:Bs):qkU s = (qFr s && !qro s):=by
 rw [Bool.eq_iff_iff]
 constructor
 ·intro h
  simp only [qkU,Bool.and_eq_true,beq_iff_eq] at h
  obtain ⟨h1,h2,h3⟩:=h
  cases hb:decide ((s.length:Int) > 2048)
  ·unfold qkS at h1 h2 h3
   simp only [hb,cond_false] at h1 h2 h3
   simp only [qln] at h1 h2 h3
   cases hd:s.drop (blk false s) with
   | nil=>simp [hd] at h2
   | cons c r=>
    simp only [hd] at h1 h2 h3
    cases hz:((qbC (c :: r)).2.2 != 0)
    ·have hz':(qbC (c :: r)).2.2 = 0:=by simpa using hz
     simp only [hz,cond_false] at h1 h2 h3
     obtain ⟨g1,t,g2⟩:=qud hz'
     have hlen:=congrArg List.length hd
     simp only [List.length_drop,List.length_cons] at hlen
     have hn:=qrD false s
     have g4:1 <= (qbC (c :: r)).2.1.length:=by
      cases hq:(qbC (c :: r)).2.1 with
      | nil=>exact absurd hq g1
      | cons _ _=>simp
     obtain ⟨more,hm⟩:=qx9 s.length _ _ _ (by simp only [List.length_drop,List.length_cons]; omega) h1
     rw [hm] at h3
     simp only [List.nil_append,List.cons_append,List.head?_cons,Bool.and_eq_true,beq_iff_eq] at h3
     obtain ⟨h3,h4⟩:=h3
     have g5:=congrArg List.length h4
     have g6:=congrArg List.length g2
     simp only [List.length_append,List.length_cons] at g6
     have hn0:blk false s = 0:=by omega
     rw [hn0,List.drop_zero] at hd
     subst hd
     obtain ⟨_,_,e1,q1,q2,q3,q4⟩:=qLF hz' h3
     cases e1
     rw [q4] at h4
     rw [h4] at q2 q3
     have hall:=qCB.1 h4
     simp only [qFr,Bool.and_eq_true,Bool.not_eq_true']
     exact ⟨⟨decide_eq_true q3,q1,hall⟩,q2⟩
    ·simp only [hz,cond_true] at h1
     rw [h1] at hz; simp at hz
  ·unfold qkS at h1
   simp [hb] at h1
 ·intro h
  simp only [qFr,Bool.and_eq_true,Bool.not_eq_true'] at h
  obtain ⟨h,hw⟩:=h
  cases s with
  | nil=>cases h
  | cons c r=>
   simp only [Bool.and_eq_true,decide_eq_true_eq] at h
   obtain ⟨h16,hl,hall⟩:=h
   have hb:decide (((c :: r).length:Int) > 2048) = false:=by simp only [decide_eq_false_iff_not]; omega
   have hb0:blk false (c :: r) = 0:=by
    simp only [at8,qAg,Bool.and_eq_true,decide_eq_true_eq] at hl
    have e1:spI c.toNat = false:=by
     simp only [spI,Bool.or_eq_false_iff,beq_eq_false_iff_ne,ne_eq]; omega
    have e2:((c.toNat:Int) == 35) = false:=by
     simp only [beq_eq_false_iff_ne,ne_eq]; omega
    simp only [blk,e1,e2,cond_false]
   have ht:=qCB.2 hall
   have hx:qbC (c :: r) = (1,c :: r,0):=by
    have hg:decide ((c :: r).length > 16) = false:=by simp only [decide_eq_false_iff_not]; omega
    simp only [qbC,hl,cond_true,ht,hw,cond_false,hg]
   have htk:qkS (c :: r) = ([⟨1,1,c :: r⟩],0,0):=by
    unfold qkS
    rw [hb,cond_false]
    simp only [List.length_cons,qln,hb0,List.drop_zero,hx]
    simp [qln,blk]
   simp [qkU,htk]
def qrc (l:List Bs) (s:Bs):List Bs:=
 if l[(l.takeWhile (qbL · s)).length]? = some s then l else l.take (l.takeWhile (qbL · s)).length ++ [s] ++ l.drop (l.takeWhile (qbL · s)).length
theorem qBu {l:List Bs} {s x:Bs}:x ∈ qrc l s ↔ x ∈ l \/ x = s:=by
 unfold qrc
 split
 ·rename_i h
  have:=List.mem_of_getElem? h
  constructor
  ·exact .inl
  ·rintro (h | rfl)
   ·exact h
   ·exact this
 ·generalize (l.takeWhile (qbL · s)).length = k
  have:x ∈ l ↔ x ∈ l.take k \/ x ∈ l.drop k:=by rw [<- List.mem_append,List.take_append_drop]
  simp only [List.mem_append,List.mem_singleton,this]
  constructor
  ·rintro ((h | h) | h)
   ·exact .inl (.inl h)
   ·exact .inr h
   ·exact .inl (.inr h)
  ·rintro ((h | h) | h)
   ·exact .inl (.inl h)
   ·exact .inr h
   ·exact .inl (.inr h)
theorem qBt (l:List Bs) (s:Bs):(qrc l s).length <= l.length + 1:=by
 unfold qrc
 split
 ·omega
 ·simp; omega
theorem qlw {x:Bs}:∀ {ns l:List Bs},x ∈ ns.foldl qrc l ↔ x ∈ l \/ x ∈ ns
 | [],l=>by simp
 | s :: ns,l=>by
  rw [List.foldl_cons,qlw,qBu,List.mem_cons,or_assoc]
theorem qtS:∀ (ns l:List Bs),(ns.foldl qrc l).length <= l.length + ns.length
 | [],l=>by simp
 | s :: ns,l=>by
  have:=qtS ns (qrc l s)
  have:=qBt l s
  simp only [List.foldl_cons,List.length_cons]; omega
mutual
def Ex.names:Ex -> List Bs
 | .mk o _ s l=>Ex.namesL (if o = 4 then [s] else []) l
def Ex.namesL:List Bs -> List Ex -> List Bs
 | acc,[]=>acc
 | acc,e :: l=>Ex.namesL ((Ex.names e).foldl qrc acc) l
end
mutual
theorem qpi:∀ e:Ex,e.names.length <= e.nodes
 | .mk o n s l=>by
  have:=qsI (if o = 4 then [s] else []) l
  simp only [Ex.names,Ex.nodes]
  split at this <;> simp_all <;> omega
theorem qsI:∀ (acc:List Bs) (l:List Ex),(Ex.namesL acc l).length <= acc.length + Ex.nodesL l
 | acc,[]=>by simp [Ex.namesL]
 | acc,e :: l=>by
  have h1:=qpi e
  have h2:=qtS e.names acc
  have h3:=qsI (e.names.foldl qrc acc) l
  simp only [Ex.namesL,Ex.nodesL]; omega
end
mutual
theorem qxr:∀ e:Ex,e.names.all qkU = e.allX qbf
 | .mk o n s l=>by
  simp only [Ex.names,Ex.allX,qsH,qbf,Ex.op,Ex.txt]
  by_cases h:o = 4 <;> simp [h]
theorem qsH:∀ (acc:List Bs) (l:List Ex),(Ex.namesL acc l).all qkU = (acc.all qkU && Ex.allL qbf l)
 | acc,[]=>by simp [Ex.namesL,Ex.allL]
 | acc,e :: l=>by
  have h1:=qxr e
  simp only [Ex.namesL,Ex.allL,qsH]
  have:(e.names.foldl qrc acc).all qkU = (acc.all qkU && e.names.all qkU):=by
   rw [Bool.eq_iff_iff,Bool.and_eq_true,List.all_eq_true,List.all_eq_true,List.all_eq_true]
   constructor
   ·exact fun h=>⟨fun x hx=>h x (qlw.2 (.inl hx)),fun x hx=>h x (qlw.2 (.inr hx))⟩
   ·rintro ⟨h,h'⟩ x hx
    exact (qlw.1 hx).elim (h x) (h' x)
  rw [this,h1,Bool.and_assoc]
end
end Go.Tk

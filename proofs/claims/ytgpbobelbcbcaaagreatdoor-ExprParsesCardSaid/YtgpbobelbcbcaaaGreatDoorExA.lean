/- Expressions over plain data. -/
import Derived.Test.YtgpbobelbcbcaaaGreatDoorTkA
set_option linter.unusedVariables false
set_option linter.unusedSimpArgs false
set_option linter.unnecessarySimpa false
namespace Go.Tk
open Go Go.Eng
set_option maxRecDepth 20000
inductive Ex where
 | mk (op num:Int) (txt:Bs) (args:List Ex)
namespace Ex
def op:Ex -> Int | mk o _ _ _=>o
def num:Ex -> Int | mk _ n _ _=>n
def txt:Ex -> Bs | mk _ _ s _=>s
def args:Ex -> List Ex | mk _ _ _ l=>l
theorem ind {P:Ex -> Prop} (h:∀ o n s l,(∀ x ∈ l,P x) -> P (mk o n s l)):∀ e,P e:=fun e=>
 Ex.rec (motive_1:=P) (motive_2:=fun l=>∀ x ∈ l,P x) (fun o n s l ih=>h o n s l ih) (by intro x hx; cases hx)
  (fun e l he hl x hx=>by
   rcases List.mem_cons.1 hx with rfl | hx
   ·exact he
   ·exact hl x hx) e
mutual
def av:Ex -> AV
 | mk o n s l=>.agg [.int .i64 o,.int .i64 n,.str s,.view 4 (avs l)]
def avs:List Ex -> List AV
 | []=>[]
 | e :: l=>av e :: avs l
end
theorem avs_eq:∀ l:List Ex,avs l = l.map av
 | []=>rfl
 | e :: l=>by simp [avs,avs_eq l]
mutual
def nodes:Ex -> Nat
 | mk _ _ _ l=>nodesL l + 1
def nodesL:List Ex -> Nat
 | []=>0
 | e :: l=>nodes e + nodesL l
end
mutual
def dep:Ex -> Nat
 | mk _ _ _ l=>depL l + 1
def depL:List Ex -> Nat
 | []=>0
 | e :: l=>max (dep e) (depL l)
end
mutual
def allX (p:Ex -> Bool):Ex -> Bool
 | mk o n s l=>p (mk o n s l) && allL p l
def allL (p:Ex -> Bool):List Ex -> Bool
 | []=>true
 | e :: l=>allX p e && allL p l
end
theorem qDq (p:Ex -> Bool):∀ l:List Ex,allL p l = l.all (allX p)
 | []=>rfl
 | e :: l=>by simp [allL,qDq p l]
theorem allX_eq (p:Ex -> Bool) (e:Ex):allX p e = (p e && e.args.all (allX p)):=by
 cases e; simp [allX,qDq,args]
theorem nodesL_mem {x:Ex}:∀ {l:List Ex},x ∈ l -> nodes x <= nodesL l
 | e :: l,h=>by
  simp only [nodesL]
  rcases List.mem_cons.1 h with rfl | h
  ·omega
  ·have:=nodesL_mem h; omega
theorem depL_mem {x:Ex}:∀ {l:List Ex},x ∈ l -> dep x <= depL l
 | e :: l,h=>by
  simp only [depL]
  rcases List.mem_cons.1 h with rfl | h
  ·omega
  ·have:=depL_mem h; omega
theorem nodes_pos (e:Ex):1 <= nodes e:=by cases e; simp [nodes]
theorem nodesL_len:∀ l:List Ex,l.length <= nodesL l
 | []=>Nat.le_refl _
 | e :: l=>by
  have:=nodesL_len l
  have:=nodes_pos e
  simp only [nodesL,List.length_cons]; omega
theorem nodesL_app:∀ (a b:List Ex),nodesL (a ++ b) = nodesL a + nodesL b
 | [],b=>by simp [nodesL]
 | e :: a,b=>by simp only [List.cons_append,nodesL,nodesL_app a b]; omega
theorem nodes_fold:∀ (l:List Ex) (a:Nat),l.foldl (fun a x=>a + nodes x) a = a + nodesL l
 | [],a=>rfl
 | e :: l,a=>by simp only [List.foldl_cons,nodesL,nodes_fold l]; omega
theorem dep_fold:∀ (l:List Ex) (a:Nat),l.foldl (fun a x=>max a (dep x)) a = max a (depL l)
 | [],a=>by simp [depL]
 | e :: l,a=>by simp only [List.foldl_cons,depL,dep_fold l]; omega
mutual
theorem dep_le:∀ e:Ex,dep e <= nodes e
 | mk _ _ _ l=>by have:=qDL l; simp only [dep,nodes]; omega
theorem qDL:∀ l:List Ex,depL l <= nodesL l
 | []=>Nat.le_refl _
 | e :: l=>by
  have:=dep_le e
  have:=qDL l
  simp only [depL,nodesL]; omega
end
end Ex
abbrev EX (l:List Ex):List AV:=l.map Ex.av
theorem qk0 (e:Ex):e.av = .agg [.int .i64 e.op,.int .i64 e.num,.str e.txt,.view 4 (EX e.args)]:=by
 cases e; simp [Ex.av,Ex.avs_eq,Ex.op,Ex.num,Ex.txt,Ex.args]
abbrev ksX:List CS:=[CS.int IntKind.i64,CS.int IntKind.i64,CS.str,CS.slice 4]
theorem hkX (e:Ex):qnv ksX (qac e.av) = true:=by rw [qk0]; rfl
theorem okX {l:List Ex} {n:Nat} (h:n < l.length):qaQ ksX (EX l) (n:Int) = true:=qkc hkX h
theorem qx0 {l:List Ex} {n:Nat} (h:n < l.length):intOf (cellAt (EX l) (n:Int) 0) = l[n].op:=by rw [qbF h,qk0]; rfl
theorem qx1 {l:List Ex} {n:Nat} (h:n < l.length):intOf (cellAt (EX l) (n:Int) 1) = l[n].num:=by rw [qbF h,qk0]; rfl
theorem qx2 {l:List Ex} {n:Nat} (h:n < l.length):strOf (cellAt (EX l) (n:Int) 2) = l[n].txt:=by rw [qbF h,qk0]; rfl
theorem qx3 {l:List Ex} {n:Nat} (h:n < l.length):qai (cellAt (EX l) (n:Int) 3) = EX l[n].args:=by rw [qbF h,qk0]; rfl
theorem qzd (e:Ex):e.nodes = Ex.nodesL e.args + 1:=by cases e; rfl
theorem qur {e x:Ex} (h:x ∈ e.args):x.nodes < e.nodes:=by
 have:=Ex.nodesL_mem h
 rw [qzd e]; omega
theorem qJ9 (e:Ex):e.args.length < e.nodes:=by
 have:=Ex.nodesL_len e.args
 rw [qzd]; omega
def q23 (e:Ex):Bool:=decide (e.args.length <= big)
def Wd (e:Ex):Prop:=e.allX q23 = true
theorem Wd.len {e:Ex} (h:Wd e):e.args.length <= big:=by
 rw [Wd,Ex.allX_eq,Bool.and_eq_true] at h
 exact of_decide_eq_true h.1
theorem Wd.arg {e x:Ex} (h:Wd e) (hx:x ∈ e.args):Wd x:=by
 rw [Wd,Ex.allX_eq,Bool.and_eq_true,List.all_eq_true] at h
 exact h.2 x hx
theorem qXa:∀ {e:Ex},e.nodes <= big -> Wd e:=by
 intro e
 induction e using Ex.ind with
 | h o n s l ih=>
  intro h
  rw [Wd,Ex.allX_eq,Bool.and_eq_true,List.all_eq_true]
  have hl:=qJ9 (.mk o n s l)
  exact ⟨decide_eq_true (by omega),fun x hx=>ih x hx (by have:=qur (e:=.mk o n s l) (x:=x) hx; omega)⟩
def qaE (op:Int):Int:=
 if op = 1 \/ op = 2 \/ op = 3 \/ op = 4 then 0 else if op = 9 \/ op = 16 then 1 else if op = 19 then 3 else if 5 <= op /\ op <= 18 then 2 else -1
def qdO (op:Int):Int:=if op = 1 then 9223372036854775807 else if op = 2 then 1000000000000 else if op = 3 then 1000000 else 0
def qaK (e:Ex):Bool:=qaE e.op == (e.args.length:Int) && (decide (e.num >= 0) && (decide (e.num <= qdO e.op) && (e.txt == [] || e.op == 4)))
def qkY (s:Bs):Bool:=(qeJ s).2.2 == 0 && ((qeJ s).1.length == 1 && match (qeJ s).1.head? with
 | some t=>t.kind == 1 && t.text == s
 | none=>false)
def qbl (e:Ex):Bool:=e.op != 4 || qkY e.txt
def qaX (e:Ex):Int:=bif decide (e.nodes > 64) || decide (e.dep > 8) then 5 else bif !e.allX qaK then 1 else bif !e.allX qbl then 4 else 0
def qw9 (s:Bs):Bool:=match s with
 | []=>false
 | c :: _=>decide (s.length <= 16) && (at8 qp1 c && s.all (at8 qdv))
theorem qvm:∀ (k:Nat) (s:Bs) (line:Int) (acc:List Tok),s.length < k -> (qd9 k s line acc).2.2 = 0 -> ∃ more,(qd9 k s line acc).1 = acc ++ more
 | 0,s,_,_,h,_=>by omega
 | k + 1,s,line,acc,h,h0=>by
  simp only [qd9] at h0 ⊢
  cases hd:s.drop (blk false s) with
  | nil=>exact ⟨[],by simp⟩
  | cons c r=>
   simp only [hd] at h0 ⊢
   cases hz:((qaC (c :: r)).2.2 != 0)
   ·have hz':(qaC (c :: r)).2.2 = 0:=by simpa using hz
    simp only [hz,cond_false] at h0 ⊢
    obtain ⟨g1,t,g2⟩:=qc7 hz'
    have hlen:=congrArg List.length hd
    simp only [List.length_drop,List.length_cons] at hlen
    have g4:1 <= (qaC (c :: r)).2.1.length:=by
     cases hq:(qaC (c :: r)).2.1 with
     | nil=>exact absurd hq g1
     | cons _ _=>simp
    obtain ⟨more,hm⟩:=qvm k _ _ _ (by simp only [List.length_drop,List.length_cons]; omega) h0
    exact ⟨_ :: more,by rw [hm,List.append_assoc]; rfl⟩
   ·simp only [hz,cond_true] at h0
    rw [h0] at hz; simp at hz
theorem qGs {s:Bs} (h:(qaC s).2.2 = 0) (h1:(qaC s).1 = 1):∃ c r,s = c :: r /\ at8 qp1 c = true /\ qeK (s.takeWhile (at8 qdv)) = false /\ (s.takeWhile (at8 qdv)).length <= 16 /\ (qaC s).2.1 = s.takeWhile (at8 qdv):=by
 unfold qaC at h h1 ⊢
 cases s with
 | nil=>simp at h
 | cons c l=>
  simp only at h h1 ⊢
  refine ⟨c,l,rfl,?_⟩
  cases hl:at8 qp1 c
  ·exfalso
   simp only [hl,cond_false] at h h1
   cases hd:at8 qbd c
   ·simp only [hd,cond_false] at h h1
    cases hf:marksS.find? (preB · (c :: l)) with
    | none=>simp [hf] at h
    | some m=>simp [hf] at h1
   ·simp only [hd,cond_true] at h h1
    unfold qxa at h h1
    revert h h1
    cases qgG ((c :: l).takeWhile (at8 qeH)) <;> cases nOk (Lib.parseIntB 64 ((c :: l).takeWhile (at8 qeH))) <;> cases ((qbN ((c :: l).takeWhile (at8 qeH))).2 == 0) <;> cases ((qbN ((c :: l).takeWhile (at8 qeH))).2 == 1) <;> simp
  ·simp only [hl,cond_true] at h h1 ⊢
   cases hw:qeK ((c :: l).takeWhile (at8 qdv))
   ·simp only [hw,cond_false] at h h1 ⊢
    cases hg:decide (((c :: l).takeWhile (at8 qdv)).length > 16)
    ·simp only [cond_false]
     have:=of_decide_eq_false hg
     exact ⟨trivial,trivial,by omega,trivial⟩
    ·simp [hg] at h
   ·simp [hw] at h1
theorem qxF (s:Bs):qkY s = (qw9 s && !qeK s):=by
 rw [Bool.eq_iff_iff]
 constructor
 ·intro h
  simp only [qkY,Bool.and_eq_true,beq_iff_eq] at h
  obtain ⟨h1,h2,h3⟩:=h
  cases hb:decide ((s.length:Int) > 2048)
  ·unfold qeJ at h1 h2 h3
   simp only [hb,cond_false] at h1 h2 h3
   simp only [qd9] at h1 h2 h3
   cases hd:s.drop (blk false s) with
   | nil=>simp [hd] at h2
   | cons c r=>
    simp only [hd] at h1 h2 h3
    cases hz:((qaC (c :: r)).2.2 != 0)
    ·have hz':(qaC (c :: r)).2.2 = 0:=by simpa using hz
     simp only [hz,cond_false] at h1 h2 h3
     obtain ⟨g1,t,g2⟩:=qc7 hz'
     have hlen:=congrArg List.length hd
     simp only [List.length_drop,List.length_cons] at hlen
     have hn:=qiP false s
     have g4:1 <= (qaC (c :: r)).2.1.length:=by
      cases hq:(qaC (c :: r)).2.1 with
      | nil=>exact absurd hq g1
      | cons _ _=>simp
     obtain ⟨more,hm⟩:=qvm s.length _ _ _ (by simp only [List.length_drop,List.length_cons]; omega) h1
     rw [hm] at h3
     simp only [List.nil_append,List.cons_append,List.head?_cons,Bool.and_eq_true,beq_iff_eq] at h3
     obtain ⟨h3,h4⟩:=h3
     have g5:=congrArg List.length h4
     have g6:=congrArg List.length g2
     simp only [List.length_append,List.length_cons] at g6
     have hn0:blk false s = 0:=by omega
     rw [hn0,List.drop_zero] at hd
     subst hd
     obtain ⟨_,_,e1,q1,q2,q3,q4⟩:=qGs hz' h3
     cases e1
     rw [q4] at h4
     rw [h4] at q2 q3
     have hall:=qoR.1 h4
     simp only [qw9,Bool.and_eq_true,Bool.not_eq_true']
     exact ⟨⟨decide_eq_true q3,q1,hall⟩,q2⟩
    ·simp only [hz,cond_true] at h1
     rw [h1] at hz; simp at hz
  ·unfold qeJ at h1
   simp [hb] at h1
 ·intro h
  simp only [qw9,Bool.and_eq_true,Bool.not_eq_true'] at h
  obtain ⟨h,hw⟩:=h
  cases s with
  | nil=>cases h
  | cons c r=>
   simp only [Bool.and_eq_true,decide_eq_true_eq] at h
   obtain ⟨h16,hl,hall⟩:=h
   have hb:decide (((c :: r).length:Int) > 2048) = false:=by simp only [decide_eq_false_iff_not]; omega
   have hb0:blk false (c :: r) = 0:=by
    simp only [at8,qp1,Bool.and_eq_true,decide_eq_true_eq] at hl
    have e1:spI c.toNat = false:=by
     simp only [spI,Bool.or_eq_false_iff,beq_eq_false_iff_ne,ne_eq]; omega
    have e2:((c.toNat:Int) == 35) = false:=by
     simp only [beq_eq_false_iff_ne,ne_eq]; omega
    simp only [blk,e1,e2,cond_false]
   have ht:=qoR.2 hall
   have hx:qaC (c :: r) = (1,c :: r,0):=by
    have hg:decide ((c :: r).length > 16) = false:=by simp only [decide_eq_false_iff_not]; omega
    simp only [qaC,hl,cond_true,ht,hw,cond_false,hg]
   have htk:qeJ (c :: r) = ([⟨1,1,c :: r⟩],0,0):=by
    unfold qeJ
    rw [hb,cond_false]
    simp only [List.length_cons,qd9,hb0,List.drop_zero,hx]
    simp [qd9,blk]
   simp [qkY,htk]
def qk3 (l:List Bs) (s:Bs):List Bs:=
 if l[(l.takeWhile (qav · s)).length]? = some s then l else l.take (l.takeWhile (qav · s)).length ++ [s] ++ l.drop (l.takeWhile (qav · s)).length
theorem qyw {l:List Bs} {s x:Bs}:x ∈ qk3 l s ↔ x ∈ l \/ x = s:=by
 unfold qk3
 split
 ·rename_i h
  have:=List.mem_of_getElem? h
  constructor
  ·exact .inl
  ·rintro (h | rfl)
   ·exact h
   ·exact this
 ·generalize (l.takeWhile (qav · s)).length = k
  have:x ∈ l ↔ x ∈ l.take k \/ x ∈ l.drop k:=by rw [<- List.mem_append,List.take_append_drop]
  simp only [List.mem_append,List.mem_singleton,this]
  constructor
  ·rintro ((h | h) | h)
   ·exact .inl (.inl h)
   ·exact .inr h
   ·exact .inl (.inr h)
  ·rintro ((h | h) | h)
   ·exact .inl (.inl h)
   ·exact .inr h
   ·exact .inl (.inr h)
theorem qyv (l:List Bs) (s:Bs):(qk3 l s).length <= l.length + 1:=by
 unfold qk3
 split
 ·omega
 ·simp; omega
theorem qiZ {x:Bs}:∀ {ns l:List Bs},x ∈ ns.foldl qk3 l ↔ x ∈ l \/ x ∈ ns
 | [],l=>by simp
 | s :: ns,l=>by
  rw [List.foldl_cons,qiZ,qyw,List.mem_cons,or_assoc]
theorem qq8:∀ (ns l:List Bs),(ns.foldl qk3 l).length <= l.length + ns.length
 | [],l=>by simp
 | s :: ns,l=>by
  have:=qq8 ns (qk3 l s)
  have:=qyv l s
  simp only [List.foldl_cons,List.length_cons]; omega
mutual
def Ex.names:Ex -> List Bs
 | .mk o _ s l=>Ex.namesL (if o = 4 then [s] else []) l
def Ex.namesL:List Bs -> List Ex -> List Bs
 | acc,[]=>acc
 | acc,e :: l=>Ex.namesL ((Ex.names e).foldl qk3 acc) l
end
mutual
theorem qjc:∀ e:Ex,e.names.length <= e.nodes
 | .mk o n s l=>by
  have:=qp4 (if o = 4 then [s] else []) l
  simp only [Ex.names,Ex.nodes]
  split at this <;> simp_all <;> omega
theorem qp4:∀ (acc:List Bs) (l:List Ex),(Ex.namesL acc l).length <= acc.length + Ex.nodesL l
 | acc,[]=>by simp [Ex.namesL]
 | acc,e :: l=>by
  have h1:=qjc e
  have h2:=qq8 e.names acc
  have h3:=qp4 (e.names.foldl qk3 acc) l
  simp only [Ex.namesL,Ex.nodesL]; omega
end
mutual
theorem qun:∀ e:Ex,e.names.all qkY = e.allX qbl
 | .mk o n s l=>by
  simp only [Ex.names,Ex.allX,qp2,qbl,Ex.op,Ex.txt]
  by_cases h:o = 4 <;> simp [h]
theorem qp2:∀ (acc:List Bs) (l:List Ex),(Ex.namesL acc l).all qkY = (acc.all qkY && Ex.allL qbl l)
 | acc,[]=>by simp [Ex.namesL,Ex.allL]
 | acc,e :: l=>by
  have h1:=qun e
  simp only [Ex.namesL,Ex.allL,qp2]
  have:(e.names.foldl qk3 acc).all qkY = (acc.all qkY && e.names.all qkY):=by
   rw [Bool.eq_iff_iff,Bool.and_eq_true,List.all_eq_true,List.all_eq_true,List.all_eq_true]
   constructor
   ·exact fun h=>⟨fun x hx=>h x (qiZ.2 (.inl hx)),fun x hx=>h x (qiZ.2 (.inr hx))⟩
   ·rintro ⟨h,h'⟩ x hx
    exact (qiZ.1 hx).elim (h x) (h' x)
  rw [this,h1,Bool.and_assoc]
end
end Go.Tk

/- Evaluation: an operator applied; trees. -/
import Derived.Test.YthljpgljbpdmjaaGreatDoorX15pEva
import Derived.Test.YthljpgljbpdmjaaGreatDoorX15pTyp
import Derived.Test.YthljpgljbpdmjaaGreatDoorEvD
set_option linter.unusedVariables false
set_option linter.unusedSimpArgs false
set_option linter.unnecessarySimpa false
namespace Go.Proofs.H15p
open Go Go.Eng Go.Tk
set_option maxRecDepth 20000
abbrev trp (p:Vl × Int):Int × Int × Int:=(p.1.ty,p.1.n,p.2)
def q5r (t:Int) (p:Int × Int):Int × Int × Int:=bif p.2 == 0 && !qa0 ⟨t,p.1⟩ then (0,0,6) else bif p.2 != 0 then (0,0,p.2) else (t,p.1,0)
theorem qie {w:Int}:i64 w ↔ qdQ w = true:=by
 unfold i64 qdQ
 rw [Bool.and_eq_true,decide_eq_true_eq,decide_eq_true_eq]
 constructor <;> intro h <;> exact ⟨by omega,by omega⟩
theorem qgL {t w:Int}:q5r t (nIf w) = trp (qjq t w):=by
 unfold q5r nIf qjq
 by_cases h:i64 w
 ·rw [if_pos h,qie.1 h]
  cases hv:qa0 ⟨t,w⟩ <;> simp [hv]
 ·have:qdQ w = false:=by rw [<- Bool.not_eq_true]; exact fun e=>h (qie.2 e)
  rw [if_neg h,this]
  rfl
theorem qLC {a b t:Int} (h:qaZ 7 [a,b] = (t,true)) (h1:a ≠ b) (h2:a ≠ 1) (h3:b ≠ 1):(a = 2 /\ b = 3) \/ (a = 3 /\ b = 2):=by
 obtain ⟨g1,g2,g3⟩:=qcI h
 rcases qaQ g1 with rfl | rfl | rfl | rfl | rfl <;> rcases qaQ g2 with rfl | rfl | rfl | rfl | rfl <;> first | omega | cases g3
theorem qvU {a b t:Int} (h:qaZ 8 [a,b] = (t,true)):(a = b /\ t = 1) \/ ((a = 2 \/ a = 3) /\ b = 1 /\ t = a):=by
 obtain ⟨g1,g2,g3⟩:=qcI h
 rcases qaQ g1 with rfl | rfl | rfl | rfl | rfl <;> rcases qaQ g2 with rfl | rfl | rfl | rfl | rfl <;> first | (cases g3; decide) | cases g3
theorem qkV {v:Vl} (h:qa0 v = true) (ht:v.ty = 2):-1000000000000 <= v.n /\ v.n <= 1000000000000:=by
 unfold qa0 at h
 rw [if_neg (by omega),if_pos ht] at h
 simpa using h
theorem qvC {v:Vl} (h:qa0 v = true) (ht:v.ty = 3):-1000000000 <= v.n /\ v.n <= 1000000000:=by
 unfold qa0 at h
 rw [if_neg (by omega),if_neg (by omega),if_pos ht] at h
 simpa using h
theorem qxp {a b t:Int} {x y:Vl} (h:qaZ 7 [x.ty,y.ty] = (t,true)) (h1:x.ty ≠ y.ty /\ x.ty ≠ 1 /\ y.ty ≠ 1) (hx:qa0 x = true) (hy:qa0 y = true) (ha:a = x.n) (hb:b = y.n):(((a * b).natAbs:Nat):Int) <= 1000000000000000000000:=by
 rcases qLC h h1.1 h1.2.1 h1.2.2 with ⟨e1,e2⟩ | ⟨e1,e2⟩
 ·have q1:=qkV hx e1
  have q2:=qvC hy e2
  have:(a * b).natAbs <= 1000000000000 * 1000000000:=by rw [Int.natAbs_mul]; exact Nat.mul_le_mul (by omega) (by omega)
  omega
 ·have q1:=qvC hx e1
  have q2:=qkV hy e2
  have:(a * b).natAbs <= 1000000000 * 1000000000000:=by rw [Int.natAbs_mul]; exact Nat.mul_le_mul (by omega) (by omega)
  omega
theorem qIZ {t:Int} {x y:Vl} (h:qaZ 8 [x.ty,y.ty] = (t,true)) (h1:x.ty ≠ y.ty) (hx:qa0 x = true):-1000000000000 <= x.n /\ x.n <= 1000000000000:=by
 rcases qvU h with ⟨e,_⟩ | ⟨e | e,_⟩
 ·exact absurd e h1
 ·exact qkV hx e
 ·have:=qvC hx e; omega
theorem qRi {op t:Int} {a b:Vl} (h5:5 <= op) (h8:op <= 8) (hr:qaZ op [a.ty,b.ty] = (t,true)):q5r t (qCQ op a b) = trp (qhn op t a b):=by
 have h:op = 5 \/ op = 6 \/ op = 7 \/ op = 8:=by omega
 rcases h with rfl | rfl | rfl | rfl
 ·exact qgL
 ·exact qgL
 ·have e1:qCQ 7 a b = nIf (if a.ty ≠ b.ty /\ a.ty ≠ 1 /\ b.ty ≠ 1 then qpU (a.n * b.n) 1000000 else a.n * b.n):=rfl
  have e2:qhn 7 t a b = qAj t a b:=rfl
  rw [e1,e2,qgL,qAj]
  split <;> rfl
 ·have e1:qCQ 8 a b = if b.n = 0 then (0,7) else if a.ty = b.ty then nIf (a.n.tdiv b.n) else if b.n = -9223372036854775808 then (0,0) else if b.n < 0 then nIf (qpU (-a.n) (-b.n)) else nIf (qpU a.n b.n):=rfl
  have e2:qhn 8 t a b = qFI t a b:=rfl
  rw [e1,e2,qFI]
  split
  ·rfl
  ·split
   ·exact qgL
   ·split
    ·have hv:=qCD (qcI hr |> fun q=>qAM (show qyf 8 a.ty b.ty = some t by rcases qcs q.2.2 with ⟨_,_,k⟩ | ⟨k,_⟩ | ⟨k,_⟩ | ⟨k,_⟩ <;> first | exact k | omega))
     show (bif (0:Int) == 0 && !qa0 ⟨t,0⟩ then _ else _) = _
     rw [hv]; rfl
    ·split <;> exact qgL
theorem qzc {op:Int} {l:List Vl} (hl:l.length <= 1000) (h64:∀ x ∈ l,i64 x.n):qdM op (EL l) = some (trp (qdG op l)):=by
 have hres:∀ k:List Int,k.length <= big -> qdP op (EI k) = some (qaZ op k):=fun k hk=>qrY hk op
 by_cases hne:l = []
 ·subst hne
  exact qyV hres
 cases h1:(qaZ op (l.map (·.ty))).2
 ·rw [qfv hl hne hres (fun h=>by rw [h1] at h; cases h) (fun h=>by rw [h1] at h; cases h)]
  unfold qrC qdG
  rw [h1]; rfl
 cases h2:l.all qa0
 ·rw [qfv hl hne hres (fun _ h=>by rw [h2] at h; cases h) (fun _ h=>by rw [h2] at h; cases h)]
  unfold qrC qdG
  rw [h1,h2]; rfl
 have hall:=List.all_eq_true.1 h2
 have hr:qaZ op (l.map (·.ty)) = ((qaZ op (l.map (·.ty))).1,true):=by rw [<- h1]
 have key:∀ n:Int,(decide (op < 5) || decide (op > 9)) = true -> qdJ op (EL l) = some n -> (qdG op l) = (⟨(qaZ op (l.map (·.ty))).1,n⟩,0) -> qdM op (EL l) = some (trp (qdG op l)):=by
  intro n h3 hn ha
  rw [qfv hl hne hres (fun _ _ _=>⟨_,hn⟩) (fun _ _ h=>by rw [h3] at h; cases h),ha]
  unfold qrC
  rw [h1,h2,h3,hn]; rfl
 have key2:∀ p:Int × Int,(decide (op < 5) || decide (op > 9)) = false -> qed op (EL l) = some p -> trp (qdG op l) = q5r (qaZ op (l.map (·.ty))).1 p -> qdM op (EL l) = some (trp (qdG op l)):=by
  intro p h3 hn ha
  rw [qfv hl hne hres (fun _ _ h=>by rw [h3] at h; cases h) (fun _ _ _=>⟨_,hn⟩),ha]
  unfold qrC
  rw [h1,h2,h3,hn]; rfl
 have hap:qdG op l = opV op (qaZ op (l.map (·.ty))).1 l:=by
  unfold qdG; rw [h1,h2]; rfl
 generalize ht:(qaZ op (l.map (·.ty))).1 = t at hr key key2 hap
 match l,hr,hall,hap,key,key2,h64 with
 | [],_,_,_,_,_,_=>exact absurd rfl hne
 | [a],hr,hall,hap,key,key2,h64=>
  rcases qiW (qik hr).2 with ⟨rfl,ha,rfl⟩ | ⟨rfl,_⟩
  ·exact key _ rfl (qvZ ((qbk ha).1 (hall a (by simp)))) (by rw [hap]; rfl)
  ·exact key2 _ rfl (qnB (h64 a (by simp))) (by rw [hap,qgL]; rfl)
 | [a,b],hr,hall,hap,key,key2,h64=>
  obtain ⟨g1,g2,g3⟩:=qcI hr
  have ha:=hall a (by simp)
  have hb:=hall b (by simp)
  have hcho:10 <= op -> op <= 18 -> op ≠ 16 -> (op = 14 -> a.ty = 5 /\ b.ty = 5) -> qhn op t a b = (⟨t,qCS op a b⟩,0) -> qdM op (EL [a,b]) = some (trp (qdG op [a,b])):=by
   intro q1 q2 q3 q4 q5
   refine key _ ?_ (qv2 q1 q2 q3 fun e=>⟨(qbk (q4 e).1).1 ha,(qbk (q4 e).2).1 hb⟩) (by rw [hap]; exact q5)
   rw [decide_eq_true (show op > 9 by omega),Bool.or_true]
  rcases qcs g3 with ⟨q1,q2,q3⟩ | ⟨q1,q2,q3⟩ | ⟨q1,q2,q3,q4⟩ | ⟨q1,q2,q3,q4⟩
  ·refine key2 _ ?_ (qnC q1 q2 (h64 a (by simp)) (h64 b (by simp)) ?_ ?_) ?_
   ·rw [decide_eq_false (by omega),decide_eq_false (by omega)]; rfl
   ·rintro rfl h
    have:=qxp hr h ha hb rfl rfl
    omega
   ·rintro rfl h
    have:=qIZ hr h ha
    omega
   ·rw [hap,qRi q1 q2 hr]; rfl
  ·have:op = 10 \/ op = 11 \/ op = 12 \/ op = 13:=by omega
   refine hcho (by omega) (by omega) (by omega) (by omega) ?_
   rcases this with rfl | rfl | rfl | rfl <;> rfl
  ·refine hcho (by omega) (by omega) (by omega) (fun _=>⟨q2,q3⟩) ?_
   rcases q1 with rfl | rfl <;> rfl
  ·refine hcho (by omega) (by omega) (by omega) (by omega) ?_
   rcases q1 with rfl | rfl <;> rfl
 | [a,b,c],hr,hall,hap,key,key2,h64=>
  obtain ⟨g1,rfl,_,g2,g3⟩:=qd2 hr
  exact key _ rfl qyW (by rw [hap]; rfl)
 | a :: b :: c :: d :: l,hr,_,_,_,_,_=>
  exfalso
  have:(qaZ op ((a :: b :: c :: d :: l).map (·.ty))).2 = false:=by
   unfold qaZ
   cases (List.map (fun x=>x.ty) (a :: b :: c :: d :: l)).all qaM <;> rfl
  rw [h1] at this; cases this
theorem qzd {vs:List Va} {env:List Vl} (hl:env.length <= big):qnW (EV vs) (EL env) = some (qkZ vs env):=by
 rw [qDy,qmb,List.length_map,List.length_map]
 by_cases hlen:vs.length = env.length
 ·have e0:((vs.length:Int) != (env.length:Int)) = false:=by simp [hlen]
  generalize hq:(fun n:Nat=>match vs[n]?,env[n]? with | some v,some x=>x.ty == v.ty && qa0 x | _,_=>false) = q
  have hE:qkZ vs env = (List.range env.length).all q:=by
   unfold qkZ; rw [<- hq,show (vs.length == env.length) = true by simpa using hlen,Bool.true_and]; rfl
  have L:qxd (EV vs,EL env,(env.length:Int),0) = some (qgE (fun n=>!q n) (fun _=>0) 1 (List.range env.length),EV vs,EL env,(env.length:Int),(((List.range env.length).findIdx (fun n=>!q n):Nat):Int)):=by
   rw [qxe]
   refine qa3 env.length (hd:=fun i=>(EV vs,EL env,(env.length:Int),(i:Int))) _ _ 1 (fun i hn=>?_) ?_
   ·have hn':i < vs.length:=by omega
    have hqi:q i = (env[i].ty == vs[i].ty && qa0 env[i]):=by
     rw [<- hq]; simp only [List.getElem?_eq_getElem hn,List.getElem?_eq_getElem hn']
    have e1:(env[i].ty != vs[i].ty) = !(env[i].ty == vs[i].ty):=rfl
    have e2:qa0 ⟨env[i].ty,env[i].n⟩ = qa0 env[i]:=rfl
    simp only [qqL,qqM,qaI hn,okL hn,okV hn',ql0 hn,ql1 hn,qv1 hn',qhX,ev_br,ev_at,ev_bi_some,cond_true,qah hn hl,hqi,e1,e2]
    cases (env[i].ty == vs[i].ty) <;> cases qa0 env[i] <;> rfl
   ·simp [qqL,qqM]
  rw [ev_br,e0,cond_false,L,hE,qax]
  have:((List.range env.length).any fun n=>!q n) = !(List.range env.length).all q:=by
   rw [List.all_eq_not_any_not,Bool.not_not]
  rw [this]
  cases (List.range env.length).all q <;> rfl
 ·have e0:((vs.length:Int) != (env.length:Int)) = true:=by simp only [bne_iff_ne,ne_eq]; omega
  rw [ev_br,e0,cond_true,ev_at]
  unfold qkZ
  rw [show (vs.length == env.length) = false by simpa using hlen]
  rfl
theorem qz6 {vs:List Va} {env:List Vl} (hl:vs.length <= big) (hlen:vs.length = env.length) (o n:Int) (s:Bs) (A:List AV):qoX (EV vs,EL env,EV vs,(vs.length:Int),0,o,n,s,A,0,0) = some (qgE (fun v=>v.name == s) (fun _=>0) 1 vs,EV vs,EL env,EV vs,(vs.length:Int),((vs.findIdx (fun v=>v.name == s):Nat):Int),o,n,s,A,0,0):=by
 rw [qsq]
 refine qaz (hd:=fun i=>(EV vs,EL env,EV vs,(vs.length:Int),(i:Int),o,n,s,A,0,0)) _ _ 1 (fun i hn=>?_) ?_
 ·simp only [qi8,qkx,qaI hn,okV hn,qv0 hn,okL (show i < env.length by omega),ev_br,ev_at,cond_true,qah hn hl]
  cases (vs[i].name == s) <;> rfl
 ·simp [qi8,qkx]
def hdE (vs:List Va) (env:List Vl) (l:List Ex) (i:Int) (o n:Int) (s:Bs):List Vl -> qbS
 | []=>.inl (EV vs,EL env,EX l,(l.length:Int),i,o,n,s,EX l,0,0)
 | acc=>.inr (EV vs,EL env,EX l,(l.length:Int),i,o,n,s,EX l,0,0,EL acc)
theorem q27 (G:Int -> Int -> List UInt8 -> List AV -> List AV -> List AV -> Option qeX) {x0:Int} (x1:Int) (x2:Bs) (x3 x4 x5:List AV) (h1:x0 ≠ 1) (h2:x0 ≠ 2) (h3:x0 ≠ 3) (h4:x0 ≠ 4) (h19:x0 ≠ 19):(qcr G x0 x1 x2 x3 x4 x5).ev =
  (evT G (qj9 G (.inl (x4,x5,x3,(x3.length:Int),0,x0,x1,x2,x3,0,0)))).ev:=by
 rw [qcr,ev_br,show (x0 == 1) = false by simpa using h1,cond_false,ev_br,show (x0 == 2) = false by simpa using h2,cond_false,ev_br,show (x0 == 3) = false by simpa using h3,cond_false,
  ev_br,show (x0 == 4) = false by simpa using h4,cond_false,ev_br,show (x0 == 19) = false by simpa using h19,cond_false]
theorem q26 (G:Int -> Int -> List UInt8 -> List AV -> List AV -> List AV -> Option qeX) (x1:Int) (x2:Bs) (x3 x4 x5:List AV):(qcr G 19 x1 x2 x3 x4 x5).ev = (evI G x3 x4 x5).ev:=by
 rw [qcr,ev_br,show ((19:Int) == 1) = false from rfl,cond_false,ev_br,show ((19:Int) == 2) = false from rfl,cond_false,ev_br,show ((19:Int) == 3) = false from rfl,cond_false,
  ev_br,show ((19:Int) == 4) = false from rfl,cond_false,ev_br,show ((19:Int) == 19) = true from rfl,cond_true]
def qAH (op:Int) (acc:List Vl) (p:List Vl × Int):Int × Int × Int:=bif p.2 != 0 then (0,0,p.2) else trp (qdG op (acc ++ p.1))
theorem qtA {vs:List Va} {env:List Vl} (hv:vs.length <= big) (he:qkZ vs env = true) (h64:∀ x ∈ env,qdQ x.n = true):∀ (e:Ex),e.nodes <= 1000 -> e.allX qaF = true -> ∀ t,e.ty vs = (t,0) -> ∀ n,e.dep <= n -> qck n e.op e.num e.txt (EX e.args) (EV vs) (EL env) = some (trp (qa8 vs env e)):=by
 intro e
 induction e using Ex.ind with
 | h o n s l ih=>
  intro h hf t ht m hm
  have hf0:=hf
  rw [Ex.allX_eq,Bool.and_eq_true,List.all_eq_true] at hf
  obtain ⟨hf1,hf2⟩:=hf
  simp only [Ex.args] at hf2
  simp only [Ex.dep] at hm
  have hll:=Ex.nodesL_len l
  simp only [Ex.nodes] at h
  cases m with
  | zero=>omega
  | succ k=>
   show (qcr (qck k) o n s (EX l) (EV vs) (EL env)).ev = _
   by_cases h1:o = 1
   ·subst h1; rw [qcr]; simp [qa8,trp]
   by_cases h2:o = 2
   ·subst h2; rw [qcr]; simp [qa8,trp]
   by_cases h3:o = 3
   ·subst h3; rw [qcr]; simp [qa8,trp]
   by_cases h4:o = 4
   ·subst h4
    have h':qlo vs s = (t,0):=by simpa [Ex.ty] using ht
    have hval:qa8 vs env (.mk 4 n s l) = ((env[vs.findIdx (fun v=>v.name == s)]?).getD ⟨0,0⟩,0):=by simp [qa8]
    unfold qlo at h'
    cases hq:vs.find? fun v=>v.name == s with
    | none=>rw [hq] at h'; simp at h'
    | some v=>
     obtain ⟨hlt,_⟩:=qiJ hq
     have hlen:=qI2 he
     have hlt':vs.findIdx (fun v=>v.name == s) < env.length:=by omega
     have hs:qgE (fun v:Va=>v.name == s) (fun _=>0) 1 vs = 0:=by unfold qgE; rw [hq]
     rw [qcr,ev_br,show ((4:Int) == 1) = false from rfl,cond_false,ev_br,show ((4:Int) == 2) = false from rfl,cond_false,ev_br,show ((4:Int) == 3) = false from rfl,cond_false,
      ev_br,show ((4:Int) == 4) = true from rfl,cond_true,List.length_map,qz6 hv hlen,hs,hval,List.getElem?_eq_getElem hlt']
     simp only [pj_some,if_true,ev_bi_some,ev_at,ql0 hlt',ql1 hlt',Option.getD_some]
   obtain ⟨hr,hall⟩:=qvy h1 h2 h3 h4 ht
   have hty:∀ e ∈ l,Ex.ty vs e = ((Ex.ty vs e).1,0):=fun e hm=>by rw [<- hall e hm]
   have hG:∀ x ∈ l,qck k x.op x.num x.txt (EX x.args) (EV vs) (EL env) = some (trp (qa8 vs env x)):=fun x hx=>
    ih x hx (by have:=Ex.nodesL_mem hx; omega) (hf2 x hx) _ (hty x hx) k (by have:=Ex.depL_mem hx; omega)
   by_cases h19:o = 19
   ·subst h19
    have hval:qa8 vs env (.mk 19 n s l) = qAC vs env l:=by simp [qa8]
    rw [q26,hval]
    match l,hr,hG,hf2,hall with
    | [c,a,b],hr,hG,hf2,hall=>
     obtain ⟨_,_,q0,q1,q2⟩:=qd2 hr
     have i0:=hG c (by simp)
     have i1:=hG a (by simp)
     have i2:=hG b (by simp)
     have k0:qaD [CS.int IntKind.i64,CS.int IntKind.i64,CS.str,CS.slice 4] (EX [c,a,b]) 0 = true:=okX (l:=[c,a,b]) (n:=0) (by simp)
     have k1:qaD [CS.int IntKind.i64,CS.int IntKind.i64,CS.str,CS.slice 4] (EX [c,a,b]) 1 = true:=okX (l:=[c,a,b]) (n:=1) (by simp)
     have k2:qaD [CS.int IntKind.i64,CS.int IntKind.i64,CS.str,CS.slice 4] (EX [c,a,b]) 2 = true:=okX (l:=[c,a,b]) (n:=2) (by simp)
     have a0:intOf (cellAt (EX [c,a,b]) 0 0) = c.op:=qx0 (l:=[c,a,b]) (n:=0) (by simp)
     have a1:intOf (cellAt (EX [c,a,b]) 0 1) = c.num:=qx1 (l:=[c,a,b]) (n:=0) (by simp)
     have a2:strOf (cellAt (EX [c,a,b]) 0 2) = c.txt:=qx2 (l:=[c,a,b]) (n:=0) (by simp)
     have a3:qaq (cellAt (EX [c,a,b]) 0 3) = EX c.args:=qx3 (l:=[c,a,b]) (n:=0) (by simp)
     have b0:intOf (cellAt (EX [c,a,b]) 1 0) = a.op:=qx0 (l:=[c,a,b]) (n:=1) (by simp)
     have b1:intOf (cellAt (EX [c,a,b]) 1 1) = a.num:=qx1 (l:=[c,a,b]) (n:=1) (by simp)
     have b2:strOf (cellAt (EX [c,a,b]) 1 2) = a.txt:=qx2 (l:=[c,a,b]) (n:=1) (by simp)
     have b3:qaq (cellAt (EX [c,a,b]) 1 3) = EX a.args:=qx3 (l:=[c,a,b]) (n:=1) (by simp)
     have c0:intOf (cellAt (EX [c,a,b]) 2 0) = b.op:=qx0 (l:=[c,a,b]) (n:=2) (by simp)
     have c1:intOf (cellAt (EX [c,a,b]) 2 1) = b.num:=qx1 (l:=[c,a,b]) (n:=2) (by simp)
     have c2:strOf (cellAt (EX [c,a,b]) 2 2) = b.txt:=qx2 (l:=[c,a,b]) (n:=2) (by simp)
     have c3:qaq (cellAt (EX [c,a,b]) 2 3) = EX b.args:=qx3 (l:=[c,a,b]) (n:=2) (by simp)
     simp only [evI,qAC,ev_br,k0,cond_true,a0,a1,a2,a3,i0,ev_bi_some]
     cases hc:((qa8 vs env c).2 != 0)
     ·have hc0:(qa8 vs env c).2 = 0:=by simpa using hc
      obtain ⟨u1,u2⟩:=qm6 he c (hf2 c (by simp)) _ (hty c (by simp)) hc0
      rw [show (Ex.ty vs c).1 = 5 from q0] at u1
      have hn:=(qbk u1).1 u2
      simp only [cond_false]
      rcases hn with hn | hn
      ·have w:IntKind.i64.wrap (2 - (qa8 vs env c).1.n) = 2:=by rw [hn]; rfl
       rw [w,k2,c0,c1,c2,c3,i2,if_neg (by omega)]
       rfl
      ·have w:IntKind.i64.wrap (2 - (qa8 vs env c).1.n) = 1:=by rw [hn]; rfl
       rw [w,k1,b0,b1,b2,b3,i1,if_pos hn]
       rfl
     ·rfl
    | [],hr,_,_,_=>cases hr
    | [_],hr,_,_,_=>exact absurd (qik hr).2 (by simp [qLP])
    | [_,_],hr,_,_,_=>
     exfalso
     rcases qcs (qcI hr).2.2 with ⟨_,q,_⟩ | ⟨⟨_,q⟩,_⟩ | ⟨q,_⟩ | ⟨q,_⟩ <;> omega
    | a :: b :: c :: d :: l,hr,_,_,_=>
     exfalso
     have:(qaZ 19 ((a :: b :: c :: d :: l).map fun e=>(Ex.ty vs e).1)).2 = false:=by
      unfold qaZ
      cases (List.map (fun e=>(Ex.ty vs e).1) (a :: b :: c :: d :: l)).all qaM <;> rfl
     rw [hr] at this; cases this
   have hval:qa8 vs env (.mk o n s l) = bif (qc3 vs env l).2 != 0 then (⟨0,0⟩,(qc3 vs env l).2) else qdG o (qc3 vs env l).1:=by simp [qa8,h1,h2,h3,h4,h19]
   rw [q27 _ _ _ _ _ _ h1 h2 h3 h4 h19,hval]
   have key:∀ (r i:Nat) (acc:List Vl),i + r = l.length -> acc.length + (l.drop i).length <= 1000 -> (∀ x ∈ acc,qdQ x.n = true) -> (evT (qck k) (qj9 (qck k) (hdE vs env l (i:Int) o n s acc))).ev = some (qAH o acc (qc3 vs env (l.drop i))):=by
    intro r
    induction r with
    | zero=>
     intro i acc hi hb hacc
     have:i = l.length:=by omega
     subst this
     rw [qgS,List.drop_length]
     rw [List.drop_length] at hb
     have h0:=qzc (op:=o) (l:=acc) (by simpa using hb) (fun x hx=>qie.2 (hacc x hx))
     cases acc with
     | nil=>
      rw [qak (j:=1)]
      ·simp (decide:=true) only [evT,hdE,pj_some,if_true,if_false,ev_bi_none,ev_bi_some,sl_inl,ev_br,ev_at,qAH,qc3,List.append_nil]
       rw [show ([]:List AV) = EL [] from rfl,h0]
       rfl
      ·simp [hdE,qcR,qhc]
     | cons a acc=>
      rw [qak (j:=3)]
      ·simp (decide:=true) only [evT,hdE,pj_some,if_true,if_false,ev_bi_none,ev_bi_some,sr_inr,h0,ev_br,ev_at,qAH,qc3,List.append_nil]
       rfl
      ·simp [hdE,qcR,qhd]
    | succ r ihr=>
     intro i acc hi hb hacc
     have hn:i < l.length:=by omega
     have hx:l[i] ∈ l:=List.getElem_mem hn
     have hg:=hG l[i] hx
     rw [drop_at hn] at hb ⊢
     simp only [List.length_cons] at hb
     have hroom:room (acc.length + 1) 16 = true:=qil (by simp only [lim]; omega)
     cases hee:((qa8 vs env l[i]).2 != 0)
     ·have hst:(qcR (qck k) (hdE vs env l (i:Int) o n s acc)).ev = some (.next (hdE vs env l ((i + 1:Nat):Int) o n s (acc ++ [(qa8 vs env l[i]).1]))):=by
       cases acc with
       | nil=>simp only [hdE,qcR,Sum.elim_inl,qhc,qaI hn,okX hn,qx0 hn,qx1 hn,qx2 hn,qx3 hn,hg,hee,ev_br,ev_at,ev_bi_some,cond_true,cond_false,qah hn (show l.length <= big by simp only [big]; omega)]; rfl
       | cons a acc=>
        simp only [List.length_cons] at hroom
        simp only [hdE,qcR,Sum.elim_inr,qhd,qaI hn,okX hn,qx0 hn,qx1 hn,qx2 hn,qx3 hn,hg,hee,ev_br,ev_at,ev_bi_some,cond_true,cond_false,qah hn (show l.length <= big by simp only [big]; omega),List.length_map,List.length_cons,hroom]
        simp [hdE,Vl.av]
      have ihn:=ihr (i + 1) (acc ++ [(qa8 vs env l[i]).1]) (by omega) (by simp only [List.length_append,List.length_cons,List.length_nil]; omega) (by
       intro x hx'
       rcases List.mem_append.1 hx' with hx' | hx'
       ·exact hacc x hx'
       ·rw [List.mem_singleton.1 hx']; exact qPK h64 l[i] (hf2 _ hx))
      rw [qgS] at ihn ⊢
      rw [qaA hst,ihn]
      congr 1
      simp only [qc3,hee,cond_false,qAH]
      cases hz:((qc3 vs env (l.drop (i + 1))).2 != 0)
      ·simp
      ·simp [hz]
     ·have hfin:∀ a:List Vl,qAH o a (qc3 vs env (l[i] :: l.drop (i + 1))) = (0,0,(qa8 vs env l[i]).2):=by
       intro a
       simp only [qc3,hee,cond_true,qAH]
      rw [hfin,qgS]
      cases acc with
      | nil=>
       rw [qak (j:=0)]
       ·simp (decide:=true) only [evT,hdE,pj_some,if_true,ev_bi_some,sl_inl,qx0 hn,qx1 hn,qx2 hn,qx3 hn,hg,gv_some,ev_at]
       ·simp only [hdE,qcR,Sum.elim_inl,qhc,qaI hn,okX hn,qx0 hn,qx1 hn,qx2 hn,qx3 hn,hg,hee,ev_br,ev_at,ev_bi_some,cond_true]
      | cons a acc=>
       rw [qak (j:=2)]
       ·simp (decide:=true) only [evT,hdE,pj_some,if_true,if_false,ev_bi_none,ev_bi_some,sr_inr,qx0 hn,qx1 hn,qx2 hn,qx3 hn,hg,gv_some,ev_at]
       ·simp only [hdE,qcR,Sum.elim_inr,qhd,qaI hn,okX hn,qx0 hn,qx1 hn,qx2 hn,qx3 hn,hg,hee,ev_br,ev_at,ev_bi_some,cond_true]
   have:=key l.length 0 [] (by omega) (by simp; omega) (by simp)
   rw [List.length_map]
   refine (this.trans ?_)
   rw [List.drop_zero,qAH]
   cases (qc3 vs env l).2 != 0 <;> rfl
theorem qzz {vs:List Va} {env:List Vl} (hv:vs.length <= big) (he:qkZ vs env = true) (h64:∀ x ∈ env,qdQ x.n = true) {e:Ex} (h:(ofS e vs).2 = 0):qtM e.op e.num e.txt (EX e.args) (EV vs) (EL env) = some (trp (qa8 vs env e)):=by
 obtain ⟨a,b,c⟩:=qpj h
 exact qb0 (qtA hv he h64 e (by omega) a _ c)
theorem qzy {vs:List Va} {env:List Vl} (hv:vs.length <= big) (hl:env.length <= big) (h64:∀ x ∈ env,qdQ x.n = true) {e:Ex} (h:e.nodes <= big):qob e.op e.num e.txt (EX e.args) (EV vs) (EL env) = some (trp (qrn e vs env)):=by
 rw [qDV,qmx,qy9 hv,qoc hv h,qzd hl]
 simp only [ev_bi_some,ev_br,ev_at,qrn]
 cases qvB vs != 0
 ·cases h1:((ofS e vs).2 != 0)
  ·cases h2:qkZ vs env
   ·rfl
   ·rw [qzz hv h2 h64 (by simpa using h1)]; rfl
  ·rfl
 ·rfl
end Go.Proofs.H15p

/- Products: what the program's printed functions come to. -/
import Derived.Test.YthljpgljbpdmjaaGreatDoorX15pTyp
import Derived.Test.YthljpgljbpdmjaaGreatDoorPrA
set_option linter.unusedVariables false
set_option linter.unusedSimpArgs false
set_option linter.unnecessarySimpa false
namespace Go.Proofs.H15p
open Go Go.Eng Go.Tk
set_option maxRecDepth 20000
theorem qhP {vs:List Va} (hv:vs.length <= big) {e:Ex} (h:e.nodes <= big) (want:Int):qhO e.op e.num e.txt (EX e.args) (EV vs) want = some (qdI e vs want):=by
 rw [qDd,qlO,qoc hv h,qdI]
 cases h1:((ofS e vs).2 == 0)
 ·simp [bne,h1]
 ·have h2:(ofS e vs).2 = 0:=by simpa using h1
  cases h3:((ofS e vs).1 != want) <;> simp [h2,h3]
theorem qE9 (a b c d:Bs):qw0 (.inl (a,b,c,d,0)) = some (1,.inr (a,b,c,d,4,EV [⟨a,2⟩,⟨b,2⟩,⟨c,2⟩,⟨d,2⟩])):=by
 rw [qw1]
 have h0:(qip (.inl (a,b,c,d,0))).ev = some (.next (.inr (a,b,c,d,1,EV [⟨a,2⟩]))):=rfl
 have h1:(qip (.inr (a,b,c,d,1,EV [⟨a,2⟩]))).ev = some (.next (.inr (a,b,c,d,2,EV [⟨a,2⟩,⟨b,2⟩]))):=rfl
 have h2:(qip (.inr (a,b,c,d,2,EV [⟨a,2⟩,⟨b,2⟩]))).ev = some (.next (.inr (a,b,c,d,3,EV [⟨a,2⟩,⟨b,2⟩,⟨c,2⟩]))):=rfl
 have h3:(qip (.inr (a,b,c,d,3,EV [⟨a,2⟩,⟨b,2⟩,⟨c,2⟩]))).ev = some (.next (.inr (a,b,c,d,4,EV [⟨a,2⟩,⟨b,2⟩,⟨c,2⟩,⟨d,2⟩]))):=rfl
 rw [qaA h0,qaA h1,qaA h2,qaA h3]
 exact qak rfl
theorem qFa (a b:Bs) (l:List AV) (hr:room (l.length + 1) 24 = true) (hr2:room ((l ++ [(Va.mk a 1).av]).length + 1) 24 = true):qo8 (.inr (a,b,0,l)) = some (1,.inr (a,b,2,l ++ [(Va.mk a 1).av] ++ [(Va.mk b 1).av])):=by
 rw [qw2]
 have h0:(qqy (.inr (a,b,0,l))).ev = some (.next (.inr (a,b,1,l ++ [(Va.mk a 1).av]))):=by
  show (DT.br (room (l.length + 1) 24) _ _).ev = _
  rw [hr]; rfl
 have h1:(qqy (.inr (a,b,1,l ++ [(Va.mk a 1).av]))).ev = some (.next (.inr (a,b,2,l ++ [(Va.mk a 1).av] ++ [(Va.mk b 1).av]))):=by
  show (DT.br (room ((l ++ [(Va.mk a 1).av]).length + 1) 24) _ _).ev = _
  rw [hr2]; rfl
 rw [qaA h0,qaA h1]
 exact qak rfl
theorem qfy:qfx = some (EV varsP):=by
 rw [qC3,qlE,qE9]
 simp (decide:=true) only [pj_some,if_true,if_false,ev_bi_none,ev_bi_some,sr_inr]
 rw [qFa _ _ _ rfl rfl]
 simp (decide:=true) only [pj_some,if_true,if_false,ev_bi_none,ev_bi_some,sr_inr]
 rfl
theorem qFh {l:List Cu} (hl:l.length <= big) (s:Bs) (z:Bs) (k:Int):qxh (s,EC l,(l.length:Int),0,z,k) = some (qgE (fun c=>c.code == s) (fun _=>0) 1 l,s,EC l,(l.length:Int),((l.findIdx fun c=>c.code == s:Nat):Int),z,k):=by
 rw [qxi]
 refine qaz (hd:=fun i=>(s,EC l,(l.length:Int),(i:Int),z,k)) (jx:=fun _=>0) _ 1 (fun i hn=>?_) ?_
 ·simp only [qqR,qqS,qaI hn,okC hn,qc0 hn,ev_br,ev_at,br_eq,cond_true,qah hn hl]
  cases (l[i].code == s) <;> rfl
 ·simp [qqR,qqS]
theorem qzj {l:List Cu} (hl:l.length <= big) (s:Bs):∃ a b,qnZ (EC l) s = some (a,b,l.any fun c=>c.code == s):=by
 rw [qDC,qmf,List.length_map,qFh hl,qax]
 cases h:l.any (fun c=>c.code == s)
 ·exact ⟨_,_,by simp (decide:=true); exact ⟨rfl,rfl⟩⟩
 ·exact ⟨_,_,by simp (decide:=true); exact ⟨rfl,rfl⟩⟩
theorem qEx (a:Bs) (x y:List AV) (s:Bs):qwa a x y s = some (a == s):=by rw [qJr,qu4]; rfl
theorem qrg {l:List Cal} (hl:l.length <= big) (s:Bs):qJN (EK l) s = some (bif l.any (fun c=>c.name == s) then ((l.findIdx fun c=>c.name == s:Nat):Int) else -1):=by
 have hloop:qKN (EK l,s,(l.length:Int),0) = some (qgE (fun c=>c.name == s) (fun _=>0) 1 l,EK l,s,(l.length:Int),((l.findIdx fun c=>c.name == s:Nat):Int)):=by
  rw [qBD]
  refine qaz (hd:=fun i=>(EK l,s,(l.length:Int),(i:Int))) (jx:=fun _=>0) _ 1 (fun i hn=>?_) ?_
  ·simp only [qxX,quA,qaI hn,okK hn,qk0 hn,qEx,ev_bi_some,ev_br,ev_at,br_eq,cond_true,qah hn hl]
   cases (l[i].name == s) <;> rfl
  ·simp [qxX,quA]
 rw [qRw,qCz,List.length_map,hloop,qax]
 cases h:l.any (fun c=>c.name == s) <;> simp (decide:=true)
def qXp (c:Cal):Prop:=c.wk.length * 8 <= lim /\ c.hol.length * 8 <= lim
theorem qEE {l:List Cal} (hl:l.length <= big) (hc:∀ c ∈ l,qXp c) (s:Bs):∃ a b c,qwh (EK l) s = some (a,b,c,l.any fun c=>c.name == s):=by
 rw [qJC,qve,qrg hl]
 cases h:l.any (fun c=>c.name == s)
 ·exact ⟨_,_,_,by simp (decide:=true); exact ⟨rfl,rfl,rfl⟩⟩
 ·have hi:l.findIdx (fun c=>c.name == s) < l.length:=List.findIdx_lt_length.2 (by simpa using h)
  generalize l.findIdx (fun c=>c.name == s) = i at hi
  obtain ⟨h1,h2⟩:=hc l[i] (List.getElem_mem hi)
  have h3:decide ((i:Int) < 0) = false:=by simp
  simp only [ev_bi_some,cond_true,h3,ev_br,br_eq,cond_false,okK hi,qk0 hi,qk1 hi,qk2 hi]
  have e1:decide (l[i].wk.length * 8 <= lim) = true:=decide_eq_true h1
  have e2:decide (l[i].hol.length * 8 <= lim) = true:=decide_eq_true h2
  by_cases g1:l[i].wk.length = 0
  ·by_cases g2:l[i].hol.length = 0
   ·exact ⟨_,_,_,by simp [g1,g2]; exact ⟨rfl,rfl,rfl⟩⟩
   ·exact ⟨_,_,_,by simp [g1,g2,h2]; exact ⟨rfl,rfl,rfl⟩⟩
  ·by_cases g2:l[i].hol.length = 0
   ·exact ⟨_,_,_,by simp [g1,g2,h1]; exact ⟨rfl,rfl,rfl⟩⟩
   ·exact ⟨_,_,_,by simp [g1,g2,h1,h2]; exact ⟨rfl,rfl,rfl⟩⟩
def qQO (s:Bs) (i:Nat):Bool:=match s[i]? with
 | some c=>!at8 ltB c && (i == 0 || !at8 nmI c)
 | none=>false
theorem qFb {s:Bs} (hl:s.length <= big):∃ w,qw3 (s,(s.length:Int),0) = some (bif (List.range s.length).any (qQO s) then 0 else 1,s,w):=by
 rw [qw4]
 have h:=qa3 (st:=fun v=>(qkL v).ev) (N:=s.length) (hd:=fun i=>(s,(s.length:Int),(i:Int))) (jx:=fun _=>0) (qQO s) 1 (fun i hn=>?_) ?_
 ·rw [qax] at h
  exact ⟨_,h⟩
 ·have e0:((i:Int) == 0) = (i == 0):=by cases i <;> rfl
  simp only [qkL,qqz,qaI hn,qiN hn,qcV hn,e0,ev_br,br_eq,cond_true,qQO,List.getElem?_eq_getElem hn,at8,nmI,ltB]
  have e48:decide ((s[i].toNat:Int) >= 48) = !decide ((s[i].toNat:Int) < 48):=by
   by_cases h:(s[i].toNat:Int) < 48
   ·simp [h]
   ·simp [h]; omega
  have e57:decide ((s[i].toNat:Int) <= 57) = !decide ((s[i].toNat:Int) > 57):=by
   by_cases h:(s[i].toNat:Int) > 57
   ·simp [h]
   ·simp [h]; omega
  simp only [e48,e57,bne,qah hn hl]
  generalize decide ((s[i].toNat:Int) >= 97) = a1
  generalize decide ((s[i].toNat:Int) <= 122) = a2
  generalize (i == 0) = a3
  generalize ((s[i].toNat:Int) == 95) = a4
  generalize decide ((s[i].toNat:Int) < 48) = a5
  generalize decide ((s[i].toNat:Int) > 57) = a6
  cases a1 <;> cases a2 <;> cases a3 <;> cases a4 <;> cases a5 <;> cases a6 <;> rfl
 ·simp [qkL,qqz]
theorem qRg (s:Bs):(!(List.range s.length).any (qQO s) && (decide ((s.length:Int) >= 1) && decide ((s.length:Int) <= 16))) = nmB s:=by
 cases s with
 | nil=>rfl
 | cons c r=>
  have hr:(List.range (c :: r).length).any (qQO (c :: r)) = (!at8 ltB c || r.any fun x=>!at8 nmI x):=by
   rw [List.length_cons,List.range_succ_eq_map,List.any_cons,List.any_map]
   have h0:qQO (c :: r) 0 = !at8 ltB c:=by simp [qQO]
   rw [h0]
   congr 1
   have hlt:∀ x:UInt8,(!at8 ltB x && !at8 nmI x) = !at8 nmI x:=by
    intro x
    simp only [at8,nmI,ltB]
    cases (decide ((x.toNat:Int) >= 97) && decide ((x.toNat:Int) <= 122)) <;> simp
   have hx:∀ i ∈ List.range r.length,(qQO (c :: r) ∘ Nat.succ) i = (match r[i]? with | some x=>!at8 nmI x | none=>false):=by
    intro i hi
    have hi':i < r.length:=by simpa using hi
    simp only [Function.comp,qQO,List.getElem?_cons_succ,List.getElem?_eq_getElem hi']
    have:(Nat.succ i == 0) = false:=rfl
    rw [this,Bool.false_or,hlt]
   rw [Bool.eq_iff_iff,List.any_eq_true,List.any_eq_true]
   constructor
   ·rintro ⟨i,hi,hb⟩
    rw [hx i hi] at hb
    have hi':i < r.length:=by simpa using hi
    rw [List.getElem?_eq_getElem hi'] at hb
    exact ⟨r[i],List.getElem_mem hi',hb⟩
   ·rintro ⟨x,hxm,hb⟩
    obtain ⟨i,hi',rfl⟩:=List.mem_iff_getElem.1 hxm
    refine ⟨i,by simpa using hi',?_⟩
    rw [hx i (by simpa using hi'),List.getElem?_eq_getElem hi']
    exact hb
  rw [hr,nmB]
  have e1:decide ((((c :: r).length:Nat):Int) >= 1) = true:=by simp; omega
  have e2:decide ((((c :: r).length:Nat):Int) <= 16) = decide (r.length < 16):=by
   rw [List.length_cons]; congr 1; exact propext ⟨fun h=>by omega,fun h=>by omega⟩
  rw [e1,e2,List.any_eq_not_all_not]
  cases at8 ltB c <;> cases decide (r.length < 16) <;> simp
theorem qhK {s:Bs} (hl:s.length <= big):qhJ s = some (nmB s):=by
 obtain ⟨w,h⟩:=qFb hl
 rw [qC5,qlG,h,<- qRg]
 cases (List.range s.length).any (qQO s)
 ·cases h1:decide ((s.length:Int) >= 1) <;> cases h2:decide ((s.length:Int) <= 16) <;> simp (decide:=true) [h1,h2]
 ·simp (decide:=true)
theorem qzb (d:Int):qnV d = some (decide (d >= 0) && decide (d <= 73048)):=by
 rw [qDx,qma]
 cases decide (d >= 0) <;> simp
theorem qyZ {p:Pr} {l:List Cu} {c:List Cal} (hn:p.name.length <= big) (hl:l.length <= big) (hc:c.length <= big) (hk:∀ x ∈ c,qXp x) (a:List AV) (b:Bool) (x y:Int) (z:Bool) (a':List AV) (b':Bool) (x' y':Int) (z':Bool) (f r:List AV) :
  qnG p.name p.cur p.cal p.from_ p.every p.over p.tax a b x y z a' b' x' y' z' f r (EC l) (EK c) = some (qEU p l c):=by
 obtain ⟨a1,a2,h1⟩:=qzj hl p.cur
 obtain ⟨b1,b2,b3,h2⟩:=qEE hc hk p.cal
 rw [qC4,qlF,h1,h2,qhK hn,qzb,qEU]
 generalize decide (p.from_ >= 0) = d1
 generalize decide (p.from_ <= 73048) = d2
 generalize decide (p.over < 0) = d3
 generalize decide (p.over > 1000000000000) = d4
 generalize decide (p.tax < 0) = d5
 generalize decide (p.tax > 1000000) = d6
 generalize (p.every == 1) = g1
 generalize (p.every == 3) = g2
 generalize (p.every == 6) = g3
 generalize (p.every == 12) = g4
 generalize nmB p.name = q1
 generalize l.any (fun x=>x.code == p.cur) = q2
 generalize c.any (fun x=>x.name == p.cal) = q3
 clear h1 h2 hn hl hc hk
 have hq:((((((!(d1 && d2)) || !(((g1 || g2) || g3) || g4)) || d3) || d4) || d5) || d6) = (!(d1 && d2) || (!(g1 || (g2 || (g3 || g4))) || (d3 || (d4 || (d5 || d6))))):=by simp only [Bool.or_assoc]
 rw [<- hq,ev_bi_some,ev_bi_some,qd6,ev_bi_some,qd6,ev_bi_some,qd6,ev_bi_some,ev_bi_some,ev_br,ev_br,ev_br,ev_bi_some,qd6,ev_bi_some,qd6,ev_bi_some,qd6,ev_bi_some,qd6,ev_bi_some,qd6,ev_bi_some,ev_br]
 generalize ((((((!(d1 && d2)) || !(((g1 || g2) || g3) || g4)) || d3) || d4) || d5) || d6) = q4
 cases q1 <;> cases q2 <;> cases q3 <;> cases q4 <;> rfl
theorem qz0 {l:List Tr} (hl:l.length <= big) (a:List AV):qoS (a,ETr l,(l.length:Int),0) = some (bif l.any q1r then 0 else 1,a,ETr l,(l.length:Int),((l.findIdx q1r:Nat):Int)):=by
 have h:=qaz (st:=fun v=>(qg6 v).ev) (l:=l) (hd:=fun i=>(a,ETr l,(l.length:Int),(i:Int))) (jx:=fun _=>0) q1r 1 (fun i hn=>?_) ?_
 ·rw [qax] at h
  rw [qsj]; exact h
 ·simp only [qg6,qkm,qaI hn,q1y hn,q1B hn,q3Q hn,ev_br,ev_at,br_eq,cond_true,qah hn hl,q1r]
  cases decide (l[i].from_ < 0) <;> cases decide (l[i].from_ > 1000000000000) <;> cases decide (l[i].ppm < 0) <;> cases decide (l[i].ppm > 1000000) <;> rfl
 ·simp [qg6,qkm]
theorem qy0 (a b:Int):qjG a b = some a:=by rw [qC7,qlI]; rfl
theorem qnA {l:List Tr} (hl:l.length <= big):qv6 (ETr l) = some (!(List.range (l.length - 1)).any (qZv l)):=by
 have hloop:∃ w,qwC (ETr l,1) = some (bif (List.range (l.length - 1)).any (qZv l) then 0 else 1,w):=by
  have h:=qa3 (st:=fun v=>(qkH v).ev) (N:=l.length - 1) (hd:=fun i=>(ETr l,((i + 1:Nat):Int))) (jx:=fun _=>0) (qZv l) 1 (fun i hn=>?_) ?_
  ·rw [qax] at h
   rw [qwD]; exact ⟨_,h⟩
  ·have h1:i + 1 < l.length:=by omega
   have h0:i < l.length:=by omega
   have e1:IntKind.i64.wrap (((i + 1:Nat):Int) - 1) = (i:Int):=by rw [wrap64 (by omega) (by simp only [big] at hl; omega)]; omega
   simp only [qkH,qp9,List.length_map,qaI h1,q1y h1,q1B h1,q3Q h1,e1,q1y h0,q1B h0,q3Q h0,qy0,ev_bi_some,ev_br,ev_at,br_eq,cond_true,qah h1 hl,qZv,List.getElem?_eq_getElem h0,List.getElem?_eq_getElem h1]
   cases decide (l[i + 1].from_ <= l[i].from_) <;> rfl
  ·have:decide (((l.length - 1 + 1:Nat):Int) < (((ETr l).length:Nat):Int)) = false:=by simp; omega
   simp only [qkH,qp9,this]; rfl
 obtain ⟨w,h⟩:=hloop
 rw [qJi,quW,h]
 cases (List.range (l.length - 1)).any (qZv l) <;> simp (decide:=true)
theorem qzk {l:List Tr} (hl:l.length <= big):qn0 (ETr l) = some (qPA l):=by
 rw [qDD,qmg,List.length_map,qz0 hl]
 unfold qPA
 by_cases h6:l.length > 6
 ·have:decide ((l.length:Int) > 6) = true:=by simp; omega
  rw [this,if_pos h6]; rfl
 ·have h6':decide ((l.length:Int) > 6) = false:=by simp; omega
  rw [h6',if_neg h6]
  cases l.any q1r
  ·simp (decide:=true) only [ev_br,br_eq,cond_false,pj_some,if_true,if_false,ev_bi_none,ev_bi_some,qnA hl]
   cases (List.range (l.length - 1)).any (qZv l)
   ·cases l with
    | nil=>simp
    | cons t r=>
     have h0:0 < (t :: r).length:=by simp
     have e1:qaD q7F (ETr (t :: r)) 0 = true:=q1y (n:=0) h0
     have e2:intOf (cellAt (ETr (t :: r)) 0 0) = t.from_:=q1B (n:=0) h0
     have e3:decide ((((ETr (t :: r)).length:Nat):Int) > 0) = true:=by simp
     simp only [Bool.not_false,Bool.not_true,cond_true,cond_false,ev_br,br_eq,e1,e2,e3,ev_bi_some]
     cases (t.from_ != 0) <;> rfl
   ·simp
  ·simp (decide:=true)
theorem qgJ {x:In} (hl:x.tiers.length <= big):qhv (ETr x.tiers) x.marg x.basis x.mode x.keep = some (qsd x):=by
 rw [qJo,qu1,qzk hl,qsd]
 simp only [ev_bi_some,qd6,ev_br,ev_at,Bool.or_assoc]
 cases qPA x.tiers != 0
 ·cases (decide (x.basis < 1) || (decide (x.basis > 4) || (decide (x.mode < 1) || decide (x.mode > 6)))) <;> rfl
 ·rfl
def q5k (x:Fe):Prop:=x.name.length <= big /\ x.when_.nodes <= big /\ x.amount.nodes <= big
def q6N (x:Ru):Prop:=x.name.length <= big /\ x.amount.nodes <= big
theorem qq7:varsP.length <= big:=by decide
theorem qnN {x:Fe} (h:q5k x):qhS x.name x.event x.when_.op x.when_.num x.when_.txt (EX x.when_.args) x.amount.op x.amount.num x.amount.txt (EX x.amount.args) = some (qzR x):=by
 rw [qDk,qlV,qhK h.1,qfy,qzR]
 simp only [ev_bi_some,qd6,ev_br,ev_at,qhP qq7 h.2.1,qhP qq7 h.2.2]
 cases nmB x.name <;> cases (decide (x.event < 1) || decide (x.event > 4)) <;> cases (qdI x.when_ varsP 5 != 0) <;> rfl
theorem qnH {x:Ru} (h:q6N x):qhL x.name x.window x.amount.op x.amount.num x.amount.txt (EX x.amount.args) = some (qll x):=by
 rw [qC6,qlH,qhK h.1,qfy,qll]
 simp only [ev_bi_some,qd6,ev_br,ev_at,qhP qq7 h.2]
 cases nmB x.name <;> cases (decide (x.window < 1) || decide (x.window > 3)) <;> rfl
def hd0 (p:Pr) (i:Int):qer:=(ETr p.cr.tiers,p.cr.marg,p.cr.basis,p.cr.mode,p.cr.keep,ETr p.de.tiers,p.de.marg,p.de.basis,p.de.mode,p.de.keep,i,p.name,p.cur,p.cal,p.from_,p.every,p.over,p.tax,ETr p.cr.tiers,p.cr.marg,p.cr.basis,p.cr.mode,p.cr.keep,ETr p.de.tiers,p.de.marg,p.de.basis,p.de.mode,p.de.keep,EF p.fees,ER p.rules)
theorem qE1 {p:Pr} (h1:p.cr.tiers.length <= big) (h2:p.de.tiers.length <= big):qsD (hd0 p 0) = some (bif qsd p.cr != 0 then 0 else bif qsd p.de != 0 then 1 else 2,hd0 p (bif qsd p.cr != 0 then 0 else bif qsd p.de != 0 then 1 else 2)):=by
 rw [qwM]
 have w0:IntKind.i64.wrap (0 + 1) = 1:=rfl
 have w1:IntKind.i64.wrap (1 + 1) = 2:=rfl
 have e0:(qgF (hd0 p 0)).ev = some (bif qsd p.cr != 0 then .done 0 else .next (hd0 p 1)):=by
  simp (decide:=true) only [hd0,qgF,qqi,qgJ h1,ev_bi_some,ev_br,ev_at,br_eq,cond_true,w0]
  cases qsd p.cr != 0 <;> rfl
 have e1:(qgF (hd0 p 1)).ev = some (bif qsd p.de != 0 then .done 1 else .next (hd0 p 2)):=by
  have n1:decide ((1:Int) = Int.ofNat 0) = false:=by decide
  have n2:decide ((1:Int) = Int.ofNat 1) = true:=by decide
  have n3:decide ((1:Int) < 2) = true:=by decide
  simp only [hd0,qgF,qqi,n1,n2,n3,qgJ h2,ev_bi_some,ev_br,ev_at,br_eq,cond_true,cond_false,w1]
  cases qsd p.de != 0 <;> rfl
 have e2:(qgF (hd0 p 2)).ev = some (.done 2):=rfl
 cases g1:(qsd p.cr != 0)
 ·rw [g1] at e0
  rw [qaA e0]
  cases g2:(qsd p.de != 0)
  ·rw [g2] at e1
   rw [qaA e1,qak e2]; rfl
  ·rw [g2] at e1
   rw [qak e1]; rfl
 ·rw [g1] at e0
  rw [qak e0]; rfl
theorem qE2 {p:Pr} (hl:p.fees.length <= big) (hx:∀ x ∈ p.fees,q5k x) (c1 c2 c3:Bs) (c4 c5 c6 c7:Int) (c8:List AV) (c9:Bool) (c10 c11:Int) (c12:Bool) (c13:List AV) (c14:Bool) (c15 c16:Int) (c17:Bool) (c18 c19:List AV) :
  qwN (EF p.fees,(p.fees.length:Int),0,c1,c2,c3,c4,c5,c6,c7,c8,c9,c10,c11,c12,c13,c14,c15,c16,c17,c18,c19) =
   some (bif p.fees.any (fun x=>qzR x != 0) then 0 else 1,EF p.fees,(p.fees.length:Int),((p.fees.findIdx fun x=>qzR x != 0:Nat):Int),c1,c2,c3,c4,c5,c6,c7,c8,c9,c10,c11,c12,c13,c14,c15,c16,c17,c18,c19):=by
 have h:=qaz (st:=fun v=>(qkJ v).ev) (l:=p.fees) (hd:=fun i=>(EF p.fees,(p.fees.length:Int),(i:Int),c1,c2,c3,c4,c5,c6,c7,c8,c9,c10,c11,c12,c13,c14,c15,c16,c17,c18,c19)) (jx:=fun _=>0) (fun x=>qzR x != 0) 1 (fun i hn=>?_) ?_
 ·rw [qax] at h
  rw [qwO]; exact h
 ·simp only [qkJ,qqj,qaI hn,okF hn,qf0 hn,qf1 hn,qf2 hn,qf3 hn,qf4 hn,qf5 hn,qf6 hn,qf7 hn,qf8 hn,qf9 hn,qnN (hx _ (List.getElem_mem hn)),ev_bi_some,ev_br,ev_at,br_eq,cond_true,qah hn hl]
  cases qzR p.fees[i] != 0 <;> rfl
 ·simp [qkJ,qqj]
theorem qE3 {l:List Ru} (hl:l.length <= big) (hx:∀ x ∈ l,q6N x):qwP (ER l,(l.length:Int),0) = some (bif l.any (fun x=>qll x != 0) then 0 else 1,ER l,(l.length:Int),((l.findIdx fun x=>qll x != 0:Nat):Int)):=by
 have h:=qaz (st:=fun v=>(qkK v).ev) (l:=l) (hd:=fun i=>(ER l,(l.length:Int),(i:Int))) (jx:=fun _=>0) (fun x=>qll x != 0) 1 (fun i hn=>?_) ?_
 ·rw [qax] at h
  rw [qwQ]; exact h
 ·simp only [qkK,qqk,qaI hn,okR hn,qr0 hn,qr1 hn,qr2 hn,qr3 hn,qr4 hn,qr5 hn,qnH (hx _ (List.getElem_mem hn)),ev_bi_some,ev_br,ev_at,br_eq,cond_true,qah hn hl]
  cases qll l[i] != 0 <;> rfl
 ·simp [qkK,qqk]
structure PrOk (p:Pr):Prop where
 name:p.name.length <= big
 crl:p.cr.tiers.length <= 1000000
 del:p.de.tiers.length <= 1000000
 fel:p.fees.length <= 1000000
 rul:p.rules.length <= 1000000
 fees:∀ x ∈ p.fees,q5k x
 rules:∀ x ∈ p.rules,q6N x
theorem qfY {n:Nat} (h:n <= 1000000):n <= big:=Nat.le_trans h (by decide)
theorem qk6 {α:Type} {f:α -> Int} {l:List α} (h:l.any (fun x=>f x != 0) = true):∃ h':l.findIdx (fun x=>f x != 0) < l.length,f l[l.findIdx fun x=>f x != 0] = qeH f l /\ qeH f l ≠ 0:=by
 rw [qoD]
 cases hf:l.find? (fun x=>f x != 0) with
 | none=>
  rw [List.any_eq_true] at h
  obtain ⟨x,hx,hp⟩:=h
  exact absurd hp (List.find?_eq_none.1 hf x hx)
 | some x=>
  obtain ⟨h',hx⟩:=qiJ hf
  exact ⟨h',by rw [hx],by simpa using List.find?_some hf⟩
theorem qr8 {α:Type} {f:α -> Int} {l:List α} (h:l.any (fun x=>f x != 0) = false):qeH f l = 0:=by
 rw [qoD]
 cases hf:l.find? (fun x=>f x != 0) with
 | none=>rfl
 | some x=>
  rw [List.any_eq_false] at h
  exact absurd (List.find?_some hf) (h x (List.mem_of_find?_eq_some hf))
theorem qjX {p:Pr} {l:List Cu} {c:List Cal} (hp:PrOk p) (hl:l.length <= big) (hc:c.length <= big) (hk:∀ x ∈ c,qXp x) :
  qhw p.name p.cur p.cal p.from_ p.every p.over p.tax (ETr p.cr.tiers) p.cr.marg p.cr.basis p.cr.mode p.cr.keep (ETr p.de.tiers) p.de.marg p.de.basis p.de.mode p.de.keep (EF p.fees) (ER p.rules) (EC l) (EK c) = some (prS p l c):=by
 have h0:=qE1 (p:=p) (qfY hp.crl) (qfY hp.del)
 simp only [hd0] at h0
 rw [qJH,qvj,qyZ hp.name hl hc hk,h0,prS]
 simp only [ev_bi_some,ev_br,br_eq,ev_at]
 cases qEU p l c != 0
 ·cases g1:(qsd p.cr != 0)
  ·cases g2:(qsd p.de != 0)
   ·simp (decide:=true) only [ev_bi_some,ev_br,br_eq,cond_false,cond_true,pj_some,if_true,if_false,ev_bi_none,List.length_map]
    have e1:decide ((p.fees.length:Int) > 4) = decide (p.fees.length > 4):=by congr 1; exact propext ⟨fun h=>by omega,fun h=>by omega⟩
    have e2:decide ((p.rules.length:Int) > 4) = decide (p.rules.length > 4):=by congr 1; exact propext ⟨fun h=>by omega,fun h=>by omega⟩
    rw [e1,e2,qE2 (qfY hp.fel) hp.fees]
    cases decide (p.fees.length > 4)
    ·cases decide (p.rules.length > 4)
     ·cases h3:p.fees.any (fun x=>qzR x != 0)
      ·have hz:=qr8 h3
       simp (decide:=true) only [ev_bi_some,ev_br,br_eq,cond_false,cond_true,pj_some,if_true,if_false,ev_bi_none,List.length_map,qE3 (qfY hp.rul) hp.rules,Bool.or_self,hz,bne_self_eq_false]
       cases h4:p.rules.any (fun x=>qll x != 0)
       ·simp (decide:=true) [qr8 h4]
       ·obtain ⟨hi,hv,hnz⟩:=qk6 h4
        simp (decide:=true) only [pj_some,if_true,ev_bi_some,cond_true,qr0 hi,qr1 hi,qr2 hi,qr3 hi,qr4 hi,qr5 hi,qnH (hp.rules _ (List.getElem_mem hi)),gv_some,ev_at,hv]
      ·obtain ⟨hi,hv,hnz⟩:=qk6 h3
       have hnz':(qeH qzR p.fees != 0) = true:=by simpa using hnz
       simp (decide:=true) only [ev_bi_some,ev_br,br_eq,cond_false,cond_true,pj_some,if_true,qf0 hi,qf1 hi,qf2 hi,qf3 hi,qf4 hi,qf5 hi,qf6 hi,qf7 hi,qf8 hi,qf9 hi,qnN (hp.fees _ (List.getElem_mem hi)),gv_some,ev_at,hv,hnz',Bool.or_self]
     ·simp
    ·simp
   ·simp (decide:=true) [qgJ (qfY hp.del)]
  ·simp (decide:=true) [qgJ (qfY hp.crl)]
 ·simp
def zcu (e:Ex):Bool:=decide (e.args.length <= 1000000)
def Wm (e:Ex):Prop:=e.allX zcu = true
theorem Wm.len {e:Ex} (h:Wm e):e.args.length <= 1000000:=by
 rw [Wm,Ex.allX_eq,Bool.and_eq_true] at h
 exact of_decide_eq_true h.1
theorem Wm.arg {e x:Ex} (h:Wm e) (hx:x ∈ e.args):Wm x:=by
 rw [Wm,Ex.allX_eq,Bool.and_eq_true,List.all_eq_true] at h
 exact h.2 x hx
def qZX (x:Ex):Int × Int × List UInt8 × List AV:=(x.op,x.num,x.txt,EX x.args)
theorem q3K (o n:Int) (s:Bs) (l:List Ex):(Ex.mk o n s l).op = o:=rfl
theorem qVI (o n:Int) (s:Bs) (l:List Ex):(Ex.mk o n s l).num = n:=rfl
theorem qXl (o n:Int) (s:Bs) (l:List Ex):(Ex.mk o n s l).txt = s:=rfl
theorem qIJ (o n:Int) (s:Bs) (l:List Ex):(Ex.mk o n s l).args = l:=rfl
theorem cx0 {l:List Ex} {n:Nat} (h:n < l.length):intOf (qjy (EX l) n 0) = l[n].op:=by rw [qiE h,qiB]; rfl
theorem cx1 {l:List Ex} {n:Nat} (h:n < l.length):intOf (qjy (EX l) n 1) = l[n].num:=by rw [qiE h,qiB]; rfl
theorem cx2 {l:List Ex} {n:Nat} (h:n < l.length):strOf (qjy (EX l) n 2) = l[n].txt:=by rw [qiE h,qiB]; rfl
theorem cx3 {l:List Ex} {n:Nat} (h:n < l.length):qaq (qjy (EX l) n 3) = EX l[n].args:=by rw [qiE h,qiB]; rfl
theorem px0 {l:List Ex} {n:Nat} (h:n < l.length):okP ksX (EX l) n 0 = true:=by rw [qZU h,qiB]; rfl
theorem sx0 {l:List Ex} {n:Nat} (h:n < l.length):okS (EX l) n 0 4 = true:=by rw [qZV h,qiB]; rfl
theorem zcn {l:List Ex} {n:Nat} (h:n < l.length):q1C (EX l) n 0 [AV.int IntKind.i64 l[n].op,AV.int IntKind.i64 l[n].num,AV.str l[n].txt,AV.view 4 (EX l[n].args)] = EX l:=by
 rw [qR3 h (y:=l[n]) (by rw [qiB]; rfl),List.set_getElem_self]
theorem qCT:∀ (e:Ex),Wm e -> ∀ k,e.dep <= k -> qea k e.op e.num e.txt (EX e.args) = some (qZX e):=by
 intro e
 induction e using Ex.ind with
 | h o m s l ih=>
  intro hw k hk
  have hd:=Ex.dep_pos (.mk o m s l)
  obtain ⟨k,rfl⟩:∃ k',k = k' + 1:=⟨k - 1,by omega⟩
  show (qq0 (qea k) o m s (EX l)).ev = _
  have hlen:l.length <= 1000000:=hw.len
  have key:∀ i,i <= l.length -> qap (fun v=>(qio (qea k) v).ev) (.inr ((l.length:Int),(i:Int),o,m,s,0,0,[],EX l)) = some (1,.inr ((l.length:Int),(l.length:Int),o,m,s,0,0,[],EX l)):=by
   intro i hi
   refine qcG (st:=fun v=>(qio (qea k) v).ev) (hd:=fun i=>.inr ((l.length:Int),(i:Int),o,m,s,0,0,[],EX l)) l.length 1 i hi (fun j _ hj=>?_) ?_
   ·have hx:l[j] ∈ l:=List.getElem_mem hj
    have hxd:=qyR (e:=.mk o m s l) (x:=l[j]) hx
    have hxv:=ih l[j] hx (hw.arg hx) k (by omega)
    simp only [qio,Sum.elim_inr,qqh,List.length_map,qaI hj,qiN hj,Int.toNat_natCast,px0 hj,cx0 hj,cx1 hj,cx2 hj,cx3 hj,sx0 hj,hxv,qZX,zcn hj,ev_br,ev_at,ev_bi_some,cond_true,qah hj (qfY hlen)]
   ·simp [qio,qqh]
  cases l with
  | nil=>
   have h0:qk7 (qea k) (.inl (0,0,o,m,s,0,0,[])) = some (0,.inl (0,0,o,m,s,0,0,[])):=by
    rw [qo6]; exact qak rfl
   have n1:decide ((EX ([]:List Ex)).length = 0) = true:=rfl
   rw [qq0,n1,h0]
   simp (decide:=true) [qZX,q3K,qVI,qXl,qIJ]
  | cons x l=>
   have h0:=key 0 (by omega)
   have h1:qk7 (qea k) (.inr (((x :: l).length:Int),0,o,m,s,0,0,[],EX (x :: l))) = some (1,.inr (((x :: l).length:Int),((x :: l).length:Int),o,m,s,0,0,[],EX (x :: l))):=by rw [qo6]; exact h0
   have n1:decide ((EX (x :: l)).length = 0) = false:=by simp
   have n2:decide ((EX (x :: l)).length ≠ 0) = true:=by simp
   have n3:decide ((EX (x :: l)).length * 56 <= lim) = true:=by rw [List.length_map]; exact decide_eq_true (by simp only [lim]; omega)
   rw [qq0,n1,n2,n3,List.length_map,h1]
   simp (decide:=true) [qZX,q3K,qVI,qXl,qIJ]
theorem qgK {e:Ex} (h:Wm e):qoz e.op e.num e.txt (EX e.args) = some (qZX e):=qb0 (qCT e h)
theorem qyY (p:Pr) (h1:p.cr.tiers.length <= 1000000) (h2:p.de.tiers.length <= 1000000) (f r:List AV) (b:Int):qjF p.name p.cur p.cal p.from_ p.every p.over p.tax (ETr p.cr.tiers) p.cr.marg p.cr.basis p.cr.mode p.cr.keep (ETr p.de.tiers) p.de.marg p.de.basis p.de.mode p.de.keep f r b =
  some (bif decide (b < 0) then (ETr p.de.tiers,p.de.marg,p.de.basis,p.de.mode,p.de.keep) else (ETr p.cr.tiers,p.cr.marg,p.cr.basis,p.cr.mode,p.cr.keep)):=by
 have hc:∀ (t:List Tr),t.length <= 1000000 -> ∀ (a:Bool) (x y:Int) (z:Bool),(DT.br (decide ((ETr t).length = 0)) (DT.at (([]:List AV),a,x,y,z)) (DT.br (decide ((ETr t).length ≠ 0) && decide ((ETr t).length * 16 <= lim)) (DT.at (ETr t,a,x,y,z)) DT.no)).ev = some (ETr t,a,x,y,z):=by
  intro t ht a x y z
  cases t with
  | nil=>rfl
  | cons q t=>
   have n1:decide ((ETr (q :: t)).length = 0) = false:=by simp
   have n2:decide ((ETr (q :: t)).length ≠ 0) = true:=by simp
   have n3:decide ((ETr (q :: t)).length * 16 <= lim) = true:=by rw [List.length_map]; exact decide_eq_true (by simp only [lim]; omega)
   rw [n1,n2,n3]; rfl
 rw [qC2,qlD,ev_br]
 cases decide (b < 0)
 ·exact hc _ h1 _ _ _ _
 ·exact hc _ h2 _ _ _ _
def FeC (x:Fe):Prop:=Wm x.when_ /\ Wm x.amount
def qJ6 (ev:Int) (l:List Fe) (i:Int):List Fe -> qdE
 | []=>.inl (ev,EF l,(l.length:Int),i)
 | acc=>.inr (ev,EF l,(l.length:Int),i,EF acc)
theorem qEP (p:Pr) (hl:p.fees.length <= 1000000) (hx:∀ x ∈ p.fees,FeC x) (t t' r:List AV) (a a' z z':Bool) (x x' y y':Int) (ev:Int):qr7 p.name p.cur p.cal p.from_ p.every p.over p.tax t a x y z t' a' x' y' z' (EF p.fees) r ev =
  some (EF (p.fees.filter fun f=>f.event == ev)):=by
 generalize hL:p.fees = l at *
 have key:∀ (r i:Nat),i + r = l.length -> ∃ j,qap (fun v=>(qgG v).ev) (qJ6 ev l (i:Int) ((l.take i).filter fun f=>f.event == ev)) = some (j,qJ6 ev l (l.length:Int) (l.filter fun f=>f.event == ev)) /\ j = (if (l.filter fun f=>f.event == ev) = [] then 0 else 1):=by
  intro r
  induction r with
  | zero=>
   intro i hi
   have:i = l.length:=by omega
   subst this
   rw [List.take_length]
   cases hf:l.filter (fun f=>f.event == ev) with
   | nil=>exact ⟨_,qak (by simp [qJ6,qgG,qqw]),rfl⟩
   | cons q m=>exact ⟨_,qak (by simp [qJ6,qgG,qqx]),rfl⟩
  | succ r ihr=>
   intro i hi
   have hi':i < l.length:=by omega
   obtain ⟨j,h1,h2⟩:=ihr (i + 1) (by omega)
   refine ⟨j,?_,h2⟩
   rw [<- h1]
   refine qaA ?_
   obtain ⟨hw1,hw2⟩:=hx _ (List.getElem_mem hi')
   have e4:(l.take (i + 1)).filter (fun f=>f.event == ev) = (l.take i).filter (fun f=>f.event == ev) ++ (bif l[i].event == ev then [l[i]] else []):=by
    rw [List.take_succ_eq_append_getElem hi',List.filter_append]
    cases hq:(l[i].event == ev) <;> simp [hq]
   have hlen2:((l.take i).filter fun f=>f.event == ev).length <= 1000000:=Nat.le_trans (List.length_filter_le _ _) (by simp; omega)
   rw [e4]
   generalize (l.take i).filter (fun f=>f.event == ev) = acc at hlen2
   cases acc with
   | nil=>
    simp only [qJ6,qgG,Sum.elim_inl,qqw,qaI hi',okF hi',qf0 hi',qf1 hi',qf2 hi',qf3 hi',qf4 hi',qf5 hi',qf6 hi',qf7 hi',qf8 hi',qf9 hi',qgK hw1,qgK hw2,ev_br,ev_at,ev_bi_some,cond_true,qah hi' (qfY hl),qZX]
    cases hq:(l[i].event == ev) <;> rfl
   | cons q acc=>
    have hroom:room ((EF (q :: acc)).length + 1) 136 = true:=qil (by simp only [lim,List.length_map]; omega)
    simp only [qJ6,qgG,Sum.elim_inr,qqx,qaI hi',okF hi',qf0 hi',qf1 hi',qf2 hi',qf3 hi',qf4 hi',qf5 hi',qf6 hi',qf7 hi',qf8 hi',qf9 hi',qgK hw1,qgK hw2,ev_br,ev_at,ev_bi_some,cond_true,qah hi' (qfY hl),qZX,hroom]
    cases hq:(l[i].event == ev)
    ·simp [qJ6]
    ·simp [qJ6,Fe.av]
 obtain ⟨j,h1,rfl⟩:=key l.length 0 (by omega)
 have hloop:qwY (.inl (ev,EF l,(l.length:Int),0)) = some (if (l.filter fun f=>f.event == ev) = [] then 0 else 1,qJ6 ev l (l.length:Int) (l.filter fun f=>f.event == ev)):=by rw [qwZ]; exact h1
 rw [qJW,qvx,List.length_map,hloop]
 cases l.filter (fun f=>f.event == ev) with
 | nil=>simp (decide:=true) [qJ6]
 | cons q m=>simp (decide:=true) [qJ6]
theorem qrP {a b:In} (ha:a.tiers.length <= 1000000) (hb:b.tiers.length <= 1000000):qox (ETr a.tiers) a.marg a.basis a.mode a.keep (ETr b.tiers) b.marg b.basis b.mode b.keep = some (qfZ a b):=by
 rw [qJj,quX,List.length_map,List.length_map,qfZ]
 by_cases hl:a.tiers.length = b.tiers.length
 ·have e1:((a.tiers.length:Int) != (b.tiers.length:Int)) = false:=by simp [hl]
  have e2:(a.tiers.length == b.tiers.length) = true:=by simp [hl]
  have hloop:∃ i,qwE ((a.tiers.length:Int),0,ETr a.tiers,a.marg,a.basis,a.mode,a.keep,ETr b.tiers,b.marg,b.basis,b.mode,b.keep) = some (bif (List.range a.tiers.length).any (qhs eqT a.tiers b.tiers) then 0 else 1,(a.tiers.length:Int),i,ETr a.tiers,a.marg,a.basis,a.mode,a.keep,ETr b.tiers,b.marg,b.basis,b.mode,b.keep):=by
   have h:=qa3 (st:=fun v=>(qkI v).ev) (N:=a.tiers.length) (hd:=fun i=>((a.tiers.length:Int),(i:Int),ETr a.tiers,a.marg,a.basis,a.mode,a.keep,ETr b.tiers,b.marg,b.basis,b.mode,b.keep)) (jx:=fun _=>0) (qhs eqT a.tiers b.tiers) 1 (fun i hn=>?_) ?_
   ·rw [qax] at h
    rw [qwF]; exact ⟨_,h⟩
   ·have hn':i < b.tiers.length:=by omega
    simp only [qkI,qqa,qaI hn,q1y hn,q1y hn',q1B hn,q3Q hn,q1B hn',q3Q hn',ev_br,ev_at,cond_true,qah hn (qfY ha),if_true,qhs,List.getElem?_eq_getElem hn,List.getElem?_eq_getElem hn',eqT]
    cases (a.tiers[i].from_ == b.tiers[i].from_ && (a.tiers[i].ppm == b.tiers[i].ppm && true)) <;> rfl
   ·simp [qkI,qqa]
  obtain ⟨i,h⟩:=hloop
  rw [e1,e2,h]
  cases (List.range a.tiers.length).any (qhs eqT a.tiers b.tiers)
  ·simp (decide:=true) only [ev_bi_none,ev_bi_some,ev_br,ev_at,cond_false,cond_true,pj_some,if_true,if_false,Bool.false_eq_true,qnr,Bool.and_assoc,Bool.not_false,Bool.true_and]
  ·simp (decide:=true)
 ·have e1:((a.tiers.length:Int) != (b.tiers.length:Int)) = true:=by simp; omega
  have e2:(a.tiers.length == b.tiers.length) = false:=by simpa using hl
  rw [e1,e2]; rfl
theorem qzA:∀ (e:Ex),Wd e -> ∀ (f:Ex),Wd f -> ∀ k,2 * e.dep <= k -> (qaR k).1 e.op e.num e.txt (EX e.args) f.op f.num f.txt (EX f.args) = some (qdc e f):=by
 intro e
 induction e using Ex.ind with
 | h o n s l ih=>
  intro hw f hf k hk
  have hd:=Ex.dep_pos (.mk o n s l)
  obtain ⟨k,rfl⟩:∃ k',k = k' + 2:=⟨k - 2,by omega⟩
  obtain ⟨o',n',s',m⟩:=f
  have hlen:l.length <= big:=hw.len
  have hEq:(qaR (k + 1)).2 (EX l) (EX m) = some (qpY l m):=by
   show (qCw (qaR k).1 (qaR k).2 (EX l) (EX m)).ev = _
   rw [qCw,qgD,qeQ,List.length_map,List.length_map]
   by_cases hl:l.length = m.length
   ·have e1:((l.length:Int) != (m.length:Int)) = false:=by simp [hl]
    have e2:(l.length == m.length) = true:=by simp [hl]
    have hloop:∃ w,qKK (qaR k).1 (qaR k).2 (EX m,EX l,(l.length:Int),0) = some (bif (List.range l.length).any (qhs qdc l m) then 0 else 1,w):=by
     have h:=qa3 (st:=fun v=>(qsU (qaR k).1 (qaR k).2 v).ev) (N:=l.length) (hd:=fun i=>(EX m,EX l,(l.length:Int),(i:Int))) (jx:=fun _=>0) (qhs qdc l m) 1 (fun i hn=>?_) ?_
     ·rw [qax] at h
      rw [qBv]; exact ⟨_,h⟩
     ·have hn':i < m.length:=by omega
      have hxd:=qyR (e:=.mk o n s l) (x:=l[i]) (List.getElem_mem hn)
      have hv:=ih l[i] (List.getElem_mem hn) (hw.arg (List.getElem_mem hn)) m[i] (hf.arg (List.getElem_mem hn')) k (by omega)
      simp only [qsU,quv,qaI hn,okX hn,okX hn',qx0 hn,qx1 hn,qx2 hn,qx3 hn,qx0 hn',qx1 hn',qx2 hn',qx3 hn',hv,ev_bi_some,ev_br,ev_at,cond_true,qah hn hlen,qhs,List.getElem?_eq_getElem hn,List.getElem?_eq_getElem hn']
      cases qdc l[i] m[i] <;> rfl
     ·simp [qsU,quv]
    obtain ⟨w,h⟩:=hloop
    rw [e1,e2,h]
    cases (List.range l.length).any (qhs qdc l m) <;> simp (decide:=true)
   ·have e1:((l.length:Int) != (m.length:Int)) = true:=by simp; omega
    have e2:(l.length == m.length) = false:=by simpa using hl
    rw [e1,e2]; rfl
  show (qmy (qaR (k + 1)).1 (qaR (k + 1)).2 o n s (EX l) o' n' s' (EX m)).ev = _
  rw [qmy,hEq,qdc]
  simp only [sm_some,gv_some]
  cases (o == o') <;> cases (n == n') <;> cases (s == s') <;> rfl
theorem qhZ {e f:Ex} (he:Wd e) (hf:Wd f):qfE e.op e.num e.txt (EX e.args) f.op f.num f.txt (EX f.args) = some (qdc e f):=qb0 (qzA e he f hf)
def FeW (x:Fe):Prop:=Wd x.when_ /\ Wd x.amount
theorem qEz {x y:Fe} (hx:FeW x) (hy:FeW y):qwe x.name x.event x.when_.op x.when_.num x.when_.txt (EX x.when_.args) x.amount.op x.amount.num x.amount.txt (EX x.amount.args) y.name y.event y.when_.op y.when_.num y.when_.txt (EX y.when_.args) y.amount.op y.amount.num y.amount.txt (EX y.amount.args) = some (qdf x y):=by
 rw [qJv,qu8,qhZ hx.1 hy.1,qhZ hx.2 hy.2,qdf]
 simp only [sm_some,gv_some]
 cases (x.name == y.name) <;> cases (x.event == y.event) <;> cases qdc x.when_ y.when_ <;> cases qdc x.amount y.amount <;> rfl
theorem qEA {x y:Ru} (hx:Wd x.amount) (hy:Wd y.amount):qwf x.name x.window x.amount.op x.amount.num x.amount.txt (EX x.amount.args) y.name y.window y.amount.op y.amount.num y.amount.txt (EX y.amount.args) = some (qdg x y):=by
 rw [qJw,qu9,qhZ hx hy,qdg]
 simp only [sm_some,gv_some]
 cases (x.name == y.name) <;> cases (x.window == y.window) <;> cases qdc x.amount y.amount <;> rfl
theorem qvX {l m:List Fe} (hlen:l.length <= 1000000) (hl':∀ x ∈ l,FeW x) (hm':∀ x ∈ m,FeW x):qJx (EF l) (EF m) = some (qeQ qdf l m):=by
 rw [qRv,qCy,qeQ,List.length_map,List.length_map]
 by_cases hl:l.length = m.length
 ·have e1:((l.length:Int) != (m.length:Int)) = false:=by simp [hl]
  have e2:(l.length == m.length) = true:=by simp [hl]
  have hloop:∃ w,qKM (EF m,EF l,(l.length:Int),0) = some (bif (List.range l.length).any (qhs qdf l m) then 0 else 1,w):=by
   have h:=qa3 (st:=fun v=>(qsY v).ev) (N:=l.length) (hd:=fun i=>(EF m,EF l,(l.length:Int),(i:Int))) (jx:=fun _=>0) (qhs qdf l m) 1 (fun i hn=>?_) ?_
   ·rw [qax] at h
    rw [qBA]; exact ⟨_,h⟩
   ·have hn':i < m.length:=by omega
    simp only [qsY,quz,qaI hn,okF hn,okF hn',qf0 hn,qf1 hn,qf2 hn,qf3 hn,qf4 hn,qf5 hn,qf6 hn,qf7 hn,qf8 hn,qf9 hn,qf0 hn',qf1 hn',qf2 hn',qf3 hn',qf4 hn',qf5 hn',qf6 hn',qf7 hn',qf8 hn',qf9 hn',qEz (hl' _ (List.getElem_mem hn)) (hm' _ (List.getElem_mem hn')),ev_bi_some,ev_br,ev_at,cond_true,qah hn (qfY hlen),qhs,List.getElem?_eq_getElem hn,List.getElem?_eq_getElem hn']
    cases qdf l[i] m[i] <;> rfl
   ·simp [qsY,quz]
  obtain ⟨w,h⟩:=hloop
  rw [e1,e2,h]
  cases (List.range l.length).any (qhs qdf l m) <;> simp (decide:=true)
 ·have e1:((l.length:Int) != (m.length:Int)) = true:=by simp; omega
  have e2:(l.length == m.length) = false:=by simpa using hl
  rw [e1,e2]; rfl
theorem qtC {l m:List Ru} (hlen:l.length <= 1000000) (hl':∀ x ∈ l,Wd x.amount) (hm':∀ x ∈ m,Wd x.amount):qEw (ER l) (ER m) = some (qeQ qdg l m):=by
 rw [qRu,qCx,qeQ,List.length_map,List.length_map]
 by_cases hl:l.length = m.length
 ·have e1:((l.length:Int) != (m.length:Int)) = false:=by simp [hl]
  have e2:(l.length == m.length) = true:=by simp [hl]
  have hloop:∃ w,qKL (ER m,ER l,(l.length:Int),0) = some (bif (List.range l.length).any (qhs qdg l m) then 0 else 1,w):=by
   have h:=qa3 (st:=fun v=>(qsX v).ev) (N:=l.length) (hd:=fun i=>(ER m,ER l,(l.length:Int),(i:Int))) (jx:=fun _=>0) (qhs qdg l m) 1 (fun i hn=>?_) ?_
   ·rw [qax] at h
    rw [qBw]; exact ⟨_,h⟩
   ·have hn':i < m.length:=by omega
    simp only [qsX,quw,qaI hn,okR hn,okR hn',qr0 hn,qr1 hn,qr2 hn,qr3 hn,qr4 hn,qr5 hn,qr0 hn',qr1 hn',qr2 hn',qr3 hn',qr4 hn',qr5 hn',qEA (hl' _ (List.getElem_mem hn)) (hm' _ (List.getElem_mem hn')),ev_bi_some,ev_br,ev_at,cond_true,qah hn (qfY hlen),qhs,List.getElem?_eq_getElem hn,List.getElem?_eq_getElem hn']
    cases qdg l[i] m[i] <;> rfl
   ·simp [qsX,quw]
  obtain ⟨w,h⟩:=hloop
  rw [e1,e2,h]
  cases (List.range l.length).any (qhs qdg l m) <;> simp (decide:=true)
 ·have e1:((l.length:Int) != (m.length:Int)) = true:=by simp; omega
  have e2:(l.length == m.length) = false:=by simpa using hl
  rw [e1,e2]; rfl
structure PrW (p:Pr):Prop where
 crl:p.cr.tiers.length <= 1000000
 del:p.de.tiers.length <= 1000000
 fel:p.fees.length <= 1000000
 rul:p.rules.length <= 1000000
 fees:∀ x ∈ p.fees,FeW x
 rules:∀ x ∈ p.rules,Wd x.amount
theorem qnF {p q:Pr} (hp:PrW p) (hq:PrW q):qfw p.name p.cur p.cal p.from_ p.every p.over p.tax (ETr p.cr.tiers) p.cr.marg p.cr.basis p.cr.mode p.cr.keep (ETr p.de.tiers) p.de.marg p.de.basis p.de.mode p.de.keep (EF p.fees) (ER p.rules)
  q.name q.cur q.cal q.from_ q.every q.over q.tax (ETr q.cr.tiers) q.cr.marg q.cr.basis q.cr.mode q.cr.keep (ETr q.de.tiers) q.de.marg q.de.basis q.de.mode q.de.keep (EF q.fees) (ER q.rules) = some (qhC p q):=by
 rw [qC1,qlC,qrP hp.crl hq.crl,qrP hp.del hq.del,qvX hp.fel hp.fees hq.fees,qtC hp.rul hp.rules hq.rules,qhC]
 generalize (p.name == q.name) = b1
 generalize (p.cur == q.cur) = b2
 generalize (p.cal == q.cal) = b3
 generalize (p.from_ != q.from_) = b4
 generalize (p.every != q.every) = b5
 generalize (p.over != q.over) = b6
 generalize (p.tax != q.tax) = b7
 generalize qfZ p.cr q.cr = b8
 generalize qfZ p.de q.de = b9
 generalize qeQ qdf p.fees q.fees = b10
 generalize qeQ qdg p.rules q.rules = b11
 have hz:((((((!b1 || !b2) || !b3) || b4) || b5) || b6) || b7) = ((!b1) || ((!b2) || ((!b3) || (b4 || (b5 || (b6 || b7)))))):=by simp only [Bool.or_assoc]
 rw [<- hz,qd6,ev_bi_some,qd6,ev_bi_some,qd6,ev_bi_some,qd6,ev_bi_some,qd6,ev_bi_some,qd6,ev_bi_some,ev_br]
 generalize ((((((!b1 || !b2) || !b3) || b4) || b5) || b6) || b7) = z
 cases z <;> cases b8 <;> cases b9 <;> cases b10 <;> cases b11 <;> rfl
def giroP:Pr:=⟨[103,105,114,111],[69,85,82],[104,111,109,101],0,1,0,0,⟨[],false,2,6,false⟩,⟨[],false,2,6,false⟩,[⟨[108,111,119],1,.mk 12 0 [] [.mk 4 0 [98,97,108,97,110,99,101] [],.mk 2 100 [] []],.mk 2 5 [] []⟩],[]⟩
def qRz:Pr:=⟨[103,105,114,111],[69,85,82],[104,111,109,101],0,2,0,0,⟨[],false,2,6,false⟩,⟨[],false,2,6,false⟩,[⟨[108,111,119],1,.mk 12 0 [] [.mk 4 0 [98,97,108,97,110,99,101] [],.mk 2 100 [] []],.mk 2 5 [] []⟩],[]⟩
theorem qiM:q5k ⟨[108,111,119],1,.mk 12 0 [] [.mk 4 0 [98,97,108,97,110,99,101] [],.mk 2 100 [] []],.mk 2 5 [] []⟩ /\ FeC ⟨[108,111,119],1,.mk 12 0 [] [.mk 4 0 [98,97,108,97,110,99,101] [],.mk 2 100 [] []],.mk 2 5 [] []⟩ /\ FeW ⟨[108,111,119],1,.mk 12 0 [] [.mk 4 0 [98,97,108,97,110,99,101] [],.mk 2 100 [] []],.mk 2 5 [] []⟩:=by
 exact ⟨⟨by decide,by decide,by decide⟩,⟨show Ex.allX _ _ = true by kernel_rfl,show Ex.allX _ _ = true by kernel_rfl⟩,⟨show Ex.allX _ _ = true by kernel_rfl,show Ex.allX _ _ = true by kernel_rfl⟩⟩
theorem qRy:PrOk giroP:=⟨by decide,by decide,by decide,by decide,by decide,fun x hx=>by rw [List.mem_singleton.1 hx]; exact qiM.1,fun x hx=>by cases hx⟩
theorem qRA:PrOk qRz:=⟨by decide,by decide,by decide,by decide,by decide,fun x hx=>by rw [List.mem_singleton.1 hx]; exact qiM.1,fun x hx=>by cases hx⟩
theorem qzW:PrW giroP:=⟨by decide,by decide,by decide,by decide,fun x hx=>by rw [List.mem_singleton.1 hx]; exact qiM.2.2,fun x hx=>by cases hx⟩
theorem qZC:PrW qRz:=⟨by decide,by decide,by decide,by decide,fun x hx=>by rw [List.mem_singleton.1 hx]; exact qiM.2.2,fun x hx=>by cases hx⟩
theorem qKQ:qgn = some true:=by
 have hg:qod = some (giroP.name,giroP.cur,giroP.cal,giroP.from_,giroP.every,giroP.over,giroP.tax,ETr giroP.cr.tiers,giroP.cr.marg,giroP.cr.basis,giroP.cr.mode,giroP.cr.keep,ETr giroP.de.tiers,giroP.de.marg,giroP.de.basis,giroP.de.mode,giroP.de.keep,EF giroP.fees,ER giroP.rules):=by
  rw [qDY,qmA]; rfl
 have h1:=qjX (l:=[⟨[69,85,82],2⟩]) (c:=[⟨[104,111,109,101],[],[]⟩]) qRy (by decide) (by decide) (fun x hx=>by rw [List.mem_singleton.1 hx]; exact ⟨by decide,by decide⟩)
 rw [show prS giroP [⟨[69,85,82],2⟩] [⟨[104,111,109,101],[],[]⟩] = 0 by kernel_rfl] at h1
 have h2:=qjX (l:=[⟨[69,85,82],2⟩]) (c:=[⟨[104,111,109,101],[],[]⟩]) qRA (by decide) (by decide) (fun x hx=>by rw [List.mem_singleton.1 hx]; exact ⟨by decide,by decide⟩)
 rw [show prS qRz [⟨[69,85,82],2⟩] [⟨[104,111,109,101],[],[]⟩] = 1 by kernel_rfl] at h2
 have h3:=qEP giroP (by decide) (fun x hx=>by rw [List.mem_singleton.1 hx]; exact qiM.2.1) (ETr giroP.cr.tiers) (ETr giroP.de.tiers) (ER giroP.rules) giroP.cr.marg giroP.de.marg giroP.cr.keep giroP.de.keep giroP.cr.basis giroP.de.basis giroP.cr.mode giroP.de.mode 1
 have h4:=qyY giroP (by decide) (by decide) (EF giroP.fees) (ER giroP.rules) (-1)
 have h5:=qnF qzW qzW
 rw [show qhC giroP giroP = true by kernel_rfl] at h5
 have h6:=qnF qzW qZC
 rw [show qhC giroP qRz = false by kernel_rfl] at h6
 have k2:qhw giroP.name giroP.cur giroP.cal giroP.from_ 2 giroP.over giroP.tax (ETr giroP.cr.tiers) giroP.cr.marg giroP.cr.basis giroP.cr.mode giroP.cr.keep (ETr giroP.de.tiers) giroP.de.marg giroP.de.basis giroP.de.mode giroP.de.keep (EF giroP.fees) (ER giroP.rules) (EC [⟨[69,85,82],2⟩]) (Tk.EK [⟨[104,111,109,101],[],[]⟩]) = some 1:=h2
 have k6:qfw giroP.name giroP.cur giroP.cal giroP.from_ giroP.every giroP.over giroP.tax (ETr giroP.cr.tiers) giroP.cr.marg giroP.cr.basis giroP.cr.mode giroP.cr.keep (ETr giroP.de.tiers) giroP.de.marg giroP.de.basis giroP.de.mode giroP.de.keep (EF giroP.fees) (ER giroP.rules) giroP.name giroP.cur giroP.cal giroP.from_ 2 giroP.over giroP.tax (ETr giroP.cr.tiers) giroP.cr.marg giroP.cr.basis giroP.cr.mode giroP.cr.keep (ETr giroP.de.tiers) giroP.de.marg giroP.de.basis giroP.de.mode giroP.de.keep (EF giroP.fees) (ER giroP.rules) = some false:=h6
 have g1:[AV.agg [AV.str [69,85,82],AV.int IntKind.i64 2]] = EC [⟨[69,85,82],2⟩]:=rfl
 have g2:[AV.agg [AV.str [104,111,109,101],AV.view 1 [],AV.view 1 []]] = Tk.EK [⟨[104,111,109,101],[],[]⟩]:=rfl
 rw [qDK,qmn,hg,qfy,g1,g2]
 rw [ev_bi_some,ev_bi_some]
 simp only [h1,k2,h3,h4,h5,k6,ev_bi_some,sm_some,gv_some]
 rfl
end Go.Proofs.H15p

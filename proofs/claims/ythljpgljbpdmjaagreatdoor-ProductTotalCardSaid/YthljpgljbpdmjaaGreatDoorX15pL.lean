/- Chapter 15: the expressions of a product that is accepted never meet a value of a wrong type. -/
import Derived.Test.YthljpgljbpdmjaaGreatDoorX15pPrs
import Derived.Test.YthljpgljbpdmjaaGreatDoorX15pRtr
import Derived.Test.YthljpgljbpdmjaaGreatDoorPtA
set_option linter.unusedVariables false
set_option linter.unusedSimpArgs false
set_option linter.unnecessarySimpa false
namespace Go.Proofs.H15p
open Go Go.Eng Go.Tk
set_option maxRecDepth 20000
theorem qol:qjQ = some (EV varsP):=by rw [qD9,qmM]; rfl
theorem qdA:∀ (n:Nat) (e:Ex),qbJ n e = false -> e.nodes <= 9 ^ n:=by
 intro n
 induction n with
 | zero=>intro e h; cases h
 | succ n ih=>
  intro e h
  simp only [qbJ,Bool.or_eq_false_iff,decide_eq_false_iff_not,List.any_eq_false] at h
  have h1:e.args.length <= 8:=by omega
  have h2:∀ x ∈ e.args,x.nodes <= 9 ^ n:=fun x hx=>ih x (by simpa using h.2.2 x hx)
  have h3:∀ l:List Ex,(∀ x ∈ l,x.nodes <= 9 ^ n) -> Ex.nodesL l <= l.length * 9 ^ n:=by
   intro l
   induction l with
   | nil=>intro _; simp [Ex.nodesL]
   | cons x l ihl=>
    intro hx
    have a1:=hx x (by simp)
    have a2:=ihl fun y hy=>hx y (by simp [hy])
    simp only [Ex.nodesL,List.length_cons,Nat.add_mul,Nat.one_mul]
    omega
  have h4:=h3 e.args h2
  have h5:e.args.length * 9 ^ n <= 8 * 9 ^ n:=Nat.mul_le_mul_right _ h1
  have h6:1 <= 9 ^ n:=Nat.one_le_pow _ _ (by omega)
  rw [quf,Nat.pow_succ]
  omega
def vlE (b lo vo am co ag da:Int):List Vl:=[⟨2,b⟩,⟨2,lo⟩,⟨2,vo⟩,⟨2,am⟩,⟨1,co⟩,⟨1,ag⟩,⟨4,da⟩]
theorem qnT (b lo vo am co ag da:Int):qhW b lo vo am co ag da = some (EL (vlE b lo vo am co ag da)):=by rw [qDr,ql4]; rfl
theorem qoJ {b lo vo am co ag da:Int} {e:Ex} {want:Int} (hn:e.nodes <= big) (hw:Wd e) (h64:∀ x ∈ vlE b lo vo am co ag da,qdQ x.n = true) (hc:qdI e varsP want = 0) (he:qkZ varsP (vlE b lo vo am co ag da) = true) :
  qhY e.op e.num e.txt (EX e.args) b lo vo am co ag da want = some true:=by
 have hv:varsP.length <= big:=by decide
 have hl:(vlE b lo vo am co ag da).length <= big:=by show (7:Nat) <= big; decide
 rw [qDJ,qmm,qfy,qol]
 simp only [ev_bi_some,qnT,qzy hv hl h64 hn,qzH hv hl h64 hw,trp]
 rcases qRB hc he with ⟨h0,h1⟩ | h | h
 ·simp [h0,h1]
 ·simp [h]
 ·simp [h]
abbrev qET (p:Pr) (b lo vo am co ag da:Int) (n:Nat):qep:=((n:Int),p.name,p.cur,p.cal,p.from_,p.every,p.over,p.tax,ETr p.cr.tiers,p.cr.marg,p.cr.basis,p.cr.mode,p.cr.keep,ETr p.de.tiers,p.de.marg,p.de.basis,p.de.mode,p.de.keep,EF p.fees,ER p.rules,b,lo,vo,am,co,ag,da)
theorem qLt {p:Pr} {b lo vo am co ag da:Int} (hf:qVp p = true) (h64:∀ x ∈ vlE b lo vo am co ag da,qdQ x.n = true) (hc:∀ x ∈ p.fees,qzR x = 0) (he:qkZ varsP (vlE b lo vo am co ag da) = true) :
  qsA (qET p b lo vo am co ag da 0) = some (1,qET p b lo vo am co ag da p.fees.length):=by
 obtain ⟨h1,_,_,_,h5,_⟩:=qAZ hf
 have hb:(9:Nat) ^ 12 <= big:=by decide
 have hbf:p.fees.length <= big:=Nat.le_trans h1 (by decide)
 rw [qwG]
 refine qcG (hd:=qET p b lo vo am co ag da) p.fees.length 1 0 (Nat.zero_le _) (fun n _ h=>?_) ?_
 ·have hm:=List.getElem_mem h
  obtain ⟨c1,c2⟩:=qJZ (hc _ hm)
  obtain ⟨t1,t2⟩:=h5 _ hm
  have hlt:decide ((n:Int) < ((EF p.fees).length:Int)) = true:=by rw [List.length_map]; exact qaI h
  have g1:=qoJ (Nat.le_trans (qdA 12 _ t1) hb) (qkR t1) h64 c1 he
  have g2:=qoJ (Nat.le_trans (qdA 12 _ t2) hb) (qkR t2) h64 c2 he
  simp only [qqb,qqc,qET,hlt,okF h,qf2 h,qf3 h,qf4 h,qf5 h,qf6 h,qf7 h,qf8 h,qf9 h,g1,g2,ev_br,ev_at,ev_bi_some,cond_true,cond_false,Bool.not_true,qah h hbf]
 ·simp [qqb,qqc,qET]
theorem qFk {p:Pr} {b lo vo am co ag da:Int} (hf:qVp p = true) (h64:∀ x ∈ vlE b lo vo am co ag da,qdQ x.n = true) (hc:∀ x ∈ p.rules,qll x = 0) (he:qkZ varsP (vlE b lo vo am co ag da) = true) :
  qsB (qET p b lo vo am co ag da 0) = some (1,qET p b lo vo am co ag da p.rules.length):=by
 obtain ⟨_,h1,_,_,_,h5⟩:=qAZ hf
 have hb:(9:Nat) ^ 12 <= big:=by decide
 have hbf:p.rules.length <= big:=Nat.le_trans h1 (by decide)
 rw [qwH]
 refine qcG (hd:=qET p b lo vo am co ag da) p.rules.length 1 0 (Nat.zero_le _) (fun n _ h=>?_) ?_
 ·have hm:=List.getElem_mem h
  have c2:=qFz (hc _ hm)
  have t2:=h5 _ hm
  have hlt:decide ((n:Int) < ((ER p.rules).length:Int)) = true:=by rw [List.length_map]; exact qaI h
  have g2:=qoJ (Nat.le_trans (qdA 12 _ t2) hb) (qkR t2) h64 c2 he
  simp only [qqd,qqe,qET,hlt,okR h,qr2 h,qr3 h,qr4 h,qr5 h,g2,ev_br,ev_at,ev_bi_some,cond_true,cond_false,Bool.not_true,qah h hbf]
 ·simp [qqd,qqe,qET]
theorem qIF {p:Pr} {b lo vo am co ag da:Int} (hn:p.name.length <= big) (hfn:∀ x ∈ p.fees,x.name.length <= big) (hrn:∀ x ∈ p.rules,x.name.length <= big) (h64:∀ x ∈ vlE b lo vo am co ag da,qdQ x.n = true) :
  qAY p.name p.cur p.cal p.from_ p.every p.over p.tax (ETr p.cr.tiers) p.cr.marg p.cr.basis p.cr.mode p.cr.keep (ETr p.de.tiers) p.de.marg p.de.basis p.de.mode p.de.keep (EF p.fees) (ER p.rules) b lo vo am co ag da = some true:=by
 rw [qJn,qu0,qzK,qKQ,ev_bi_some]
 cases hf:qVp p
 ·rfl
 ·obtain ⟨h1,h2,h3,h4,h5,h6⟩:=qAZ hf
  have hb:(9:Nat) ^ 12 <= big:=by decide
  have hp:PrOk p:=⟨hn,by omega,by omega,by omega,by omega,fun x hx=>⟨hfn x hx,Nat.le_trans (qdA 12 _ (h5 x hx).1) hb,Nat.le_trans (qdA 12 _ (h5 x hx).2) hb⟩,fun x hx=>⟨hrn x hx,Nat.le_trans (qdA 12 _ (h6 x hx)) hb⟩⟩
  have hck:=qjX (l:=[⟨p.cur,0⟩]) (c:=[⟨p.cal,[],[]⟩]) hp (by show (1:Nat) <= big; decide) (by show (1:Nat) <= big; decide) (fun x hx=>by rw [List.mem_singleton.1 hx]; exact ⟨by show (0:Nat) * 8 <= lim; decide,by show (0:Nat) * 8 <= lim; decide⟩)
  have hck':qhw p.name p.cur p.cal p.from_ p.every p.over p.tax (ETr p.cr.tiers) p.cr.marg p.cr.basis p.cr.mode p.cr.keep (ETr p.de.tiers) p.de.marg p.de.basis p.de.mode p.de.keep (EF p.fees) (ER p.rules) [AV.agg [AV.str p.cur,AV.int IntKind.i64 0]] [AV.agg [AV.str p.cal,AV.view 1 [],AV.view 1 []]] = some (prS p [⟨p.cur,0⟩] [⟨p.cal,[],[]⟩]):=hck
  rw [ev_br,Bool.not_true,cond_false,hck',ev_bi_some,ev_br]
  cases hz:(prS p [⟨p.cur,0⟩] [⟨p.cal,[],[]⟩] != 0)
  ·rw [bne_eq_false_iff_eq] at hz
   obtain ⟨q1,q2⟩:=qNz hz
   rw [cond_false,qol,ev_bi_some,qnT,ev_bi_some,qoa (by show (7:Nat) <= big; decide),ev_bi_some,ev_br]
   cases he:qkZ varsP (vlE b lo vo am co ag da)
   ·rfl
   ·have k0:=qLt hf h64 q1 he
    have k1:=qFk hf h64 q2 he
    have k0':qsA (0,p.name,p.cur,p.cal,p.from_,p.every,p.over,p.tax,ETr p.cr.tiers,p.cr.marg,p.cr.basis,p.cr.mode,p.cr.keep,ETr p.de.tiers,p.de.marg,p.de.basis,p.de.mode,p.de.keep,EF p.fees,ER p.rules,b,lo,vo,am,co,ag,da) = some (1,qET p b lo vo am co ag da p.fees.length):=k0
    have k1':qsB (0,p.name,p.cur,p.cal,p.from_,p.every,p.over,p.tax,ETr p.cr.tiers,p.cr.marg,p.cr.basis,p.cr.mode,p.cr.keep,ETr p.de.tiers,p.de.marg,p.de.basis,p.de.mode,p.de.keep,EF p.fees,ER p.rules,b,lo,vo,am,co,ag,da) = some (1,qET p b lo vo am co ag da p.rules.length):=k1
    simp (decide:=true) only [Bool.not_true,cond_false,k0',pj_some,if_true,if_false,ev_bi_none,ev_bi_some,qET,k1',ev_at]
  ·rfl
end Go.Proofs.H15p

/- The document's trees: what they come to. -/
import Derived.Test.YthljpgljbpdmjaaGreatDoorX15pRap
import Derived.Test.YthljpgljbpdmjaaGreatDoorFmA
set_option linter.unusedVariables false
set_option linter.unusedSimpArgs false
set_option linter.unnecessarySimpa false
namespace Go.Proofs.H15p
open Go Go.Eng Go.Tk
set_option maxRecDepth 20000
theorem qoa {vs:List Va} {env:List Vl} (hl:env.length <= big):qjM (EV vs) (EL env) = some (qkZ vs env):=by
 rw [qDT,qmv,List.length_map,List.length_map]
 by_cases hlen:vs.length = env.length
 ·have e0:((vs.length:Int) != (env.length:Int)) = false:=by simp [hlen]
  generalize hq:(fun n:Nat=>match vs[n]?,env[n]? with | some v,some x=>x.ty == v.ty && qa0 x | _,_=>false) = q
  have hE:qkZ vs env = (List.range env.length).all q:=by
   unfold qkZ; rw [<- hq,show (vs.length == env.length) = true by simpa using hlen,Bool.true_and]; rfl
  have L:qoV (EV vs,EL env,0) = some (qgE (fun n=>!q n) (fun _=>0) 1 (List.range env.length),EV vs,EL env,(((List.range env.length).findIdx (fun n=>!q n):Nat):Int)):=by
   rw [qsp]
   refine qa3 env.length (hd:=fun i=>(EV vs,EL env,(i:Int))) _ _ 1 (fun i hn=>?_) ?_
   ·have hn':i < vs.length:=by omega
    have hqi:q i = (env[i].ty == vs[i].ty && qa0 env[i]):=by
     rw [<- hq]; simp only [List.getElem?_eq_getElem hn,List.getElem?_eq_getElem hn']
    have e1:(env[i].ty != vs[i].ty) = !(env[i].ty == vs[i].ty):=rfl
    have e2:qa0 ⟨env[i].ty,env[i].n⟩ = qa0 env[i]:=rfl
    simp only [qi7,qkw,List.length_map,qaI hn,okL hn,okV hn',ql0 hn,ql1 hn,qv1 hn',qh8,ev_br,ev_at,ev_bi_some,cond_true,qah hn hl,hqi,e1,e2]
    cases (env[i].ty == vs[i].ty) <;> cases qa0 env[i] <;> rfl
   ·simp [qi7,qkw]
  rw [ev_br,e0,cond_false,L,hE,qax]
  have:((List.range env.length).any fun n=>!q n) = !(List.range env.length).all q:=by
   rw [List.all_eq_not_any_not,Bool.not_not]
  rw [this]
  cases (List.range env.length).all q <;> rfl
 ·have e0:((vs.length:Int) != (env.length:Int)) = true:=by simp only [bne_iff_ne,ne_eq]; omega
  rw [ev_br,e0,cond_true,ev_at]
  unfold qkZ
  rw [show (vs.length == env.length) = false by simpa using hlen]
  rfl
theorem qAb {vs:List Va} {env:List Vl} (hl:vs.length <= big) (hlen:vs.length = env.length) (o n:Int) (s:Bs) (A:List AV):qo2 (EV vs,EL env,0,o,n,s,A,0,0) = some (qgE (fun v=>v.name == s) (fun _=>0) 1 vs,EV vs,EL env,((vs.findIdx (fun v=>v.name == s):Nat):Int),o,n,s,A,0,0):=by
 rw [qsw]
 refine qaz (hd:=fun i=>(EV vs,EL env,(i:Int),o,n,s,A,0,0)) _ _ 1 (fun i hn=>?_) ?_
 ·simp only [qjd,qkD,List.length_map,qaI hn,okV hn,qv0 hn,okL (show i < env.length by omega),ev_br,ev_at,cond_true,qah hn hl]
  cases (vs[i].name == s) <;> rfl
 ·simp [qjd,qkD]
theorem qRK {o n:Int} {s:Bs} {x3 x4 x5:List AV} (ho:o = 1 \/ o = 2 \/ o = 3):qjP o n s x3 x4 x5 = some (o,n):=by
 rw [qrN,qjn]
 rcases ho with rfl | rfl | rfl <;> rfl
theorem qRL {vs:List Va} {env:List Vl} (hv:vs.length <= big) (hlen:vs.length = env.length) {n t:Int} {s:Bs} {A:List AV} (h':qlo vs s = (t,0)):qjP 4 n s A (EV vs) (EL env) = some (((env[vs.findIdx (fun v=>v.name == s)]?).getD ⟨0,0⟩).ty,((env[vs.findIdx (fun v=>v.name == s)]?).getD ⟨0,0⟩).n):=by
 unfold qlo at h'
 cases hq:vs.find? fun v=>v.name == s with
 | none=>rw [hq] at h'; simp at h'
 | some v=>
  obtain ⟨hlt,_⟩:=qiJ hq
  have hlt':vs.findIdx (fun v=>v.name == s) < env.length:=by omega
  have hs:qgE (fun v:Va=>v.name == s) (fun _=>0) 1 vs = 0:=by unfold qgE; rw [hq]
  rw [qrN,qjn,ev_br,show ((4:Int) == 1) = false from rfl,cond_false,ev_br,show ((4:Int) == 2) = false from rfl,cond_false,ev_br,show ((4:Int) == 3) = false from rfl,cond_false,
   qAb hv hlen,hs,List.getElem?_eq_getElem hlt']
  simp only [pj_some,if_true,ev_bi_some,ev_at,ql0 hlt',ql1 hlt',Option.getD_some]
def qA2 (vs:List Va) (env:List Vl) (l:List Ex) (i:Int) (o n:Int) (s:Bs):List Vl -> qbR
 | []=>.inl (EV vs,EL env,i,o,n,s,EX l,0,0)
 | acc=>.inr (EV vs,EL env,i,o,n,s,EX l,0,0,EL acc)
theorem q3Y (G:Int -> Int -> List UInt8 -> List AV -> List AV -> List AV -> Option qeW) {x0:Int} (x1:Int) (x2:Bs) {x3:List AV} (x4 x5:List AV) (h0:x3.length ≠ 0) (h19:x0 ≠ 19):(qcU G x0 x1 x2 x3 x4 x5).ev =
  (rvT G (qoW G (.inl (x4,x5,0,x0,x1,x2,x3,0,0)))).ev:=by
 rw [qcU,ev_br,show ((x3.length:Int) == 0) = false by rw [beq_eq_false_iff_ne]; omega,cond_false,ev_br,show (x0 == 19) = false by simpa using h19,cond_false]
theorem q3X (G:Int -> Int -> List UInt8 -> List AV -> List AV -> List AV -> Option qeW) (x1:Int) (x2:Bs) {x3:List AV} (x4 x5:List AV) (h0:x3.length ≠ 0):(qcU G 19 x1 x2 x3 x4 x5).ev = (rvI G x3 x4 x5).ev:=by
 rw [qcU,ev_br,show ((x3.length:Int) == 0) = false by rw [beq_eq_false_iff_ne]; omega,cond_false,ev_br,show ((19:Int) == 19) = true from rfl,cond_true]
theorem qtp {vs:List Va} {env:List Vl} (hv:vs.length <= big) (he:qkZ vs env = true) (h64:∀ x ∈ env,qdQ x.n = true):∀ (e:Ex),e.nodes <= 1000 -> e.allX qaF = true -> ∀ t,e.ty vs = (t,0) -> ∀ n,e.dep <= n -> qbV n e.op e.num e.txt (EX e.args) (EV vs) (EL env) = some (trp (qa8 vs env e)):=by
 intro e
 induction e using Ex.ind with
 | h o n s l ih=>
  intro h hf t ht m hm
  have hf0:=hf
  rw [Ex.allX_eq,Bool.and_eq_true,List.all_eq_true] at hf
  obtain ⟨hf1,hf2⟩:=hf
  simp only [Ex.args] at hf2
  simp only [Ex.dep] at hm
  have hll:=Ex.nodesL_len l
  simp only [Ex.nodes] at h
  cases m with
  | zero=>omega
  | succ k=>
   show (qcU (qbV k) o n s (EX l) (EV vs) (EL env)).ev = _
   have hnot:o ≠ 1 /\ o ≠ 2 /\ o ≠ 3 /\ o ≠ 4 /\ l ≠ [] \/ (qcU (qbV k) o n s (EX l) (EV vs) (EL env)).ev = some (trp (qa8 vs env (.mk o n s l))):=by
    rcases qzV hf1 with ⟨ho,rfl,_⟩ | ⟨rfl,rfl,_⟩ | ⟨ho,hl,_⟩ | ⟨rfl,hl,_⟩ | ⟨ho,_,_,hl,_⟩
    ·right
     have hval:qa8 vs env (.mk o n s []) = (⟨o,n⟩,0):=by rcases ho with rfl | rfl | rfl <;> simp [qa8]
     rw [qcU,ev_br,show (((EX []).length:Nat):Int) = 0 from rfl,show ((0:Int) == 0) = true from rfl,cond_true,qRK ho,hval]
     rfl
    ·right
     have h':qlo vs s = (t,0):=by simpa [Ex.ty] using ht
     have hval:qa8 vs env (.mk 4 n s []) = ((env[vs.findIdx (fun v=>v.name == s)]?).getD ⟨0,0⟩,0):=by simp [qa8]
     rw [qcU,ev_br,show (((EX []).length:Nat):Int) = 0 from rfl,show ((0:Int) == 0) = true from rfl,cond_true,qRL hv (qI2 he) h',hval]
     rfl
    ·left; exact ⟨by omega,by omega,by omega,by omega,by rintro rfl; simp at hl⟩
    ·left; exact ⟨by omega,by omega,by omega,by omega,by rintro rfl; simp at hl⟩
    ·left; exact ⟨by omega,by omega,by omega,by omega,by rintro rfl; simp at hl⟩
   rcases hnot with ⟨h1,h2,h3,h4,hne⟩ | hdone
   case inr=>exact hdone
   have hne0:(EX l).length ≠ 0:=by rw [List.length_map]; exact fun e=>hne (List.length_eq_zero_iff.1 e)
   obtain ⟨hr,hall⟩:=qvy h1 h2 h3 h4 ht
   have hty:∀ e ∈ l,Ex.ty vs e = ((Ex.ty vs e).1,0):=fun e hm=>by rw [<- hall e hm]
   have hG:∀ x ∈ l,qbV k x.op x.num x.txt (EX x.args) (EV vs) (EL env) = some (trp (qa8 vs env x)):=fun x hx=>
    ih x hx (by have:=Ex.nodesL_mem hx; omega) (hf2 x hx) _ (hty x hx) k (by have:=Ex.depL_mem hx; omega)
   by_cases h19:o = 19
   ·subst h19
    have hval:qa8 vs env (.mk 19 n s l) = qAC vs env l:=by simp [qa8]
    rw [q3X _ _ _ _ _ hne0,hval]
    match l,hr,hG,hf2,hall with
    | [c,a,b],hr,hG,hf2,hall=>
     obtain ⟨_,_,q0,q1,q2⟩:=qd2 hr
     have i0:=hG c (by simp)
     have i1:=hG a (by simp)
     have i2:=hG b (by simp)
     have k0:qaD [CS.int IntKind.i64,CS.int IntKind.i64,CS.str,CS.slice 4] (EX [c,a,b]) 0 = true:=okX (l:=[c,a,b]) (n:=0) (by simp)
     have k1:qaD [CS.int IntKind.i64,CS.int IntKind.i64,CS.str,CS.slice 4] (EX [c,a,b]) 1 = true:=okX (l:=[c,a,b]) (n:=1) (by simp)
     have k2:qaD [CS.int IntKind.i64,CS.int IntKind.i64,CS.str,CS.slice 4] (EX [c,a,b]) 2 = true:=okX (l:=[c,a,b]) (n:=2) (by simp)
     have a0:intOf (cellAt (EX [c,a,b]) 0 0) = c.op:=qx0 (l:=[c,a,b]) (n:=0) (by simp)
     have a1:intOf (cellAt (EX [c,a,b]) 0 1) = c.num:=qx1 (l:=[c,a,b]) (n:=0) (by simp)
     have a2:strOf (cellAt (EX [c,a,b]) 0 2) = c.txt:=qx2 (l:=[c,a,b]) (n:=0) (by simp)
     have a3:qaq (cellAt (EX [c,a,b]) 0 3) = EX c.args:=qx3 (l:=[c,a,b]) (n:=0) (by simp)
     have b0:intOf (cellAt (EX [c,a,b]) 1 0) = a.op:=qx0 (l:=[c,a,b]) (n:=1) (by simp)
     have b1:intOf (cellAt (EX [c,a,b]) 1 1) = a.num:=qx1 (l:=[c,a,b]) (n:=1) (by simp)
     have b2:strOf (cellAt (EX [c,a,b]) 1 2) = a.txt:=qx2 (l:=[c,a,b]) (n:=1) (by simp)
     have b3:qaq (cellAt (EX [c,a,b]) 1 3) = EX a.args:=qx3 (l:=[c,a,b]) (n:=1) (by simp)
     have c0:intOf (cellAt (EX [c,a,b]) 2 0) = b.op:=qx0 (l:=[c,a,b]) (n:=2) (by simp)
     have c1:intOf (cellAt (EX [c,a,b]) 2 1) = b.num:=qx1 (l:=[c,a,b]) (n:=2) (by simp)
     have c2:strOf (cellAt (EX [c,a,b]) 2 2) = b.txt:=qx2 (l:=[c,a,b]) (n:=2) (by simp)
     have c3:qaq (cellAt (EX [c,a,b]) 2 3) = EX b.args:=qx3 (l:=[c,a,b]) (n:=2) (by simp)
     simp only [rvI,qAC,ev_br,k0,cond_true,a0,a1,a2,a3,i0,ev_bi_some]
     cases hc:((qa8 vs env c).2 != 0)
     ·have hc0:(qa8 vs env c).2 = 0:=by simpa using hc
      obtain ⟨u1,u2⟩:=qm6 he c (hf2 c (by simp)) _ (hty c (by simp)) hc0
      rw [show (Ex.ty vs c).1 = 5 from q0] at u1
      have hn:=(qbk u1).1 u2
      simp only [cond_false]
      rcases hn with hn | hn
      ·have w:IntKind.i64.wrap (2 - (qa8 vs env c).1.n) = 2:=by rw [hn]; rfl
       rw [w,k2,c0,c1,c2,c3,i2,if_neg (by omega)]
       rfl
      ·have w:IntKind.i64.wrap (2 - (qa8 vs env c).1.n) = 1:=by rw [hn]; rfl
       rw [w,k1,b0,b1,b2,b3,i1,if_pos hn]
       rfl
     ·rfl
    | [],hr,_,_,_=>cases hr
    | [_],hr,_,_,_=>exact absurd (qik hr).2 (by simp [qLP])
    | [_,_],hr,_,_,_=>
     exfalso
     rcases qcs (qcI hr).2.2 with ⟨_,q,_⟩ | ⟨⟨_,q⟩,_⟩ | ⟨q,_⟩ | ⟨q,_⟩ <;> omega
    | a :: b :: c :: d :: l,hr,_,_,_=>
     exfalso
     have:(qaZ 19 ((a :: b :: c :: d :: l).map fun e=>(Ex.ty vs e).1)).2 = false:=by
      unfold qaZ
      cases (List.map (fun e=>(Ex.ty vs e).1) (a :: b :: c :: d :: l)).all qaM <;> rfl
     rw [hr] at this; cases this
   have hval:qa8 vs env (.mk o n s l) = bif (qc3 vs env l).2 != 0 then (⟨0,0⟩,(qc3 vs env l).2) else qdG o (qc3 vs env l).1:=by simp [qa8,h1,h2,h3,h4,h19]
   rw [q3Y _ _ _ _ _ hne0 h19,hval]
   have key:∀ (r i:Nat) (acc:List Vl),i + r = l.length -> acc.length + (l.drop i).length <= 1000 -> (∀ x ∈ acc,qdQ x.n = true) -> (rvT (qbV k) (qoW (qbV k) (qA2 vs env l (i:Int) o n s acc))).ev = some (qAH o acc (qc3 vs env (l.drop i))):=by
    intro r
    induction r with
    | zero=>
     intro i acc hi hb hacc
     have:i = l.length:=by omega
     subst this
     rw [qgR,List.drop_length]
     rw [List.drop_length] at hb
     have h0:=qzw (op:=o) (l:=acc) (by simpa using hb) (fun x hx=>qie.2 (hacc x hx))
     cases acc with
     | nil=>
      rw [qak (j:=1)]
      ·simp (decide:=true) only [rvT,qA2,pj_some,if_true,if_false,ev_bi_none,ev_bi_some,sl_inl,ev_br,ev_at,qAH,qc3,List.append_nil]
       rw [show ([]:List AV) = EL [] from rfl,h0]
       rfl
      ·simp [qA2,qcQ,qha]
     | cons a acc=>
      rw [qak (j:=3)]
      ·simp (decide:=true) only [rvT,qA2,pj_some,if_true,if_false,ev_bi_none,ev_bi_some,sr_inr,h0,ev_br,ev_at,qAH,qc3,List.append_nil]
       rfl
      ·simp [qA2,qcQ,qhb]
    | succ r ihr=>
     intro i acc hi hb hacc
     have hn:i < l.length:=by omega
     have hx:l[i] ∈ l:=List.getElem_mem hn
     have hg:=hG l[i] hx
     rw [drop_at hn] at hb ⊢
     simp only [List.length_cons] at hb
     have hroom:room (acc.length + 1) 16 = true:=qil (by simp only [lim]; omega)
     cases hee:((qa8 vs env l[i]).2 != 0)
     ·have hst:(qcQ (qbV k) (qA2 vs env l (i:Int) o n s acc)).ev = some (.next (qA2 vs env l ((i + 1:Nat):Int) o n s (acc ++ [(qa8 vs env l[i]).1]))):=by
       cases acc with
       | nil=>simp only [qA2,qcQ,Sum.elim_inl,qha,List.length_map,qaI hn,okX hn,qx0 hn,qx1 hn,qx2 hn,qx3 hn,hg,hee,ev_br,ev_at,ev_bi_some,cond_true,cond_false,qah hn (show l.length <= big by simp only [big]; omega)]; rfl
       | cons a acc=>
        simp only [List.length_cons] at hroom
        simp only [qA2,qcQ,Sum.elim_inr,qhb,List.length_map,qaI hn,okX hn,qx0 hn,qx1 hn,qx2 hn,qx3 hn,hg,hee,ev_br,ev_at,ev_bi_some,cond_true,cond_false,qah hn (show l.length <= big by simp only [big]; omega),List.length_cons,hroom]
        simp [qA2,Vl.av]
      have ihn:=ihr (i + 1) (acc ++ [(qa8 vs env l[i]).1]) (by omega) (by simp only [List.length_append,List.length_cons,List.length_nil]; omega) (by
       intro x hx'
       rcases List.mem_append.1 hx' with hx' | hx'
       ·exact hacc x hx'
       ·rw [List.mem_singleton.1 hx']; exact qPK h64 l[i] (hf2 _ hx))
      rw [qgR] at ihn ⊢
      rw [qaA hst,ihn]
      congr 1
      simp only [qc3,hee,cond_false,qAH]
      cases hz:((qc3 vs env (l.drop (i + 1))).2 != 0)
      ·simp
      ·simp [hz]
     ·have hfin:∀ a:List Vl,qAH o a (qc3 vs env (l[i] :: l.drop (i + 1))) = (0,0,(qa8 vs env l[i]).2):=by
       intro a
       simp only [qc3,hee,cond_true,qAH]
      rw [hfin,qgR]
      cases acc with
      | nil=>
       rw [qak (j:=0)]
       ·simp (decide:=true) only [rvT,qA2,pj_some,if_true,ev_bi_some,sl_inl,qx0 hn,qx1 hn,qx2 hn,qx3 hn,hg,gv_some,ev_at]
       ·simp only [qA2,qcQ,Sum.elim_inl,qha,List.length_map,qaI hn,okX hn,qx0 hn,qx1 hn,qx2 hn,qx3 hn,hg,hee,ev_br,ev_at,ev_bi_some,cond_true]
      | cons a acc=>
       rw [qak (j:=2)]
       ·simp (decide:=true) only [rvT,qA2,pj_some,if_true,if_false,ev_bi_none,ev_bi_some,sr_inr,qx0 hn,qx1 hn,qx2 hn,qx3 hn,hg,gv_some,ev_at]
       ·simp only [qA2,qcQ,Sum.elim_inr,qhb,List.length_map,qaI hn,okX hn,qx0 hn,qx1 hn,qx2 hn,qx3 hn,hg,hee,ev_br,ev_at,ev_bi_some,cond_true]
   have:=key l.length 0 [] (by omega) (by simp; omega) (by simp)
   refine (this.trans ?_)
   rw [List.drop_zero,qAH]
   cases (qc3 vs env l).2 != 0 <;> rfl
theorem qzx {vs:List Va} {env:List Vl} (hv:vs.length <= big) (he:qkZ vs env = true) (h64:∀ x ∈ env,qdQ x.n = true) {e:Ex} (h:(ofS e vs).2 = 0):qtL e.op e.num e.txt (EX e.args) (EV vs) (EL env) = some (trp (qa8 vs env e)):=by
 obtain ⟨a,b,c⟩:=qpj h
 exact qb0 (qtp hv he h64 e (by omega) a _ c)
theorem qzH {vs:List Va} {env:List Vl} (hv:vs.length <= big) (hl:env.length <= big) (h64:∀ x ∈ env,qdQ x.n = true) {e:Ex} (hw:Wd e):qok e.op e.num e.txt (EX e.args) (EV vs) (EL env) = some (trp (qrn e vs env)):=by
 rw [qD8,qmL,qzG hv,qzO hv hw,qoa hl]
 simp only [ev_bi_some,ev_br,ev_at,qrn]
 cases qvB vs != 0
 ·cases h1:((ofS e vs).2 != 0)
  ·cases h2:qkZ vs env
   ·rfl
   ·rw [qzx hv h2 h64 (by simpa using h1)]; rfl
  ·rfl
 ·rfl
end Go.Proofs.H15p

/- The printer's put: what it comes to. -/
import Derived.Test.YtjhhnkemeegahaaGreatDoorD16a_1
import Derived.Test.YtjhhnkemeegahaaGreatDoorTkA
import Derived.Test.YtjhhnkemeegahaaGreatDoorPsA
import Derived.Test.YtjhhnkemeegahaaGreatDoorP16a
set_option linter.all false
namespace Go.Proofs.H16a
open Go Go.Eng Go.Tk
set_option maxRecDepth 20000
theorem ql8:qgr=some (ES wordsS):=by
 rw[qoh,qfV];rfl
theorem qoD{l:List Bs}(hl:l.length<=big)(s:Bs):qj2 (ES l,s,(l.length:Int),0)=some (qjD (s== ·) (fun _=>0) 1 l,ES l,s,(l.length:Int),((l.findIdx (s== ·):Nat):Int)):=by
 rw[qj3];refine qaP (hd:=fun n=>(ES l,s,(l.length:Int),(n:Int))) (jx:=fun _=>0) (s== ·) 1 (fun n h=>?_) ?_
 ·simp only[qgM,qgN,qaV h,qAf h,qs0 h,ev_br,ev_at,jAa,qar h hl];cases(s==l[n])<;>rfl
 ·simp[qgM,qgN]
theorem qtL{l:List Bs}(hl:l.length<=big)(s:Bs):qtK (ES l) s=some (has l s):=by
 rw[qzx,qnT,qs3,qji,jA5,qoD hl,qaY,has];cases l.any (s== ·)<;>simp
theorem qdi(s:Bs):qbS s=some (qbT s):=by
 rw[qoj,qfW,ql8];simp only[ev_bi_some,qtL (l:=wordsS) (by decide),ev_at,qbT]
theorem qnk{α β:Type}[Inhabited β]{l:List Bs}{n:Nat}(h:n<l.length)(A:Int->Bs->Option β)(N:β->Rd α){d:DT (Rd α)}{y:β}(hA:A (kindP l[n]) l[n]=some y)(hne:l[n].isEmpty=false) :
    (DT.br (decide ((n:Int)<(l.length:Int))) (.br (qaH [CS.str] (ES l) (n:Int)) (.bi (qbS (strOf (cellAt (ES l) (n:Int) 0))) (fun y0=>.br y0
      (.bi (A 5 (strOf (cellAt (ES l) (n:Int) 0))) (fun y1=>.at (N y1)) .no)
      (.br (inB (strOf (cellAt (ES l) (n:Int) 0)).length 0)
       (.bi (br (decide (qak (strOf (cellAt (ES l) (n:Int) 0)) 0 >= 97)) (br (inB (strOf (cellAt (ES l) (n:Int) 0)).length 0) (some (decide (qak (strOf (cellAt (ES l) (n:Int) 0)) 0 <= 122))) none) (some false)) (fun y1=>.br y1
        (.bi (A 1 (strOf (cellAt (ES l) (n:Int) 0))) (fun y2=>.at (N y2)) .no)
        (.bi (A 4 (strOf (cellAt (ES l) (n:Int) 0))) (fun y2=>.at (N y2)) .no)) .no) .no)) .no) .no) d).ev=some (N y):=by
  refine(brT (qaV h)).trans ((brT (qAf h)).trans ?_);rw[qs0 h];generalize l[n]=s at hA hne;refine(biS (qdi s)).trans ?_;unfold kindP at hA;cases hw:qbT s
  · rw [hw] at hA
    refine(brF rfl).trans ?_;cases s with
    |nil=>cases hne
    |cons c r=>
      have e0:inB (c::r).length 0=true:=qa4 (l:=(c::r).length) (n:=0) (by simp);have e1:qak (c::r) 0=(c.toNat:Int):=rfl;have e2:br (decide (qak (c::r) 0>=97)) (br (inB (c::r).length 0) (some (decide (qak (c::r) 0<=122))) none) (some false)=some (at8 qei c):=by
        rw[e0,e1];unfold at8 qei;cases decide ((c.toNat:Int)>=97)<;>rfl
      refine(brT e0).trans ((biS e2).trans ?_);simp only[jA9]at hA;cases hc:at8 qei c
      · rw [hc] at hA
        exact(brF rfl).trans ((biS hA).trans rfl)
      · rw [hc] at hA
        exact(brT rfl).trans ((biS hA).trans rfl)
  · rw [hw] at hA
    exact(brT rfl).trans ((biS hA).trans rfl)
theorem zce(k:Int)(s:Bs)(ln:Int):qdX k s ln=some (ln,ET [⟨k,ln,s⟩]):=by
 rw[qtH,qjk];rfl
theorem qy0(k:Int)(s:Bs)(ln:Int){acc:List AV}(h:room (acc.length+1) 32=true):qeX k s ln acc=some (ln,acc++ET [⟨k,ln,s⟩]):=by
 rw[qUB,qBB];exact(brT h).trans rfl
theorem room_le{a b n:Nat}(h:a<=b)(hb:room b n=true):room a n=true:=by
 unfold room at hb ⊢;rw[jA6]at hb ⊢;exact jAz (jBc n h) hb
abbrev zg7(ln:Int)(l:List Bs):List AV:=ET (l.map (tkP ln))
theorem zwK{l:List Bs}(hl:l.length<=big)(hne:∀s∈l,s.isEmpty=false)(ln:Int):∀(k n:Nat) (acc:List AV),n+k=l.length->room (acc.length+k) 32=true->qaf (fun v=>(qvM v).ev) (Sum.inr (ES l,(l.length:Int),(n:Int),ln,acc))=some (1,Sum.inr (ES l,(l.length:Int),(l.length:Int),ln,acc++zg7 ln (l.drop n))):=by
 intro k
 induction k with
 |zero=>
  intro n acc hn hr;have e:n=l.length:=by omega
  subst e;rw[jC0];rw[qag (j:=1) ?_]
  ·simp
  ·show(qkw (ES l) (l.length:Int) (l.length:Int) ln acc).ev=_;rw[qkw];exact(brF (by simp)).trans rfl
 |succ k ih=>
  intro n acc hn hr;have h:n<l.length:=by omega
  rw[qao (v':=Sum.inr (ES l,(l.length:Int),((n+1:Nat):Int),ln,acc++ET [tkP ln l[n]])) ?_]
  ·rw[ih (n+1) _ (by omega) (by rw[jA2];exact room_le (by simp;omega) hr)]
   congr 3
   rw[<-jC8 h,jAf];rfl
  ·show(qkw (ES l) (l.length:Int) (n:Int) ln acc).ev=_;rw[qkw];rw[<-qar h hl];exact qnk h (fun k s=>qeX k s ln acc) (fun y:Int×List AV=>.next (Sum.inr (ES l,(l.length:Int),IntKind.i64.wrap ((n:Int)+1),y.fst,y.snd))) (qy0 _ _ ln (room_le (by omega) hr)) (hne _ (jAi h))
theorem zwL{l:List Bs}(hl:l.length<=big)(hne:∀s∈l,s.isEmpty=false)(ln:Int):∀(k n:Nat) (acc:List AV),n+k=l.length->room (acc.length+k) 32=true->qaf (fun v=>(qvJ v).ev) (Sum.inr (ES l,(l.length:Int),(n:Int),ln,acc))=some (1,Sum.inr (ES l,(l.length:Int),(l.length:Int),ln,acc++zg7 ln (l.drop n))):=by
 intro k
 induction k with
 |zero=>
  intro n acc hn hr;have e:n=l.length:=by omega
  subst e;rw[jC0];rw[qag (j:=1) ?_]
  ·simp
  ·show(qkt (ES l) (l.length:Int) (l.length:Int) ln acc).ev=_;rw[qkt];exact(brF (by simp)).trans rfl
 |succ k ih=>
  intro n acc hn hr;have h:n<l.length:=by omega
  rw[qao (v':=Sum.inr (ES l,(l.length:Int),((n+1:Nat):Int),ln,acc++ET [tkP ln l[n]])) ?_]
  ·rw[ih (n+1) _ (by omega) (by rw[jA2];exact room_le (by simp;omega) hr)]
   congr 3
   rw[<-jC8 h,jAf];rfl
  ·show(qkt (ES l) (l.length:Int) (n:Int) ln acc).ev=_;rw[qkt];rw[<-qar h hl];exact qnk h (fun k s=>qeX k s ln acc) (fun y:Int×List AV=>.next (Sum.inr (ES l,(l.length:Int),IntKind.i64.wrap ((n:Int)+1),y.fst,y.snd))) (qy0 _ _ ln (room_le (by omega) hr)) (hne _ (jAi h))
theorem zfR{s:Bs}{l:List Bs}(hl:(s::l).length<=big)(hne:∀t∈s::l,t.isEmpty=false)(ln:Int)(hr:room (s::l).length 32=true):qJk (ES (s::l)) ln=some (.inr (ln,zg7 ln (s::l))):=by
 rw[qUM,qBL,jA5,qDh];have h:0<(s::l).length:=by simp
 have e:qaf (fun v=>(qvM v).ev) (Sum.inl (ES (s::l),((s::l).length:Int),0,ln))=some (1,Sum.inr (ES (s::l),((s::l).length:Int),((s::l).length:Int),ln,zg7 ln (s::l))):=by
  rw[qao (v':=Sum.inr (ES (s::l),((s::l).length:Int),((0+1:Nat):Int),ln,ET [tkP ln s])) ?_]
  ·rw[zwK hl hne ln l.length 1 _ (by simp;omega) (by
    have:(ET [tkP ln s]).length+l.length=(s::l).length:=by simp;omega
    rw[this];exact hr)]
   rfl
  ·show(qvN (ES (s::l)) ((s::l).length:Int) ((0:Nat):Int) ln).ev=_;rw[qvN];rw[<-qar h hl];exact qnk h (fun k s=>qdX k s ln) (fun y:Int×List AV=>.next (Sum.inr (ES (s::l),((s::l).length:Int),IntKind.i64.wrap (((0:Nat):Int)+1),y.fst,y.snd))) (zce _ _ ln) (hne _ (jAi h))
 rw[e];exact(biN rfl).trans ((biS rfl).trans rfl)
theorem q5X{s:Bs}{l:List Bs}(hl:(s::l).length<=big)(hne:∀t∈s::l,t.isEmpty=false)(ln:Int){acc:List AV}(hr:room (acc.length+(s::l).length) 32=true):qJj (ES (s::l)) ln acc=some (.inr (ln,acc++zg7 ln (s::l))):=by
 rw[qUE,qBE,jA5,qDd];have h:0<(s::l).length:=by simp
 have e:qaf (fun v=>(qvJ v).ev) (Sum.inl (ES (s::l),((s::l).length:Int),0,ln,acc))=some (1,Sum.inr (ES (s::l),((s::l).length:Int),((s::l).length:Int),ln,acc++zg7 ln (s::l))):=by
  rw[qao (v':=Sum.inr (ES (s::l),((s::l).length:Int),((0+1:Nat):Int),ln,acc++ET [tkP ln s])) ?_]
  ·rw[zwL hl hne ln l.length 1 _ (by simp;omega) (by
    have:(acc++ET [tkP ln s]).length+l.length=acc.length+(s::l).length:=by simp;omega
    rw[this];exact hr)]
   rw[jAf];rfl
  ·show(qvK (ES (s::l)) ((s::l).length:Int) ((0:Nat):Int) ln acc).ev=_;rw[qvK];rw[<-qar h hl];exact qnk h (fun k s=>qeX k s ln acc) (fun y:Int×List AV=>.next (Sum.inr (ES (s::l),((s::l).length:Int),IntKind.i64.wrap (((0:Nat):Int)+1),y.fst,y.snd))) (qy0 _ _ ln (room_le (by simp) hr)) (hne _ (jAi h))
 rw[e];exact(biN rfl).trans ((biS rfl).trans rfl)
theorem qIu:∀{es:List AV},es.all strB=true-> ∃l:List Bs,es=ES l/\ ∀s∈l,s.isEmpty=false
 | [],_=>⟨[],rfl,fun _ h=>nomatch h⟩
 |e::es,h=>by
  simp only[jAw,jA1]at h;obtain⟨l,rfl,hl⟩:=qIu h.2;cases e with
  |str s=>
   refine⟨s::l,rfl,fun t ht=>?_⟩;rcases jAc.1 ht with rfl|ht
   ·simpa[strB]using h.1
   ·exact hl t ht
  |_=>cases h.1
theorem qH0(ln:Int):∀l:List Bs,(ES l).map (tkA ln)=zg7 ln l
 | []=>rfl
 |s::l=>by
  have:=qH0 ln l;simp only[jAs,this,tkA];rfl
theorem qMf{n:Nat}(h:room n 32=true):n<=big:=by
 unfold room at h;rw[jA6]at h;simp only[lim,big]at h ⊢;omega
theorem zfQ:Snd IP 22 putE:=by
 intro a h r h' hm;unfold putE at hm;split at hm
 ·rename_i es sz ln;split at hm
  ·rename_i hsz;subst hsz;simp only[jAt,jAd,jBv (a:=true),jA1,jB9]at hm;obtain⟨⟨h0,h1,h2⟩,rfl,rfl⟩:=hm;obtain⟨l,rfl,hl⟩:=qIu h1;cases l with
   |nil=>cases h0
   |cons s l=>
    rw[jA5]at h2;rw[qH0];exact q9h (ES (s::l),ln) _ (zfR (qMf h2) hl ln h2)
  ·cases hm
 ·rename_i es ln acc;simp only[jAt,jAd,jBv (a:=true),jA1,jB9]at hm;obtain⟨⟨h0,h1,h2⟩,rfl,rfl⟩:=hm;obtain⟨l,rfl,hl⟩:=qIu h1;cases l with
  |nil=>cases h0
  |cons s l=>
   rw[jA5]at h2;rw[qH0];exact q9g (ES (s::l),ln,acc) _ (q5X (qMf (room_le (by simp) h2)) hl ln h2)
 ·cases hm
theorem zf5{P:Program}{IP:Prog}(hP:qCn P IP){f:Nat}{E:Ent}(hS:Snd IP f E):qdW P f (gOf E):=by
 intro a h r h' hg w I m vs H hm hr;unfold gOf at hg;cases hq:(E a h).find? fun p=>p.1 with
 |none=>rw[hq]at hg;cases hg
 |some p=>
  rw[hq]at hg;obtain⟨b,r0,h0⟩:=p;cases hg;have hb:b=true:=jC4 (p:=fun p:Bool×Res×Heap=>p.1) hq;subst hb;obtain⟨n,hn⟩:=qb4.1 (hS _ _ _ _ (jB4 hq));exact(qnb hP n).1 _ _ _ _ _ hn w I m vs H hm hr
theorem put_ok:qdW Tryz.prog 22 (gOf putE):=zf5 progOk zfQ
end Go.Proofs.H16a

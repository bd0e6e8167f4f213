/- The printer's put: what it comes to. -/
import Derived.Test.YtjhhnkemeegahaaGreatDoorD16a_1
import Derived.Test.YtjhhnkemeegahaaGreatDoorTkA
import Derived.Test.YtjhhnkemeegahaaGreatDoorX16Tks
import Derived.Test.YtjhhnkemeegahaaGreatDoorP16a
set_option linter.all false
namespace Go.Proofs.H16a
open Go Go.Eng Go.Tk
set_option maxRecDepth 20000
theorem qi7:qgC=some (ES wordsS):=by
 rw[qoQ,qgf];rfl
theorem qpc{l:List Bs}(hl:l.length<=big)(s:Bs):qkp (ES l,s,(l.length:Int),0)=some (qjX (s== ·) (fun _=>0) 1 l,ES l,s,(l.length:Int),((l.findIdx (s== ·):Nat):Int)):=by
 rw[qkq];refine qaH (hd:=fun n=>(ES l,s,(l.length:Int),(n:Int))) (jx:=fun _=>0) (s== ·) 1 (fun n h=>?_) ?_
 ·simp only[qgZ,qg0,qaR h,qBh h,qs0 h,ev_br,ev_at,jAa,qan h hl];cases(s==l[n])<;>rfl
 ·simp[qgZ,qg0]
theorem quJ{l:List Bs}(hl:l.length<=big)(s:Bs):quI (ES l) s=some (has l s):=by
 rw[qAC,qor,qtU,qjA,jA5,qpc hl,qaP,has];cases l.any (s== ·)<;>simp
theorem qdj(s:Bs):qbU s=some (qbO s):=by
 rw[qoS,qgg,qi7];simp only[ev_bi_some,quJ (l:=wordsS) (by decide),ev_at,qbO]
theorem qnO{α β:Type}[Inhabited β]{l:List Bs}{n:Nat}(h:n<l.length)(A:Int->Bs->Option β)(N:β->Rd α){d:DT (Rd α)}{y:β}(hA:A (kindP l[n]) l[n]=some y)(hne:l[n].isEmpty=false) :
    (DT.br (decide ((n:Int)<(l.length:Int))) (.br (qaD [CS.str] (ES l) (n:Int)) (.bi (qbU (strOf (cellAt (ES l) (n:Int) 0))) (fun y0=>.br y0
      (.bi (A 5 (strOf (cellAt (ES l) (n:Int) 0))) (fun y1=>.at (N y1)) .no)
      (.br (inB (strOf (cellAt (ES l) (n:Int) 0)).length 0)
       (.bi (br (decide (qai (strOf (cellAt (ES l) (n:Int) 0)) 0 >= 97)) (br (inB (strOf (cellAt (ES l) (n:Int) 0)).length 0) (some (decide (qai (strOf (cellAt (ES l) (n:Int) 0)) 0 <= 122))) none) (some false)) (fun y1=>.br y1
        (.bi (A 1 (strOf (cellAt (ES l) (n:Int) 0))) (fun y2=>.at (N y2)) .no)
        (.bi (A 4 (strOf (cellAt (ES l) (n:Int) 0))) (fun y2=>.at (N y2)) .no)) .no) .no)) .no) .no) d).ev=some (N y):=by
  refine(brT (qaR h)).trans ((brT (qBh h)).trans ?_);rw[qs0 h];generalize l[n]=s at hA hne;refine(biS (qdj s)).trans ?_;unfold kindP at hA;cases hw:qbO s
  · rw [hw] at hA
    refine(brF rfl).trans ?_;cases s with
    |nil=>cases hne
    |cons c r=>
      have e0:inB (c::r).length 0=true:=qaW (l:=(c::r).length) (n:=0) (by simp);have e1:qai (c::r) 0=(c.toNat:Int):=rfl;have e2:br (decide (qai (c::r) 0>=97)) (br (inB (c::r).length 0) (some (decide (qai (c::r) 0<=122))) none) (some false)=some (at8 qes c):=by
        rw[e0,e1];unfold at8 qes;cases decide ((c.toNat:Int)>=97)<;>rfl
      refine(brT e0).trans ((biS e2).trans ?_);simp only[jA9]at hA;cases hc:at8 qes c
      · rw [hc] at hA
        exact(brF rfl).trans ((biS hA).trans rfl)
      · rw [hc] at hA
        exact(brT rfl).trans ((biS hA).trans rfl)
  · rw [hw] at hA
    exact(brT rfl).trans ((biS hA).trans rfl)
theorem zdC(k:Int)(s:Bs)(ln:Int):qd4 k s ln=some (ln,ET [⟨k,ln,s⟩]):=by
 rw[quF,qjD];rfl
theorem qz7(k:Int)(s:Bs)(ln:Int){acc:List AV}(h:room (acc.length+1) 32=true):qfb k s ln acc=some (ln,acc++ET [⟨k,ln,s⟩]):=by
 rw[qVp,qCm];exact(brT h).trans rfl
theorem room_le{a b n:Nat}(h:a<=b)(hb:room b n=true):room a n=true:=by
 unfold room at hb ⊢;rw[jA6]at hb ⊢;exact jAz (jBc n h) hb
abbrev zis(ln:Int)(l:List Bs):List AV:=ET (l.map (tkP ln))
theorem zw7{l:List Bs}(hl:l.length<=big)(hne:∀s∈l,s.isEmpty=false)(ln:Int):∀(k n:Nat) (acc:List AV),n+k=l.length->room (acc.length+k) 32=true->qae (fun v=>(qwI v).ev) (Sum.inr (ES l,(l.length:Int),(n:Int),ln,acc))=some (1,Sum.inr (ES l,(l.length:Int),(l.length:Int),ln,acc++zis ln (l.drop n))):=by
 intro k
 induction k with
 |zero=>
  intro n acc hn hr;have e:n=l.length:=by omega
  subst e;rw[jC0];rw[qaf (j:=1) ?_]
  ·simp
  ·show(qkT (ES l) (l.length:Int) (l.length:Int) ln acc).ev=_;rw[qkT];exact(brF (by simp)).trans rfl
 |succ k ih=>
  intro n acc hn hr;have h:n<l.length:=by omega
  rw[qal (v':=Sum.inr (ES l,(l.length:Int),((n+1:Nat):Int),ln,acc++ET [tkP ln l[n]])) ?_]
  ·rw[ih (n+1) _ (by omega) (by rw[jA2];exact room_le (by simp;omega) hr)]
   congr 3
   rw[<-jC8 h,jAf];rfl
  ·show(qkT (ES l) (l.length:Int) (n:Int) ln acc).ev=_;rw[qkT];rw[<-qan h hl];exact qnO h (fun k s=>qfb k s ln acc) (fun y:Int×List AV=>.next (Sum.inr (ES l,(l.length:Int),IntKind.i64.wrap ((n:Int)+1),y.fst,y.snd))) (qz7 _ _ ln (room_le (by omega) hr)) (hne _ (jAi h))
theorem zw8{l:List Bs}(hl:l.length<=big)(hne:∀s∈l,s.isEmpty=false)(ln:Int):∀(k n:Nat) (acc:List AV),n+k=l.length->room (acc.length+k) 32=true->qae (fun v=>(qwF v).ev) (Sum.inr (ES l,(l.length:Int),(n:Int),ln,acc))=some (1,Sum.inr (ES l,(l.length:Int),(l.length:Int),ln,acc++zis ln (l.drop n))):=by
 intro k
 induction k with
 |zero=>
  intro n acc hn hr;have e:n=l.length:=by omega
  subst e;rw[jC0];rw[qaf (j:=1) ?_]
  ·simp
  ·show(qkQ (ES l) (l.length:Int) (l.length:Int) ln acc).ev=_;rw[qkQ];exact(brF (by simp)).trans rfl
 |succ k ih=>
  intro n acc hn hr;have h:n<l.length:=by omega
  rw[qal (v':=Sum.inr (ES l,(l.length:Int),((n+1:Nat):Int),ln,acc++ET [tkP ln l[n]])) ?_]
  ·rw[ih (n+1) _ (by omega) (by rw[jA2];exact room_le (by simp;omega) hr)]
   congr 3
   rw[<-jC8 h,jAf];rfl
  ·show(qkQ (ES l) (l.length:Int) (n:Int) ln acc).ev=_;rw[qkQ];rw[<-qan h hl];exact qnO h (fun k s=>qfb k s ln acc) (fun y:Int×List AV=>.next (Sum.inr (ES l,(l.length:Int),IntKind.i64.wrap ((n:Int)+1),y.fst,y.snd))) (qz7 _ _ ln (room_le (by omega) hr)) (hne _ (jAi h))
theorem zhc{s:Bs}{l:List Bs}(hl:(s::l).length<=big)(hne:∀t∈s::l,t.isEmpty=false)(ln:Int)(hr:room (s::l).length 32=true):qKb (ES (s::l)) ln=some (.inr (ln,zis ln (s::l))):=by
 rw[qVA,qCw,jA5,qD2];have h:0<(s::l).length:=by simp
 have e:qae (fun v=>(qwI v).ev) (Sum.inl (ES (s::l),((s::l).length:Int),0,ln))=some (1,Sum.inr (ES (s::l),((s::l).length:Int),((s::l).length:Int),ln,zis ln (s::l))):=by
  rw[qal (v':=Sum.inr (ES (s::l),((s::l).length:Int),((0+1:Nat):Int),ln,ET [tkP ln s])) ?_]
  ·rw[zw7 hl hne ln l.length 1 _ (by simp;omega) (by
    have:(ET [tkP ln s]).length+l.length=(s::l).length:=by simp;omega
    rw[this];exact hr)]
   rfl
  ·show(qwJ (ES (s::l)) ((s::l).length:Int) ((0:Nat):Int) ln).ev=_;rw[qwJ];rw[<-qan h hl];exact qnO h (fun k s=>qd4 k s ln) (fun y:Int×List AV=>.next (Sum.inr (ES (s::l),((s::l).length:Int),IntKind.i64.wrap (((0:Nat):Int)+1),y.fst,y.snd))) (zdC _ _ ln) (hne _ (jAi h))
 rw[e];exact(biN rfl).trans ((biS rfl).trans rfl)
theorem q6O{s:Bs}{l:List Bs}(hl:(s::l).length<=big)(hne:∀t∈s::l,t.isEmpty=false)(ln:Int){acc:List AV}(hr:room (acc.length+(s::l).length) 32=true):qKa (ES (s::l)) ln acc=some (.inr (ln,acc++zis ln (s::l))):=by
 rw[qVs,qCp,jA5,qDY];have h:0<(s::l).length:=by simp
 have e:qae (fun v=>(qwF v).ev) (Sum.inl (ES (s::l),((s::l).length:Int),0,ln,acc))=some (1,Sum.inr (ES (s::l),((s::l).length:Int),((s::l).length:Int),ln,acc++zis ln (s::l))):=by
  rw[qal (v':=Sum.inr (ES (s::l),((s::l).length:Int),((0+1:Nat):Int),ln,acc++ET [tkP ln s])) ?_]
  ·rw[zw8 hl hne ln l.length 1 _ (by simp;omega) (by
    have:(acc++ET [tkP ln s]).length+l.length=acc.length+(s::l).length:=by simp;omega
    rw[this];exact hr)]
   rw[jAf];rfl
  ·show(qwG (ES (s::l)) ((s::l).length:Int) ((0:Nat):Int) ln acc).ev=_;rw[qwG];rw[<-qan h hl];exact qnO h (fun k s=>qfb k s ln acc) (fun y:Int×List AV=>.next (Sum.inr (ES (s::l),((s::l).length:Int),IntKind.i64.wrap (((0:Nat):Int)+1),y.fst,y.snd))) (qz7 _ _ ln (room_le (by simp) hr)) (hne _ (jAi h))
 rw[e];exact(biN rfl).trans ((biS rfl).trans rfl)
theorem qJl:∀{es:List AV},es.all strB=true-> ∃l:List Bs,es=ES l/\ ∀s∈l,s.isEmpty=false
 | [],_=>⟨[],rfl,fun _ h=>nomatch h⟩
 |e::es,h=>by
  simp only[jAw,jA1]at h;obtain⟨l,rfl,hl⟩:=qJl h.2;cases e with
  |str s=>
   refine⟨s::l,rfl,fun t ht=>?_⟩;rcases jAc.1 ht with rfl|ht
   ·simpa[strB]using h.1
   ·exact hl t ht
  |_=>cases h.1
theorem qIS(ln:Int):∀l:List Bs,(ES l).map (tkA ln)=zis ln l
 | []=>rfl
 |s::l=>by
  have:=qIS ln l;simp only[jAs,this,tkA];rfl
theorem qM7{n:Nat}(h:room n 32=true):n<=big:=by
 unfold room at h;rw[jA6]at h;simp only[lim,big]at h ⊢;omega
theorem zhb:Snd IP 22 putE:=by
 intro a h r h' hm;unfold putE at hm;split at hm
 ·rename_i es sz ln;split at hm
  ·rename_i hsz;subst hsz;simp only[jAt,jAd,jBv (a:=true),jA1,jB9]at hm;obtain⟨⟨h0,h1,h2⟩,rfl,rfl⟩:=hm;obtain⟨l,rfl,hl⟩:=qJl h1;cases l with
   |nil=>cases h0
   |cons s l=>
    rw[jA5]at h2;rw[qIS];exact zaa (ES (s::l),ln) _ (zhc (qM7 h2) hl ln h2)
  ·cases hm
 ·rename_i es ln acc;simp only[jAt,jAd,jBv (a:=true),jA1,jB9]at hm;obtain⟨⟨h0,h1,h2⟩,rfl,rfl⟩:=hm;obtain⟨l,rfl,hl⟩:=qJl h1;cases l with
  |nil=>cases h0
  |cons s l=>
   rw[jA5]at h2;rw[qIS];exact q99 (ES (s::l),ln,acc) _ (q6O (qM7 (room_le (by simp) h2)) hl ln h2)
 ·cases hm
theorem zhp{P:Program}{IP:Prog}(hP:qC8 P IP){f:Nat}{E:Ent}(hS:Snd IP f E):qd2 P f (gOf E):=by
 intro a h r h' hg w I m vs H hm hr;unfold gOf at hg;cases hq:(E a h).find? fun p=>p.1 with
 |none=>rw[hq]at hg;cases hg
 |some p=>
  rw[hq]at hg;obtain⟨b,r0,h0⟩:=p;cases hg;have hb:b=true:=jC4 (p:=fun p:Bool×Res×Heap=>p.1) hq;subst hb;obtain⟨n,hn⟩:=qb5.1 (hS _ _ _ _ (jB4 hq));exact(qnD hP n).1 _ _ _ _ _ hn w I m vs H hm hr
theorem put_ok:qd2 Tryz.prog 22 (gOf putE):=zhp progOk zhb
end Go.Proofs.H16a

/- A machine of plain values, and that what it says holds of the program. -/
import Derived.Test.YtbieppilagmdjaaGreatDoorE2
import Derived.ProofKit
import Derived.Deep.Slices
import Derived.OpenShut
import Derived.KernelRfl
set_option linter.unusedVariables false
set_option linter.unusedSimpArgs false
set_option linter.unnecessarySimpa false
namespace Go.Eng
set_option linter.unusedSectionVars false
variable [Globs]
instance noDfs:Dfs:=⟨[]⟩
section
variable {P:Program} {hint:Nat -> Nat} {w:World} {I:Imm} {m:Names} {h:Heap} {nx:Nat} {e:Env} {a:Act}
def qUK (P:Program):ResultVar -> Option (Nat × Option (Bool × Nat))
 | .tmp t=>some (t,none)
 | .cell x t=>match qb9 P t,qaT P t with
  | some n,some g=>if g = true \/ n = 1 then some (x,some (g,n)) else none
  | _,_=>none
def qpt (P:Program):List ResultVar -> Option (List (Nat × Option (Bool × Nat)))
 | []=>some []
 | r :: rs=>match qUK P r,qpt P rs with
  | some x,some xs=>some (x :: xs)
  | _,_=>none
def qkJ (tmps:Array Value):ResultVar -> Sem Value
 | .tmp t=>pure (tmps.getD t undef)
 | .cell a t=>do loadVar t (<- asAddr (tmps.getD a undef))
theorem qs7 {s:St} {n:Nat} (F:Fits w I m s.tm s.hp nx n a) {r:ResultVar} {x:Nat × Option (Bool × Nat)} (hc:qUK P r = some x) {v:AV} (hv:qGt s x = some v) :
  ∃ u,(qkJ a.tmps r).run P w = .ok u w /\ Rel w I v m u:=by
 cases r with
 | tmp t=>
  simp [qUK] at hc; subst hc
  simp [qGt] at hv; subst hv
  exact ⟨_,rfl,F.tm t⟩
 | cell y t=>
  simp only [qUK] at hc
  split at hc
  ·rename_i n' g hn hg
   split at hc
   ·rename_i h1
    cases hc
    simp only [qGt] at hv
    split at hv
    ·rename_i cs hcs
     obtain ⟨b,o,hp,hcells⟩:=qg2 F.hp (F.tm y) hcs
     obtain ⟨u,hu,hr⟩:=qhd (P:=P) hn hg h1 hcells hv
     refine ⟨u,?_,hr⟩
     simp [qkJ,hp,asAddr,hu]
    ·cases hv
   ·cases hc
  ·cases hc
theorem qiz {s:St} {n:Nat} (F:Fits w I m s.tm s.hp nx n a):∀ {rs:List ResultVar} {xs:List (Nat × Option (Bool × Nat))},qpt P rs = some xs -> ∀ {vs:List AV},qf8 s xs = some vs ->
  ∃ us,(rs.mapM (qkJ a.tmps)).run P w = .ok us w /\ qaw w I vs m us
 | [],xs,hc,vs,hv=>by
  simp [qpt] at hc; subst hc
  simp [qf8] at hv; subst hv
  exact ⟨[],rfl,by simp [qaw]⟩
 | r :: rs,xs,hc,vs,hv=>by
  simp only [qpt] at hc
  split at hc
  ·rename_i x xs' h1 h2
   cases hc
   simp only [qf8] at hv
   split at hv
   ·rename_i v vs' h3 h4
    cases hv
    obtain ⟨u,hu,hr⟩:=qs7 F h1 h3
    obtain ⟨us,hus,hrs⟩:=qiz F h2 h4
    refine ⟨u :: us,by simp [hu,hus],?_⟩
    simp only [qaw]
    exact ⟨u,us,rfl,hr,hrs⟩
   ·cases hv
  ·cases hc
theorem qeL {s:St} {n:Nat} (F:Fits w I m s.tm s.hp nx n a) {fn:Func} {xs:List (Nat × Option (Bool × Nat))} (hc:qpt P fn.results.toList = some xs) {vs:List AV} (hv:qf8 s xs = some vs) :
  ∃ u,(results fn a.tmps).run P w = .ok u w /\ Rel w I (one vs) m u:=by
 obtain ⟨us,hus,hr⟩:=qiz F hc hv
 have hmap:(results fn a.tmps) = (do let vs <- fn.results.mapM (qkJ a.tmps); pure (if h:vs.size = 1 then vs[0] else .tuple vs)):=by
  unfold results
  congr 1
 have hrun:(fn.results.mapM (qkJ a.tmps)).run P w = .ok us.toArray w:=by
  rw [Array.mapM_eq_mapM_toList,<- bind_pure_comp]
  simp [hus]
 refine ⟨if h:us.toArray.size = 1 then us.toArray[0] else .tuple us.toArray,by rw [hmap]; simp only [Sem.run_bind,hrun,Result.andThen_ok,Sem.run_pure],?_⟩
 have hl:=qaH hr
 cases vs with
 | nil=>
  cases us with
  | nil=>simp [one,Rel,qaw]
  | cons=>simp at hl
 | cons v vs=>
  cases vs with
  | nil=>
   cases us with
   | nil=>simp at hl
   | cons u us=>
    cases us with
    | nil=>
     simp only [qaw] at hr
     obtain ⟨v',vs',he,hr,_⟩:=hr
     cases he
     simpa [one] using hr
    | cons=>simp at hl
  | cons v' vs=>
   have:us.length ≠ 1:=by simp at hl; omega
   simp only [one,Rel,List.size_toArray,this,dite_false]
   exact ⟨us,rfl,hr⟩
theorem qsO {IP:Prog} {f k:Nat} (H:HeapAt w I m h) {v:AV} {u:Value} (hr:Rel w I v m u) {v':AV} {h':Heap} (hl:qnw IP f k v h = some (v',h')) :
  ∃ I' m',HeapAt w I' m' h' /\ Fr k w w I I' m m' h h' /\ Rel w I' v' m' u:=by
 simp only [qnw] at hl
 split at hl
 ·cases hl
 ·rename_i v1 h1 hst
  split at hl
  ·cases hl
  ·rename_i r hrch
   cases hl
   have key:∃ I1,HeapAt w I1 m h1 /\ Fr k w w I I1 m m h h1 /\ Rel w I1 v1 m u:=by
    split at hst
    ·cases hst
     exact ⟨I,H,Fr.refl k,hr⟩
    ·obtain ⟨I1,ha,hr1,_⟩:=qgL (nx:=0) H hr hst
     exact ⟨I1,ha.heap,⟨ha.stays,ha.imm,fun i L _ h=>h,ha.frame,ha.newI,ha.owns⟩,qrp hr1⟩
   obtain ⟨I1,H1,F1,hr1⟩:=key
   obtain ⟨hH,hF,hpl⟩:=qrr H1 hrch
   exact ⟨I1,_,hH,F1.trans hF,qdf hpl _ hr1⟩
theorem qgM:∀ (vs:List AV) (i t:Nat),qbe (params i vs) t = (if i <= t then vs[t - i]?.getD .junk else .junk)
 | [],i,t=>by simp [params,qbe]
 | v :: vs,i,t=>by
  simp only [params,qbe]
  by_cases h:t = i
  ·subst h; simp
  ·rw [if_neg h,qgM vs (i + 1) t]
   by_cases h2:i <= t
   ·have:i + 1 <= t:=by omega
    have e:t - i = (t - (i + 1)) + 1:=by omega
    simp [h2,this,e]
   ·have:¬ i + 1 <= t:=by omega
    simp [h2,this]
def qag (P:Program) (f:Nat) (F:Fun):Prop:=
 ∃ fn c hint keeps keeps',P.funcs[f]? = some fn /\ (fn.name == "runtime.NumGoroutine") = false /\ fn.body = some c /\ qFq P hint fn.ntmps c keeps = some (F.body,keeps') /\ qpt P fn.results.toList = some F.results
def qdU (P:Program) (f:Nat) (g:List AV -> Heap -> Option (Res × Heap)):Prop:=∀ args h r h',g args h = some (r,h') ->
 ∀ (w:World) (I:Imm) (m:Names) (vs:List Value),HeapAt w I m h -> (∀ i,h.length <= i -> m i = none) -> qaw w I args m vs -> Runs P f vs.toArray w (Post w I m h r h')
def qyD (P:Program) (f:Nat) (s:Seen):Prop:=∀ call,qcy P call -> qdU P f (s.g call)
def qyC (P:Program) (IP:Prog):Prop:=(∀ f F,IP.fn f = some F -> qag P f F) /\ (∀ f g,IP.fn f = none -> IP.spec f = some g -> qdU P f g) /\ ∀ f s,IP.fn f = none -> IP.spec f = none -> IP.seen f = some s -> qyD P f s
theorem qha:∀ (h:Heap) (i:Nat),qad (nzH h) i = (qad h i).map nzB
 | [],_=>rfl
 | (j,b) :: h,i=>by
  have ih:=qha h i
  simp only [nzH,List.map_cons,qad] at ih ⊢
  split
  ·rfl
  ·exact ih
theorem qCA:∀ (cs:List AV) (i:Nat) (c:AV),(nz.nzL cs)[i]? = some c -> ∃ c0,cs[i]? = some c0 /\ c = nz c0
 | [],i,c,h=>by simp [nz.nzL] at h
 | x :: cs,0,c,h=>by simp [nz.nzL] at h; exact ⟨x,rfl,h.symm⟩
 | x :: cs,i + 1,c,h=>by simp [nz.nzL] at h; exact qCA cs i c h
theorem qQI {L:Loc} {b:Blk} (h:BlkAt w I m L b):BlkAt w I m L (nzB b):=by
 cases b with
 | box cs fz=>
  obtain ⟨h1,h2,C,e,h3,h4,h5,h6⟩:=h
  refine ⟨h1,by rw [qky]; exact h2,C,e,h3,by rw [qky]; exact h4,fun i c hc=>?_,by rw [qky]; exact h6⟩
  obtain ⟨c0,hc0,rfl⟩:=qCA cs i c hc
  obtain ⟨v,hv,hr⟩:=h5 i c0 hc0
  exact ⟨v,hv,qfs c0 hr⟩
 | arr sz es fz=>exact h
 | mp kvs=>exact h
theorem qNP (H:HeapAt w I m h):HeapAt w I m (nzH h):=by
 refine ⟨fun i b hb=>?_,fun i j a b L L' ha hb=>?_,H.old,H.glob⟩
 ·rw [qha] at hb
  cases hq:qad h i with
  | none=>rw [hq] at hb; cases hb
  | some b0=>
   rw [hq] at hb; cases hb
   obtain ⟨L,hL,hat⟩:=H.at_ i b0 hq
   exact ⟨L,hL,qQI hat⟩
 ·rw [qha] at ha hb
  cases hq:qad h i with
  | none=>rw [hq] at ha; cases ha
  | some a0=>
   cases hq':qad h j with
   | none=>rw [hq'] at hb; cases hb
   | some b0=>exact H.apart i j a0 b0 L L' hq hq'
theorem qOc {b:Nat}:Owns m (nzH h) b ↔ Owns m h b:=by
 constructor
 ·rintro ⟨i,a,L,ha,hL,hb⟩
  rw [qha] at ha
  cases hq:qad h i with
  | none=>rw [hq] at ha; cases ha
  | some a0=>exact ⟨i,a0,L,hq,hL,hb⟩
 ·rintro ⟨i,a,L,ha,hL,hb⟩
  exact ⟨i,nzB a,L,by rw [qha,ha]; rfl,hL,hb⟩
theorem qSr {IP:Prog} {f:Nat} (H:HeapAt w I m h):HeapAt w I m (wH IP f h):=by
 unfold wH
 cases IP.wid f
 ·exact H
 ·exact qNP H
theorem qCL {IP:Prog} {f b:Nat}:Owns m (wH IP f h) b ↔ Owns m h b:=by
 unfold wH
 cases IP.wid f
 ·exact Iff.rfl
 ·exact qOc
theorem qTo {IP:Prog} {f:Nat} {v:AV} {u:Value} (h:Rel w I v m u):Rel w I (wV IP f v) m u:=by
 unfold wV
 cases IP.wid f
 ·exact h
 ·exact qfs v h
theorem qb0 {IP:Prog} {call:qaL} {loop:qdj} (hcall:qcy P call) (hloop:qik P loop) {f:Nat} {F:Fun} (hF:qag P f F) {args:List AV} {r:Res} {h':Heap} (hb:body IP call loop f F args h = some (r,h')) :
  qc0 P f /\ ∀ (w:World) (I:Imm) (m:Names) (vs:List Value),HeapAt w I m h -> (∀ i,h.length <= i -> m i = none) -> qaw w I args m vs -> Calls P f vs.toArray w (Post w I m h r h'):=by
 obtain ⟨fn,c,hint,keeps,keeps',hf,hname,hbody,hcomp,hres⟩:=hF
 refine ⟨⟨fn,hf,hname,by rw [hbody]; rfl⟩,fun w I m vs H hm hr=>?_⟩
 refine calls_of_wp hf hbody ?_
 simp only [body] at hb
 have hrl:=qaH hr
 let a0:Act:={ tmps:=vs.toArray ++ Array.replicate (fn.ntmps - vs.toArray.size) undef,defers:=[] }
 have F0:Fits w I m (params 0 args) (wH IP f h) h.length fn.ntmps a0:=by
  refine ⟨fun t=>?_,qSr H,hm,by simp [a0]; omega,rfl⟩
  rw [qgM]
  simp only [Nat.zero_le,if_true,Nat.sub_zero]
  cases hq:args[t]? with
  | none=>simp [Rel]
  | some x=>
   obtain ⟨v,hv,hrel⟩:=qbf hr t x hq
   have hlt:t < vs.length:=(List.getElem?_eq_some_iff.1 hv).1
   have:a0.tmps.getD t undef = v:=by
    simp only [a0]
    rw [Array.getD_eq_getD_getElem?,Array.getElem?_append_left (by simpa using hlt)]
    simp [hv]
   simpa [this] using hrel
 have finish:∀ {x:X} {s:St} {v v':AV} {h2:Heap} {I':Imm} {m':Names} {w':World} {u:Value},Fr h.length w w' I I' m m' (wH IP f h) s.hp -> HeapAt w' I' m' s.hp -> Rel w' I' v m' u -> qnw IP f h.length v s.hp = some (v',h2) ->
   ∃ I'' m'',Aft w w' I I'' m m'' h h2 /\ Rel w' I'' v' m'' u:=by
  intro x s v v' h2 I' m' w' u hfr H' hu hl
  obtain ⟨I'',m'',H'',hfr',hu'⟩:=qsO H' hu hl
  have:=hfr.trans hfr'
  refine ⟨I'',m'',⟨this.stays,this.imm,fun i L hL=>?_,H'',fun b hb ho=>this.frame b hb fun h=>ho (qCL.1 h),fun b o hi=>(this.newI b o hi).elim .inl fun h=>.inr (h.elim (fun h=>.inl (qCL.1 h)) .inr),fun b hb=>(this.owns b hb).elim (fun h=>.inl (qCL.1 h)) .inr⟩,hu'⟩
  rcases Nat.lt_or_ge i h.length with hi | hi
  ·exact this.names i L hi hL
  ·rw [hm i hi] at hL; cases hL
 split at hb
 ·
  rename_i s hx
  split at hb
  ·rename_i xs hxs
   split at hb
   ·rename_i v' h2 hl
    cases hb
    refine qb2 hcall hloop c keeps keeps' F.body hcomp _ _ _ hx w I m a0 _ F0 ?_
    rintro e a' w' ⟨I',m',hfr,rfl,F'⟩
    obtain ⟨u,hu,hru⟩:=qeL F' hres hxs
    obtain ⟨I'',m'',hA,hru'⟩:=finish (x:=.normal) hfr F'.hp hru hl
    exact ⟨F'.df,u,hu,I'',m'',hA,u,rfl,qTo hru'⟩
   ·cases hb
  ·cases hb
 ·rename_i s hx
  split at hb
  ·rename_i xs hxs
   split at hb
   ·rename_i v' h2 hl
    cases hb
    refine qb2 hcall hloop c keeps keeps' F.body hcomp _ _ _ hx w I m a0 _ F0 ?_
    rintro e a' w' ⟨I',m',hfr,rfl,F'⟩
    obtain ⟨u,hu,hru⟩:=qeL F' hres hxs
    obtain ⟨I'',m'',hA,hru'⟩:=finish (x:=.ret) hfr F'.hp hru hl
    exact ⟨F'.df,u,hu,I'',m'',hA,u,rfl,qTo hru'⟩
   ·cases hb
  ·cases hb
 ·rename_i v s hx
  split at hb
  ·rename_i v' h2 hl
   cases hb
   refine qb2 hcall hloop c keeps keeps' F.body hcomp _ _ _ hx w I m a0 _ F0 ?_
   rintro e a' w' ⟨I',m',hfr,hdf,H',_,u,rfl,hru⟩
   obtain ⟨I'',m'',hA,hru'⟩:=finish (x:=.ret) hfr H' hru hl
   exact ⟨hdf,I'',m'',hA,u,rfl,hru'⟩
  ·cases hb
 ·cases hb
theorem qkB {IP:Prog} (hP:qyC P IP):∀ n,qcy P (qaq IP n).1 /\ qik P (qaq IP n).2
 | 0=>⟨fun f args h r h' hc=>by simp [qaq] at hc,fun keep ic s x s' hc=>by simp [qaq] at hc⟩
 | n + 1=>by
  obtain ⟨hcall,hloop⟩:=qkB hP n
  refine ⟨fun f args h r h' hc=>?_,fun keep ic s x s' hc=>?_⟩
  ·simp only [qaq] at hc
   split at hc
   ·rename_i F hF
    exact fun w I m vs H hm hr=>.inl ⟨(qb0 hcall hloop (hP.1 f F hF) hc).1,(qb0 hcall hloop (hP.1 f F hF) hc).2 w I m vs H hm hr⟩
   ·rename_i hF
    split at hc
    ·rename_i g hg
     exact hP.2.1 f g hF hg _ _ _ _ hc
    ·rename_i hg
     split at hc
     ·rename_i s hs
      exact hP.2.2 f s hF hg hs _ hcall _ _ _ _ hc
     ·cases hc
  ·simp only [qaq] at hc
   split at hc
   ·cases hc
   ·rename_i s1 hnorm
    have hk1:s1.k = s.k:=by
     simp only [norm] at hnorm
     split at hnorm
     ·cases hnorm
     ·cases hnorm; rfl
    have hkx:=qz1 (IP:=IP) (call:=(qaq IP n).1) (fun keep ic s x s' h=>(hloop keep ic s x s' h).1)
    have hko:∀ {x:X} {s2:St},qnH keep x s2 = some (x,s') -> s'.k = s2.k:=by
     intro x s2 ho
     unfold qnH at ho
     split at ho
     ·cases ho; rfl
     ·split at ho
      ·rename_i s3 hs3
       cases ho
       simp only [norm] at hs3
       split at hs3
       ·cases hs3
       ·cases hs3; rfl
      ·cases ho
    have hxo:∀ {y:X} {s2:St},qnH keep y s2 = some (x,s') -> y = x:=by
     intro y s2 ho
     unfold qnH at ho
     split at ho
     ·cases ho; rfl
     ·split at ho <;> cases ho; rfl
    have hxo':∀ {y:X} {s2:St},qnH keep y s2 = some (x,s') -> y = x:=hxo
    have hio:=quH (IP:=IP) (call:=(qaq IP n).1) (fun keep ic s x s' h=>(hloop keep ic s x s' h).2.2.1)
    refine ⟨?_,?_,?_,?_⟩
    ·split at hc
     ·rename_i s2 hx
      exact ((hloop _ _ _ _ _ hc).1.trans (hkx _ _ _ _ hx)).trans hk1
     ·rename_i y s2 hne hx
      have:=hxo hc
      subst this
      exact ((hko hc).trans (hkx _ _ _ _ hx)).trans hk1
     ·cases hc
    ·intro hint n' c keeps keeps' hcomp w I m a Q F hQ
     obtain ⟨_,m1,F1,f1⟩:=qcu F hnorm
     split at hc
     ·rename_i s2 hx
      refine qv5 (qb2 hcall hloop c keeps keeps' ic hcomp _ _ _ hx w I m1 a (fun e a' w'=>Ends w I m1 s1.hp s1.k n' .normal s2 e a' w') F1 fun _ _ _ h=>h) ?_ ?_
      ·rintro a' w' ⟨I',m',f',_,F'⟩
       refine (hloop _ _ _ _ _ hc).2.1 hint n' c keeps keeps' hcomp w' I' m' a' Q F' fun e a'' w'' E=>hQ _ _ _ ?_
       have hk2:=hkx _ _ _ _ hx
       rw [hk2] at E
       rw [hk1] at E f'
       exact (E.after f').after f1
      ·rintro e a' w' hne ⟨I',m',f',he,_⟩
       exact absurd he hne
     ·rename_i y s2 hne hx
      have:=hxo hc
      subst this
      have hk2:=hkx _ _ _ _ hx
      refine qv5 (qb2 hcall hloop c keeps keeps' ic hcomp _ _ _ hx w I m1 a (fun e a' w'=>Ends w I m1 s1.hp s1.k n' y s2 e a' w') F1 fun _ _ _ h=>h) ?_ ?_
      ·intro a' w' E
       exact absurd rfl (E.out fun hxn=>hne hxn)
      ·intro e a' w' _ E
       have E2:Ends w I m1 s1.hp s1.k n' y s' e a' w':=by
        obtain ⟨I',m',f',hrest⟩:=E
        unfold qnH at hc
        split at hc
        ·cases hc; exact ⟨I',m',f',hrest⟩
        ·rename_i hnp
         split at hc
         ·rename_i s3 hs3
          cases hc
          cases y with
          | pan v=>exact absurd rfl (hnp v)
          | normal=>exact absurd rfl hne
          | exit id=>
           obtain ⟨he,F'⟩:=hrest
           obtain ⟨_,m3,F3,f3⟩:=qcu F' hs3
           rw [hk2] at f3
           exact ⟨I',m3,f'.trans f3,he,F3⟩
          | ret=>
           obtain ⟨he,F'⟩:=hrest
           obtain ⟨_,m3,F3,f3⟩:=qcu F' hs3
           rw [hk2] at f3
           exact ⟨I',m3,f'.trans f3,he,F3⟩
         ·cases hc
       rw [hk1] at E2
       exact hQ _ _ _ (E2.after f1)
     ·cases hc
    ·intro p hp
     split at hc
     ·exact (hloop _ _ _ _ _ hc).2.2.1 p hp
     ·rename_i y s2 hne hx
      have:=hxo hc
      subst this
      exact hio _ p hp _ _ _ hx
     ·cases hc
    ·intro hint n' l pre c keeps keeps' y kk f r hic hcomp hcut hpl hpre hev w I m a Q F hQ
     subst hic
     obtain ⟨_,m1,F1,f1⟩:=qcu F hnorm
     have hf:=qFJ (b:=c) hpre
     have hcn:∀ {z:X} {s2:St},(∀ v,z ≠ .pan v) -> qnH keep z s2 = some (x,s') -> x = z /\ norm (xk keep) s2 = some s':=by
      intro z s2 hz ho
      refine ⟨(hxo' ho).symm,?_⟩
      unfold qnH at ho
      split at ho
      ·exact absurd rfl (hz _)
      ·split at ho
       ·rename_i s3 hs3
        cases ho; exact hs3
       ·cases ho
     have hend:∀ {z:X} {s2:St} {e:Exit} {a':Act} {w':World},qbi IP (qaq IP n).1 (qaq IP n).2 f s1 = some (z,s2) -> qnH keep z s2 = some (x,s') -> z ≠ .normal -> Ends w I m1 s1.hp s1.k n' z s2 e a' w' -> Ends w I m s.hp s.k n' z s' e a' w':=by
      intro z s2 e a' w' hy ho hzn E
      have hk2:=hkx _ _ _ _ hy
      have E2:Ends w I m1 s1.hp s1.k n' z s' e a' w':=by
       obtain ⟨I',m',f',hrest⟩:=E
       cases z with
       | pan v=>unfold qnH at ho; cases ho; exact ⟨I',m',f',hrest⟩
       | normal=>exact absurd rfl hzn
       | exit id=>
        obtain ⟨he,F'⟩:=hrest
        obtain ⟨_,m3,F3,f3⟩:=qcu F' (hcn (by intro v; simp) ho).2
        rw [hk2] at f3
        exact ⟨I',m3,f'.trans f3,he,F3⟩
       | ret=>
        obtain ⟨he,F'⟩:=hrest
        obtain ⟨_,m3,F3,f3⟩:=qcu F' (hcn (by intro v; simp) ho).2
        rw [hk2] at f3
        exact ⟨I',m3,f'.trans f3,he,F3⟩
      rw [hk1] at E2
      exact E2.after f1
     cases hy:qbi IP (qaq IP n).1 (qaq IP n).2 f s1 with
     | none=>simp [qsN,qbi,hy] at hc
     | some r=>
      obtain ⟨z,s2⟩:=r
      have hk2:=hkx _ _ _ _ hy
      have hT:z ≠ .normal -> Tw P ((pre ++ [Code.label l]).foldr Code.seq c) c (fun e a' w'=>Ends w I m1 s1.hp s1.k n' z s2 e a' w') a w:=fun hzn=>
       qgz hcall hloop kk c (pre ++ [Code.label l]) keeps y keeps' hcomp hcut hpl _ _ _ hy w I m1 a _ F1 fun e a' w' E=>by
        have hne:e ≠ .normal:=E.out hzn
        cases e with
        | normal=>exact absurd rfl hne
        | _=>exact E
      have hQ':qE7 l x ≠ .normal -> ∀ e a' w',Ends w I m s.hp s.k n' (qE7 l x) s' e a' w' -> Q e a' w':=fun hzn e a' w' E=>by
       have hne:e ≠ .normal:=E.out hzn
       have:=hQ e a' w' E
       cases e with
       | normal=>exact absurd rfl hne
       | _=>exact this
      cases z with
      | normal=>
       have hc:qnH keep (.exit (1000000 + 2 * l + 1)) s2 = some (x,s'):=by
        simp only [qsN,qbi,hy] at hc
        rw [if_neg (by omega)] at hc
        exact hc
       obtain ⟨hx',hs3⟩:=hcn (by intro v; simp) hc
       refine qgz hcall hloop kk c (pre ++ [Code.label l]) keeps y keeps' hcomp hcut hpl _ _ _ hy w I m1 a _ F1 ?_
       rintro e a' w' ⟨I',m',f',rfl,F'⟩
       refine hQ .normal a' w' ?_
       rw [hx']
       simp only [qE7,if_true]
       obtain ⟨_,m3,F3,f3⟩:=qcu F' hs3
       rw [hk2,hk1] at f3
       rw [hk1] at f'
       exact Ends.after f1 ⟨I',m3,f'.trans f3,rfl,F3⟩
      | exit j=>
       by_cases hj:j = 1000000 + 2 * l
       ·subst hj
        have hc:(qaq IP n).2 keep (qsN l f) s2 = some (x,s'):=by
         have e:qbi IP (qaq IP n).1 (qaq IP n).2 (qsN l f) s1 = some (.normal,s2):=by simp [qsN,qbi,hy]
         rw [e] at hc
         exact hc
        refine qjv hf (hT (by simp)) ?_ ?_
        ·rintro a' w' ⟨I',m',f',_,F'⟩
         refine (hloop _ _ _ _ _ hc).2.2.2 hint n' l pre c keeps keeps' y kk f r rfl hcomp hcut hpl hpre hev w' I' m' a' Q F' fun e a'' w'' E=>hQ _ _ _ ?_
         rw [hk2] at E
         rw [hk1] at E f'
         exact (E.after f').after f1
        ·rintro e a' w' hne ⟨I',m',f',he,_⟩
         exact absurd (he.trans (qpG l)) hne
       ·have hc:qnH keep (.exit j) s2 = some (x,s'):=by
         have e:qbi IP (qaq IP n).1 (qaq IP n).2 (qsN l f) s1 = some (.exit j,s2):=by simp [qsN,qbi,hy,hj]
         rw [e] at hc
         exact hc
        have hx':=(hcn (by intro v; simp) hc).1
        have hjid:=hio _ _ hev _ _ _ hy
        have hjo:j ≠ 1000000 + 2 * l + 1:=by
         rcases hjid with h | h
         ·omega
         ·simp only [qNB,beq_iff_eq] at h; omega
        have hng:qxG j ≠ .goto l:=by
         rcases qlP j with h | ⟨_,_,l',h,h2⟩
         ·rw [h]; simp
         ·rw [h]; intro h3; cases h3; exact hj h2
        refine qjv hf (hT (by simp)) ?_ ?_
        ·rintro a' w' ⟨I',m',f',he,_⟩
         exact absurd he.symm hng
        ·intro e a' w' _ E
         refine hQ' (by rw [hx']; simp [qE7,if_neg hjo]) _ _ _ ?_
         rw [hx']
         simp only [qE7,if_neg hjo]
         exact hend hy hc (by simp) E
      | ret=>
       have hc:qnH keep .ret s2 = some (x,s'):=by
        have e:qbi IP (qaq IP n).1 (qaq IP n).2 (qsN l f) s1 = some (.ret,s2):=by simp [qsN,qbi,hy]
        rw [e] at hc
        exact hc
       have hx':=(hcn (by intro v; simp) hc).1
       refine qjv hf (hT (by simp)) ?_ ?_
       ·rintro a' w' ⟨I',m',f',he,_⟩
        cases he
       ·intro e a' w' _ E
        refine hQ' (by rw [hx']; simp [qE7]) _ _ _ ?_
        rw [hx']
        show Ends w I m s.hp s.k n' X.ret s' e a' w'
        exact hend hy hc (by simp) E
      | pan v=>
       have hc:qnH keep (.pan v) s2 = some (x,s'):=by
        have e:qbi IP (qaq IP n).1 (qaq IP n).2 (qsN l f) s1 = some (.pan v,s2):=by simp [qsN,qbi,hy]
        rw [e] at hc
        exact hc
       have hx':=(hxo' hc).symm
       refine qjv hf (hT (by simp)) ?_ ?_
       ·rintro a' w' ⟨I',m',f',_,_,_,u,he,_⟩
        cases he
       ·intro e a' w' _ E
        refine hQ' (by rw [hx']; simp [qE7]) _ _ _ ?_
        rw [hx']
        show Ends w I m s.hp s.k n' (X.pan v) s' e a' w'
        exact hend hy hc (by simp) E
end
end Go.Eng
namespace Go.Eng
def qNQ:List (Nat × Nat) -> Nat -> Nat
 | [],_=>0
 | (i,n) :: l,d=>if d = i then n else qNQ l d
noncomputable def qUR [Globs] (P:Program) (hs:List (Nat × Nat)) (ks:List (List Nat)) (fn:Func):Option Fun:=match fn.body with
 | some c=>match qFq P (qNQ hs) fn.ntmps c ks with
  | some (b,_)=>match qpt P fn.results.toList with
   | some rs=>some ⟨fn.params.size,fn.ntmps,rs,b⟩
   | none=>none
  | none=>none
 | none=>none
noncomputable def qav [Globs] (P:Program) (hs:List (Nat × Nat)) (ks:List (List Nat)) (fn:Func):Fun:=match qUR P hs ks fn with
 | some F=>F
 | none=>⟨0,0,[],.ret⟩
theorem qab [Globs] {P:Program} {hs:List (Nat × Nat)} {ks:List (List Nat)} {i:Nat} {fn:Func} (hf:P.funcs[i]? = some fn) (h:(qUR P hs ks fn).isSome && !(fn.name == "runtime.NumGoroutine") = true):qag P i (qav P hs ks fn):=by
 rw [Bool.and_eq_true] at h
 obtain ⟨h,hn⟩:=h
 unfold qav
 cases hq:qUR P hs ks fn with
 | none=>rw [hq] at h; cases h
 | some F=>
  simp only
  unfold qUR at hq
  split at hq
  ·rename_i c hb
   split at hq
   ·rename_i b k' hc
    split at hq
    ·rename_i rs hr
     cases hq
     exact ⟨fn,c,qNQ hs,ks,k',hf,by simpa using hn,hb,hc,hr⟩
    ·cases hq
   ·cases hq
  ·cases hq
def qB7:List (Nat × Fun) -> Nat -> Option Fun
 | [],_=>none
 | (i,F) :: l,f=>if f = i then some F else qB7 l f
def TabF [Globs] (P:Program):List (Nat × Fun) -> Prop
 | []=>True
 | (i,F) :: l=>qag P i F /\ TabF P l
theorem TabF.look [Globs] {P:Program}:∀ {l:List (Nat × Fun)},TabF P l -> ∀ {f F},qB7 l f = some F -> qag P f F
 | [],_,f,F,h=>by simp [qB7] at h
 | (i,G) :: l,hl,f,F,h=>by
  simp only [qB7] at h
  split at h
  ·rename_i e; subst e; cases h; exact hl.1
  ·exact TabF.look hl.2 h
end Go.Eng
namespace Go.Eng
set_option linter.unusedSectionVars false
variable [Globs]
inductive Sh where
 | int (k:IntKind)
 | bool
 | str
 | slice (sz:Nat) (agg:Bool) (t:TypeId)
def qEc (P:Program) (sh:TypeId -> Option (List Sh)):List Field -> Nat -> Option (List Sh)
 | [],_=>some []
 | f :: fs,off=>if f.offset = off then match sh f.type with
   | some cs=>if cs.length = P.cellsOf f.type then match qEc P sh fs (off + cs.length) with
    | some r=>some (cs ++ r)
    | none=>none
    else none
   | none=>none
  else none
def qTu (cs:List Sh):Nat -> List Sh
 | 0=>[]
 | n + 1=>cs ++ qTu cs n
def shS (P:Program):Nat -> TypeId -> Option (List Sh)
 | 0,_=>none
 | n + 1,t=>match P.underlying t with
  | some .bool=>some [.bool]
  | some (.int k)=>some [.int k]
  | some .string=>some [.str]
  | some (.slice e)=>(qaT P e).map fun g=>[.slice (P.cellsOf e) g e]
  | some (.struct fs)=>match qEc P (shS P n) fs.toList 0 with
   | some cs=>if cs.length = P.cellsOf t then some cs else none
   | none=>none
  | some (.array k e)=>match shS P n e with
   | some cs=>if cs.length = P.cellsOf e /\ k * cs.length = P.cellsOf t then some (qTu cs k) else none
   | none=>none
  | _=>none
def shT (P:Program) (t:TypeId):List Sh:=(shS P 12 t).getD []
def qcI:List Sh -> List TypeId
 | []=>[]
 | .slice _ _ t :: cs=>t :: qcI cs
 | _ :: cs=>qcI cs
def q12 (P:Program) (ts:List TypeId):Bool:=ts.all fun t=>match shS P 12 t with
 | some cs=>decide (cs.length = P.cellsOf t) && decide (0 < cs.length) && (match qaT P t with | some g=>g || decide (cs.length = 1) | none=>false) && (qcI cs).all fun e=>ts.contains e
 | none=>false
def qgc (f:Sh -> AV -> Prop):List Sh -> List AV -> Prop
 | [],xs=>xs = []
 | c :: cs,xs=>∃ x r,xs = x :: r /\ f c x /\ qgc f cs r
def Fit (N:Nat) (T:TypeId -> List Sh):Nat -> Sh -> AV -> Prop
 | 0,_,_=>False
 | d + 1,c,v=>match c with
  | .int k=>∃ n,v = .int k n /\ (Lit.int k n).wf = true
  | .bool=>∃ b,v = .bool b
  | .str=>∃ s,v = .str s /\ s.length <= N
  | .slice sz true t=>∃ es,v = .view sz es /\ es.length <= N /\ ∀ e,e ∈ es -> ∃ xs,e = .agg xs /\ qgc (Fit N T d) (T t) xs
  | .slice sz false t=>∃ es,v = .view sz es /\ es.length <= N /\ ∀ e,e ∈ es -> qgc (Fit N T d) (T t) [e]
theorem qg7 {f:Sh -> AV -> Prop}:∀ {cs:List Sh} {xs:List AV},qgc f cs xs -> xs.length = cs.length
 | [],xs,h=>by simp [qgc] at h; subst h; rfl
 | c :: cs,xs,h=>by
  simp only [qgc] at h
  obtain ⟨x,r,rfl,_,h⟩:=h
  simp [qg7 h]
theorem qcC {f g:Sh -> AV -> Prop} (hfg:∀ c x,f c x -> g c x):∀ {cs:List Sh} {xs:List AV},qgc f cs xs -> qgc g cs xs
 | [],xs,h=>h
 | c :: cs,xs,h=>by
  simp only [qgc] at h ⊢
  obtain ⟨x,r,he,hx,h⟩:=h
  exact ⟨x,r,he,hfg _ _ hx,qcC hfg h⟩
theorem qg8 {N:Nat} {T:TypeId -> List Sh}:∀ (d:Nat) (c:Sh) (x:AV),Fit N T d c x -> Fit N T (d + 1) c x
 | 0,c,x,h=>by simp [Fit] at h
 | d + 1,c,x,h=>by
  cases c with
  | slice sz g t=>
   cases g
   ·simp only [Fit] at h ⊢
    obtain ⟨es,he,hl,h⟩:=h
    exact ⟨es,he,hl,fun e hm=>qcC (qg8 d) (h e hm)⟩
   ·simp only [Fit] at h ⊢
    obtain ⟨es,he,hl,h⟩:=h
    exact ⟨es,he,hl,fun e hm=>by obtain ⟨xs,h1,h2⟩:=h e hm; exact ⟨xs,h1,qcC (qg8 d) h2⟩⟩
  | _=>simpa only [Fit] using h
theorem qwX {N:Nat} {T:TypeId -> List Sh} {d:Nat} {c:Sh} {x:AV} (h:Fit N T d c x):qaR x = true:=by
 cases d with
 | zero=>simp [Fit] at h
 | succ d=>
  cases c with
  | slice sz g t=>
   cases g <;> simp only [Fit] at h <;> obtain ⟨es,rfl,_⟩:=h <;> rfl
  | _=>
   simp only [Fit] at h
   obtain ⟨n,h⟩:=h
   first
    | (subst h; rfl)
    | (obtain ⟨rfl,_⟩:=h; rfl)
theorem qgw {N:Nat} {T:TypeId -> List Sh} {d:Nat}:∀ {cs:List Sh} {xs:List AV},qgc (Fit N T d) cs xs -> ∀ x ∈ xs,qaR x = true
 | [],xs,h,x,hx=>by simp [qgc] at h; subst h; simp at hx
 | c :: cs,xs,h,x,hx=>by
  simp only [qgc] at h
  obtain ⟨y,r,rfl,hy,h⟩:=h
  rcases List.mem_cons.1 hx with rfl | hx
  ·exact qwX hy
  ·exact qgw h x hx
theorem qgv {f:Sh -> AV -> Prop}:∀ {cs ds:List Sh} {xs ys:List AV},qgc f cs xs -> qgc f ds ys -> qgc f (cs ++ ds) (xs ++ ys)
 | [],ds,xs,ys,h,h'=>by simp [qgc] at h; subst h; simpa using h'
 | c :: cs,ds,xs,ys,h,h'=>by
  simp only [qgc] at h
  obtain ⟨x,r,rfl,hx,h⟩:=h
  simp only [List.cons_append,qgc]
  exact ⟨x,r ++ ys,rfl,hx,qgv h h'⟩
theorem qf2 (a b:List Sh):qcI (a ++ b) = qcI a ++ qcI b:=by
 induction a with
 | nil=>rfl
 | cons c a ih=>cases c <;> simp [qcI,ih]
section
variable {H:Type} {enc:TypeId × Value -> H} {P:Program} {w:World} {base:Nat} {spare:Nat -> Bool} {held:Bool} {I:Imm}
theorem qFp {b o n:Nat} {xs:List AV} {cs:List Value} (hr:qaw w I xs m0 cs) (hok:∀ x ∈ xs,qaR x = true) (hc:∀ i,i < n -> w.cell? (ad b (o + i)) = cs[i]?) (hl:xs.length = n) (hI:∀ i,i < n -> I b (o + i)):At w I xs b o:=by
 intro i c hi
 have hlt:i < xs.length:=(List.getElem?_eq_some_iff.1 hi).1
 obtain ⟨v,hv,hrel⟩:=qbf hr i c hi
 exact ⟨hI i (by omega),hok c (List.mem_of_getElem? hi),v,by rw [hc i (by omega)]; exact hv,hrel⟩
theorem qEd {a:Addr} {v:Value} (h:w.cell? a = some v):a = ad a.block a.off:=by
 obtain ⟨b,o,s⟩:=a
 cases s with
 | none=>rfl
 | some s=>
  simp only [World.cell?] at h
  split at h <;> simp at h
theorem qQC (a:Addr) (n:Nat) (h:a = ad a.block a.off):a.add n = ad a.block (a.off + n):=by
 rw [h]; exact qdV _ _ _
theorem qOs {a:Addr} {n i:Nat} (h:i < n):MemPlace.cell a.block (a.off + i) ∈ MemPlace.row a n:=by
 simp only [MemPlace.row,List.mem_map,List.mem_range]
 exact ⟨i,h,rfl⟩
theorem qeD {ts:List TypeId} (hT:q12 P ts = true):∀ (fuel:Nat) {n:Nat} {t:TypeId} {sh:List Sh},shS P n t = some sh -> (∀ e ∈ qcI sh,e ∈ ts) -> ∀ {cs:List Value} {x:DataW H × List MemPlace},DataW.trod enc P w base spare held fuel t cs = some x -> (∀ b o,.cell b o ∈ x.2 -> I b o) ->
  ∃ xs,qgc (Fit maxLen (shT P) fuel) sh xs /\ qaw w I xs m0 cs
 | 0,n,t,sh,hs,he,cs,x,hx,hI=>by simp [DataW.trod] at hx
 | fuel + 1,0,t,sh,hs,he,cs,x,hx,hI=>by simp [shS] at hs
 | fuel + 1,n + 1,t,sh,hs,he,cs,x,hx,hI=>by
  simp only [shS] at hs
  split at hs
  ·rename_i hu
   cases hs
   obtain ⟨b,rfl,rfl⟩:=DataW.trod_bool hu hx
   exact ⟨[.bool b],by simp [qgc,Fit],by simp [qaw,Rel]⟩
  ·rename_i k hu
   cases hs
   obtain ⟨i,rfl,rfl,hw⟩:=DataW.trod_int hu hx
   exact ⟨[.int k i],by simp [qgc,Fit,hw],by simp [qaw,Rel]⟩
  ·rename_i hu
   cases hs
   obtain ⟨s,rfl,rfl,hw⟩:=DataW.trod_string hu hx
   refine ⟨[.str s.data.toList],?_,?_⟩
   ·simp only [qgc,Fit]
    exact ⟨_,[],rfl,⟨_,rfl,by simpa using hw⟩,rfl⟩
   ·simp [qaw,Rel]
  ·rename_i e hu
   simp only [Option.map_eq_some_iff] at hs
   obtain ⟨g,hg,rfl⟩:=hs
   have hem:e ∈ ts:=he e (by simp [qcI])
   have hok:=List.all_eq_true.1 hT e hem
   split at hok
   ·rename_i ec hec
    simp only [Bool.and_eq_true,decide_eq_true_eq,hg] at hok
    obtain ⟨⟨⟨hlen,hpos⟩,hg1⟩,hel⟩:=hok
    have hsh:shT P e = ec:=by simp [shT,hec]
    have hsub:∀ t ∈ qcI ec,t ∈ ts:=fun t ht=>by simpa using List.all_eq_true.1 hel t ht
    ·rcases DataW.trod_slice hu hx with ⟨rfl,rfl⟩ | ⟨a,len,cap,elems,rest,fu,hfu,rfl,rfl,hb,hle,hcap,hlen',hels,_,_⟩
     ·refine ⟨[.view (P.cellsOf e) []],?_,?_⟩
      ·cases g <;> simp [qgc,Fit]
      ·simp only [qaw,Rel]
       exact ⟨_,[],rfl,⟨none,0,by simp,by simp,.inl rfl,fun _=>rfl⟩,rfl⟩
     ·obtain rfl:fuel = fu:=by omega
      have hlm:len <= elems.length + rest.length:=by omega
      generalize hm:elems.length + rest.length = m at *
      have each:∀ i,i < len -> ∃ xs:List AV,qgc (Fit maxLen (shT P) fuel) ec xs /\ ∃ cs',w.cells? base (a.add (i * P.cellsOf e)) (P.cellsOf e) = some cs' /\ qaw w I xs m0 cs':=by
       intro i hi
       have key:=hels i hi
       rw [List.getElem?_eq_getElem (by omega)] at key
       obtain ⟨cs',hc',hd⟩:=Option.bind_eq_some_iff.1 key
       obtain ⟨xs,h1,h2⟩:=qeD hT fuel hec hsub hd fun b o hp=>hI b o (List.mem_append_right _ (List.mem_flatMap.2 ⟨_,List.mem_append_left _ (List.getElem_mem (show i < elems.length by omega)),hp⟩))
       exact ⟨xs,h1,cs',hc',h2⟩
      obtain ⟨F,hF⟩:=Deep.choose_lt each
      let pk:List AV -> AV:=fun xs=>if g then .agg xs else xs.headD .junk
      have hpk:∀ i,i < len -> qac (pk (F i)) = F i /\ (g = true \/ (F i).length = 1):=by
       intro i hi
       obtain ⟨h1,cs',hc',h2⟩:=hF i hi
       have hln:=qg7 h1
       cases g with
       | true=>exact ⟨rfl,.inl rfl⟩
       | false=>
        have h1c:ec.length = 1:=by simpa using hg1
        have hx1:(F i).length = 1:=by omega
        refine ⟨?_,.inr hx1⟩
        match hFi:F i,hx1 with
        | [y],_=>
         simp only [pk]
         have hy:=qgw h1 y (by rw [hFi]; simp)
         cases y <;> first | rfl | simp [qaR] at hy
      have hspot:0 < len -> a = ad a.block a.off:=by
       intro h0
       obtain ⟨_,cs',hc',_⟩:=hF 0 h0
       obtain ⟨_,hcl,hcc⟩:=World.cells?_some hc'
       have h0c:0 < P.cellsOf e:=by omega
       have:=hcc 0 h0c
       have hlt:0 < cs'.length:=by omega
       rw [List.getElem?_eq_getElem hlt] at this
       have:=qEd this
       simpa [Addr.add] using this
      have hflat:∀ k,k <= len -> ∀ o,(∀ i,i < k -> At w I (F i) a.block (o + i * P.cellsOf e)) -> At w I (flat ((List.range k).map fun i=>pk (F i))) a.block o:=by
       intro k
       induction k with
       | zero=>intro _ o _; intro i c hc; simp [flat] at hc
       | succ k ih=>
        intro hk o hall
        rw [List.range_succ,List.map_append,qby,qjB]
        refine ⟨ih (by omega) o fun i hi=>hall i (by omega),?_⟩
        have hfl:(flat ((List.range k).map fun i=>pk (F i))).length = k * P.cellsOf e:=by
         rw [qa5 (sz:=P.cellsOf e) fun x hx=>?_]
         ·simp
         ·obtain ⟨i,hi,rfl⟩:=List.mem_map.1 hx
          have hi':i < k:=by simpa using hi
          rw [(hpk i (by omega)).1,qg7 (hF i (by omega)).1,hlen]
        rw [hfl]
        have:flat ([k].map fun i=>pk (F i)) = F k:=by simp [flat,(hpk k (by omega)).1]
        rw [this]
        exact hall k (by omega)
      refine ⟨[.view (P.cellsOf e) ((List.range len).map fun i=>pk (F i))],?_,?_⟩
      ·simp only [qgc]
       refine ⟨_,[],rfl,?_,rfl⟩
       cases g with
       | true=>
        simp only [Fit]
        refine ⟨_,rfl,by simp; omega,fun x hx=>?_⟩
        obtain ⟨i,hi,rfl⟩:=List.mem_map.1 hx
        exact ⟨F i,rfl,by rw [hsh]; exact (hF i (by simpa using hi)).1⟩
       | false=>
        simp only [Fit]
        refine ⟨_,rfl,by simp; omega,fun x hx=>?_⟩
        obtain ⟨i,hi,rfl⟩:=List.mem_map.1 hx
        have hi':i < len:=by simpa using hi
        have h1:=(hpk i hi').2
        have hg:=(hF i hi').1
        rw [hsh]
        match hFi:F i,h1.resolve_left (by simp) with
        | [y],_=>rw [hFi] at hg; simpa [pk,hFi] using hg
      ·simp only [qaw,Rel]
       refine ⟨_,[],rfl,⟨some a,cap,by simp,by simp; omega,?_,fun hn=>by cases hn⟩,rfl⟩
       rcases Nat.eq_zero_or_pos len with h0 | h0
       ·exact .inl (by simp [h0])
       ·refine .inr ⟨a.block,a.off,by rw [<- hspot h0],qdx.2 ⟨fun x hx=>?_,hflat len (Nat.le_refl _) a.off fun i hi=>?_⟩⟩
        ·obtain ⟨i,hi,rfl⟩:=List.mem_map.1 hx
         have hi':i < len:=by simpa using hi
         rw [(hpk i hi').1,qg7 (hF i hi').1,hlen]
        ·obtain ⟨hg,cs',hc',hr⟩:=hF i hi
         obtain ⟨_,hcl,hcc⟩:=World.cells?_some hc'
         refine qFp hr (qgw hg) (n:=P.cellsOf e) (fun j hj=>?_) (by rw [qg7 hg,hlen]) fun j hj=>?_
         ·rw [<- hcc j hj,qQC a _ (hspot h0),qdV]
         ·have hlt:i * P.cellsOf e + j < m * P.cellsOf e:=by
           calc i * P.cellsOf e + j < i * P.cellsOf e + P.cellsOf e:=by omega
            _ = (i + 1) * P.cellsOf e:=by rw [Nat.add_mul,Nat.one_mul]
            _ <= m * P.cellsOf e:=Nat.mul_le_mul_right _ (by omega)
          have:=hI a.block (a.off + (i * P.cellsOf e + j)) (List.mem_append_left _ (qOs hlt))
          rwa [<- Nat.add_assoc] at this
   ·cases hok
  ·rename_i fs hu
   split at hs
   ·rename_i sc hsc
    split at hs
    ·rename_i hl
     cases hs
     obtain ⟨ys,fu,hfu,rfl,hcl,hyl,hf⟩:=DataW.trod_struct hu hx
     obtain rfl:fuel = fu:=by omega
     have key:∀ (fl:List Field) (k off:Nat) (sc:List Sh),fs.toList.drop k = fl -> qEc P (shS P n) fl off = some sc -> (∀ e ∈ qcI sc,e ∈ ts) -> off + sc.length = cs.length -> ∃ xs,qgc (Fit maxLen (shT P) (fuel + 1)) sc xs /\ qaw w I xs m0 (cs.drop off):=by
      intro fl
      induction fl with
      | nil=>
       intro k off sc _ h1 _ h2
       simp [qEc] at h1; subst h1
       refine ⟨[],by simp [qgc],?_⟩
       have:cs.drop off = []:=by apply List.drop_of_length_le; simp at h2; omega
       rw [this]; simp [qaw]
      | cons f fl ih=>
       intro k off sc hk h1 hel h2
       simp only [qEc] at h1
       split at h1
       ·rename_i hoff
        split at h1
        ·rename_i c1 hc1
         split at h1
         ·rename_i hl1
          split at h1
          ·rename_i r hr
           cases h1
           have hfk:fs[k]? = some f:=by
            have h0:=congrArg (·[0]?) hk
            simpa using h0
           have hdrop:fs.toList.drop (k + 1) = fl:=by
            have h0:=congrArg (List.drop 1) hk
            simpa using h0
           have hlt:k < ys.length:=by rw [hyl]; exact (Array.getElem?_eq_some_iff.1 hfk).1
           have hd:=hf k f hfk
           rw [List.getElem?_eq_getElem hlt] at hd
           rw [qf2] at hel
           obtain ⟨xs,g1,g2⟩:=qeD hT fuel hc1 (fun e he=>hel e (List.mem_append_left _ he)) hd fun b o hp=>hI b o (List.mem_flatMap.2 ⟨_,List.getElem_mem hlt,hp⟩)
           obtain ⟨xs',g3,g4⟩:=ih (k + 1) _ _ hdrop hr (fun e he=>hel e (List.mem_append_right _ he)) (by simp at h2; omega)
           refine ⟨xs ++ xs',qgv (qcC (qg8 _) g1) g3,?_⟩
           have hsplit:cs.drop off = (cs.drop off).take c1.length ++ cs.drop (off + c1.length):=by
            rw [<- List.drop_drop,List.take_append_drop]
           rw [hsplit]
           rw [<- hl1,hoff] at g2
           exact qcv g2 g4
          ·cases h1
         ·cases h1
        ·cases h1
       ·cases h1
     have:=key fs.toList 0 0 _ rfl hsc he (by omega)
     simpa using this
    ·cases hs
   ·cases hs
  ·rename_i k e hu
   split at hs
   ·rename_i ec hec
    split at hs
    ·rename_i hl
     cases hs
     obtain ⟨hl1,hl2⟩:=hl
     obtain ⟨ys,fu,hfu,rfl,hcl,hyl,hf⟩:=DataW.trod_array hu hx
     obtain rfl:fuel = fu:=by omega
     have hzero:k = 0 \/ ∀ e ∈ qcI ec,e ∈ ts:=by
      cases k with
      | zero=>exact .inl rfl
      | succ k=>exact .inr fun e h=>he e (by simp only [qTu,qf2,List.mem_append]; exact .inl h)
     have key:∀ (j i:Nat),i + j = k -> ∃ xs,qgc (Fit maxLen (shT P) (fuel + 1)) (qTu ec j) xs /\ qaw w I xs m0 (cs.drop (i * ec.length)):=by
      intro j
      induction j with
      | zero=>
       intro i hi
       refine ⟨[],by simp [qTu,qgc],?_⟩
       have hik:i = k:=by omega
       have:cs.drop (i * ec.length) = []:=by apply List.drop_of_length_le; rw [hik,hl2]; omega
       rw [this]; simp [qaw]
      | succ j ih=>
       intro i hi
       have hlt:i < ys.length:=by omega
       have hd:=hf i (by omega)
       rw [List.getElem?_eq_getElem hlt] at hd
       obtain ⟨xs,g1,g2⟩:=qeD hT fuel hec (hzero.resolve_left (by omega)) hd fun b o hp=>hI b o (List.mem_flatMap.2 ⟨_,List.getElem_mem hlt,hp⟩)
       obtain ⟨xs',g3,g4⟩:=ih (i + 1) (by omega)
       refine ⟨xs ++ xs',qgv (qcC (qg8 _) g1) g3,?_⟩
       have hsplit:cs.drop (i * ec.length) = (cs.drop (i * ec.length)).take ec.length ++ cs.drop ((i + 1) * ec.length):=by
        rw [Nat.add_mul,Nat.one_mul,<- List.drop_drop,List.take_append_drop]
       rw [hsplit]
       rw [<- hl1] at g2
       exact qcv g2 g4
     have:=key k 0 (by omega)
     simpa using this
    ·cases hs
   ·cases hs
  ·cases hs
end
end Go.Eng
namespace Go.Eng
set_option linter.unusedSectionVars false
variable [Globs]
def qU2 (P:Program):List TypeId -> Option (List (Bool × List Sh))
 | []=>some []
 | t :: ts=>match qaT P t,qU2 P ts with
  | some g,some r=>if g = true \/ (shT P t).length = 1 then some ((g,shT P t) :: r) else none
  | _,_=>none
def qMA (f:Sh -> AV -> Prop):List (Bool × List Sh) -> List AV -> Prop
 | [],avs=>avs = []
 | (true,cs) :: ps,avs=>∃ xs r,avs = .agg xs :: r /\ qgc f cs xs /\ qMA f ps r
 | (false,cs) :: ps,avs=>∃ x r,avs = x :: r /\ qgc f cs [x] /\ qMA f ps r
theorem qka {f g:Sh -> AV -> Prop} (hfg:∀ c x,f c x -> g c x):∀ {ps:List (Bool × List Sh)} {xs:List AV},qMA f ps xs -> qMA g ps xs
 | [],xs,h=>h
 | (true,cs) :: ps,xs,h=>by
  obtain ⟨ys,r,he,h1,h2⟩:=h
  exact ⟨ys,r,he,qcC hfg h1,qka hfg h2⟩
 | (false,cs) :: ps,xs,h=>by
  obtain ⟨y,r,he,h1,h2⟩:=h
  exact ⟨y,r,he,qcC hfg h1,qka hfg h2⟩
theorem qJZ {N:Nat} {T:TypeId -> List Sh} {a b:Nat} (h:a <= b) {c:Sh} {x:AV} (hx:Fit N T a c x):Fit N T b c x:=by
 induction h with
 | refl=>exact hx
 | step _ ih=>exact qg8 _ _ _ ih
section
variable {H:Type} {enc:TypeId × Value -> H} {P:Program} {w:World} {base:Nat} {spare:Nat -> Bool} {held:Bool} {I:Imm}
theorem qN5 {W:World} {r:Reach} {b:Nat} {t:TypeId} {v:Value} (hg:qaT P t = some false) (hv:Value.okWide P W r b t v):v.cells = #[v]:=by
 simp only [qaT,Option.map_eq_some_iff] at hg
 obtain ⟨d,hd,hda⟩:=hg
 cases v with
 | agg cs=>cases d <;> simp_all [Value.okWide,Cell.okWide,Cell.ok]
 | _=>rfl
theorem qSw {W:World} {r:Reach} {b:Nat} {t:TypeId} {v:Value} (hg:qaT P t = some true) (hv:Value.okWide P W r b t v):∃ cs:Array Value,v = .agg cs:=by
 simp only [qaT,Option.map_eq_some_iff] at hg
 obtain ⟨d,hd,hda⟩:=hg
 cases d <;> simp at hda
 ·simp only [Value.okWide,hd] at hv
  obtain ⟨cs,h,_⟩:=hv
  exact ⟨cs,h⟩
 ·simp only [Value.okWide,hd] at hv
  obtain ⟨cs,h,_⟩:=hv
  exact ⟨cs,h⟩
theorem qus {qs:List TypeId} (hT:q12 P qs = true) {W:World} {r:Reach} {b0:Nat}:∀ {ts:List TypeId} {ps:List (Bool × List Sh)} {vs:List Value} {ds:List (DataW H)} {pl:List MemPlace},(∀ t ∈ ts,t ∈ qs) -> qU2 P ts = some ps -> DataW.TrodAll enc P w base spare held ts vs ds pl ->
  (∀ (j:Nat) t v,ts[j]? = some t -> vs[j]? = some v -> Value.okWide P W r b0 t v) -> (∀ b o,.cell b o ∈ pl -> I b o) -> ∃ d avs,qMA (Fit maxLen (shT P) d) ps avs /\ qaw w I avs m0 vs
 | [],ps,[],[],pl,_,hp,_,_,_=>by
  simp [qU2] at hp; subst hp
  exact ⟨0,[],rfl,by simp [qaw]⟩
 | [],ps,_ :: _,_,pl,_,_,h,_,_=>by simp [DataW.TrodAll] at h
 | [],ps,[],_ :: _,pl,_,_,h,_,_=>by simp [DataW.TrodAll] at h
 | _ :: _,ps,[],_,pl,_,_,h,_,_=>by simp [DataW.TrodAll] at h
 | _ :: _,ps,_ :: _,[],pl,_,_,h,_,_=>by simp [DataW.TrodAll] at h
 | t :: ts,ps,v :: vs,d :: ds,pl,hq,hp,h,hv,hI=>by
  simp only [DataW.TrodAll] at h
  obtain ⟨p,q,⟨fu,hd⟩,hrest,rfl⟩:=h
  simp only [qU2] at hp
  split at hp
  ·rename_i g rr hg hr
   split at hp
   ·cases hp
    have hok:=List.all_eq_true.1 hT t (hq t (by simp))
    split at hok
    ·rename_i cs hcs
     have hsh:shT P t = cs:=by simp [shT,hcs]
     simp only [Bool.and_eq_true] at hok
     obtain ⟨_,hel⟩:=hok
     obtain ⟨xs,h1,h2⟩:=qeD hT fu hcs (fun e he=>by simpa using List.all_eq_true.1 hel e he) hd fun b o hm=>hI b o (List.mem_append_left _ hm)
     obtain ⟨d',avs,h3,h4⟩:=qus hT (fun t ht=>hq t (by simp [ht])) hr hrest (fun j t v ht hv'=>hv (j + 1) t v (by simpa using ht) (by simpa using hv')) fun b o hm=>hI b o (List.mem_append_right _ hm)
     have h1':=qcC (fun c x=>qJZ (Nat.le_max_left fu d')) h1
     have h3':=qka (fun c x=>qJZ (Nat.le_max_right fu d')) h3
     have hok:=hv 0 t v rfl rfl
     rw [hsh]
     refine ⟨max fu d',?_⟩
     cases g with
     | true=>
      obtain ⟨ca,rfl⟩:=qSw hg hok
      refine ⟨.agg xs :: avs,⟨xs,avs,rfl,h1',h3'⟩,?_⟩
      simp only [qaw,Rel]
      exact ⟨_,vs,rfl,⟨ca.toList,by simp,h2⟩,h4⟩
     | false=>
      have hcell:=qN5 hg hok
      rw [hcell] at h2
      match xs,h2 with
      | [x],h2=>
       simp only [qaw] at h2
       obtain ⟨v',vs',he,h2,_⟩:=h2
       cases he
       refine ⟨x :: avs,⟨x,avs,rfl,h1',h3'⟩,?_⟩
       simp only [qaw]
       exact ⟨v,vs,rfl,h2,h4⟩
      | [],h2=>simp [qaw] at h2
      | _ :: _ :: _,h2=>
       have:=qaH h2
       simp at this
    ·cases hok
   ·cases hp
  ·cases hp
theorem qBE {IP:Prog} (hP:qyC P IP) {f:FuncId} {avs:List AV} {W:World} {vs:List Value} (hI:∀ b o,I b o -> b < W.heap.size) (hg:GlobAt W I) (hr:qaw W I avs m0 vs) {n:Nat} (hn:(qaq IP n).1 f avs [] = some (.ret (.bool true),[])) (hf:(IP.fn f).isSome = true:=by kernel_rfl) :
  Calls P f vs.toArray W fun e W'=>e = .returned (.bool true) /\ RowKit.Below W.heap.size W W':=by
 have H0:HeapAt W I m0 []:=⟨fun i b hb=>by simp [qad] at hb,fun i j a b L L' hi=>by simp [qad] at hi,hI,hg⟩
 have hC:Calls P f vs.toArray W (Post W I m0 [] (.ret (.bool true)) []):=by
  cases n with
  | zero=>simp [qaq] at hn
  | succ n=>
   simp only [qaq] at hn
   obtain ⟨F,hF⟩:=Option.isSome_iff_exists.1 hf
   rw [hF] at hn
   exact (qb0 (qkB hP n).1 (qkB hP n).2 (hP.1 f F hF) hn).2 W I m0 vs H0 (fun _ _=>rfl) hr
 refine hC.mono ?_
 rintro e W' ⟨I',m',hA,u,rfl,hu⟩
 simp only [Rel] at hu
 subst hu
 refine ⟨rfl,hA.stays.out.1,hA.stays.out.2.2,hA.stays.out.2.1,hA.stays.size,fun k hk=>hA.frame k hk ?_⟩
 rintro ⟨i,a,L,hi,_⟩
 simp [qad] at hi
theorem qhw (hl:laidOutB P = true) {W W':World} {sp':Nat -> Bool}:∀ {ts:List TypeId} {vs:List Value} {ds:List (DataW H)} {ps:List MemPlace},(∀ t ∈ ts,P.readableRec t = true /\ t < P.types.size) ->
  DataW.TrodAll enc P W base (fun _=>true) true ts vs ds ps -> (∀ p ∈ ps,W.sameAt W' p) -> (∀ p ∈ ps,sp' p.block = true) -> DataW.TrodAll enc P W' base sp' true ts vs ds ps
 | [],[],[],ps,_,h,_,_=>h
 | [],_ :: _,_,ps,_,h,_,_=>by simp [DataW.TrodAll] at h
 | [],[],_ :: _,ps,_,h,_,_=>by simp [DataW.TrodAll] at h
 | _ :: _,[],_,ps,_,h,_,_=>by simp [DataW.TrodAll] at h
 | _ :: _,_ :: _,[],ps,_,h,_,_=>by simp [DataW.TrodAll] at h
 | t :: ts,v :: vs,d :: ds,ps,ht,h,hs,hsp=>by
  simp only [DataW.TrodAll] at h ⊢
  obtain ⟨p,q,hd,hrest,rfl⟩:=h
  exact ⟨p,q,WideElems.Trod_stays hl (ht t (by simp)).1 (ht t (by simp)).2 hd (fun x hx=>hs x (List.mem_append_left _ hx)) fun x hx=>hsp x (List.mem_append_left _ hx),
   qhw hl (fun t' h'=>ht t' (by simp [h'])) hrest (fun x hx=>hs x (List.mem_append_right _ hx)) fun x hx=>hsp x (List.mem_append_right _ hx),rfl⟩
theorem qF2 {f:Func} {s:ChangeSpec} {fresh handsOn again:Bool} {W W':World} {args:Array Value} {ds gs:List (DataW H)} {before:List MemPlace} {tb:TypeId} (hl:laidOutB P = true) (hread:∀ t ∈ f.params.toList,P.readableRec t = true /\ t < P.types.size)
  (hvars:s.vars = []) (hres:f.resultTypes = #[tb]) (htb:P.underlying tb = some .bool) (hs1:(s.fn H (ds ++ gs)).results = [.lit (.bool true)]) (hs2:(s.fn H (ds ++ gs)).args = ds) (hs3:(s.fn H (ds ++ gs)).vars = [])
  (hW:DataW.Whole enc P f.params.toList s.vars false W args.toList ds gs before) (hb:RowKit.Below W.heap.size W W'):s.post enc P f false fresh handsOn again W args (.bool true) W':=by
 have hlt:=hW.lt
 have hW0:=hW
 obtain ⟨p,q,hA,hV,rfl,hz,hn⟩:=hW
 rw [hvars] at hV
 have hq:q = []:=by
  cases gs with
  | nil=>simpa [DataW.TrodVars] using hV
  | cons=>simp [DataW.TrodVars] at hV
 subst hq
 have hsame:∀ x ∈ p,W.sameAt W' x:=fun x hx=>hb.same (by have:=hlt x (List.mem_append_left _ hx); simpa using this)
 have hr1:∀ (b:Nat) (sp:Nat -> Bool) (hd:Bool),DataW.TrodAll enc P W' b sp hd f.resultTypes.toList ((Value.bool true).resultList f.resultTypes.size) (s.fn H (ds ++ gs)).results []:=by
  intro b sp hd
  rw [hres,hs1]
  exact ⟨[],[],⟨1,by simp [Value.resultList,Value.cells,DataW.trod,htb]⟩,rfl,rfl⟩
 have hr2:∀ sp:Nat -> Bool,(∀ x ∈ p,sp x.block = true) -> DataW.TrodAll enc P W' 0 sp true f.params.toList args.toList (s.fn H (ds ++ gs)).args p:=by
  intro sp hsp
  rw [hs2]
  exact qhw hl hread hA hsame hsp
 have hr3:∀ sp:Nat -> Bool,DataW.TrodVars enc P W' sp s.vars (s.fn H (ds ++ gs)).vars []:=by
  intro sp
  rw [hvars,hs3]
  rfl
 have hold:∀ x ∈ p,decide (x.block < W.heap.size) = true:=fun x hx=>by simpa using hlt x (List.mem_append_left _ hx)
 refine ⟨ds,gs,p ++ [],[],p,[],hW0,hr1 _ _ _,hr2 _ hold,hr3 _,hb.frame _,fun _=>⟨?_,_,_,([] ++ p) ++ [],⟨[] ++ p,[],ChangeShapes.trodAll_append (hr2 _ fun _ _=>rfl) (hr1 _ _ _),hr3 _,rfl,?_,fun h=>by cases h⟩,?_⟩⟩
 ·intro j t r hj hr
  rw [hres] at hj hr
  match j,hj,hr with
  | 0,hj,hr=>
   simp [Value.resultList] at hj hr
   subst hj; subst hr
   simp [Value.okWide,htb,Cell.okWide,Cell.ok]
 ·intro b off hp
  have hp':MemPlace.cell b off ∈ p ++ []:=by simpa using hp
  rw [hb.frozen (p:=⟨b,off,none⟩) (hlt _ hp')]
  exact hz b off hp'
 ·intro x hx _
  simpa using hx
end
end Go.Eng
namespace Go.Eng
section
variable {IP:Prog}
def LeC (c c':qaL):Prop:=∀ f a h r,c f a h = some r -> c' f a h = some r
def LeL (l l':qdj):Prop:=∀ k c s r,l k c s = some r -> l' k c s = some r
theorem qhD {c c':qaL} (hc:LeC c c') {h:Heap} {nx f:Nat} {args:List AV} {r:Res × Heap × Bool} (hs:qe4 IP c h nx f args = some r):qe4 IP c' h nx f args = some r:=by
 simp only [qe4] at hs ⊢
 split at hs
 ·cases hs
 ·rename_i args' roots hp
  split at hs
  ·rename_i moved shwn h1 h2
   split at hs
   ·rename_i hd
    split at hs
    ·cases hs
    ·rename_i r0 h0 hcl
     simp only [h1,h2,hd,if_true,hc _ _ _ _ hcl]
     exact hs
   ·cases hs
  ·cases hs
theorem qnG {c c':qaL} (hc:LeC c c') {nx:Nat} {ev:Opd -> AV} {h:Heap} {io:IOp} {r:Res × Heap × Bool} (hs:opS IP c nx ev h io = some r):opS IP c' nx ev h io = some r:=by
 cases io <;> try exact hs
 case call f xs=>exact qhD hc hs
 case callv x xs=>
  simp only [opS] at hs ⊢
  split at hs
  ·exact qhD hc hs
  ·cases hs
 case invk tbl x xs=>
  simp only [opS] at hs ⊢
  split at hs
  ·split at hs
   ·exact qhD hc hs
   ·cases hs
  ·cases hs
theorem qmY {c c':qaL} (hc:LeC c c') {nx:Nat} {o:IOper} {e:Env} {h:Heap} {s:Step} (hs:qbt IP c nx o e h = some s):qbt IP c' nx o e h = some s:=by
 simp only [qbt] at hs ⊢
 split at hs
 ·cases hs
 ·exact hs
 ·split at hs
  ·cases hs
  ·rename_i r hr
   split at hs
   ·cases hs
   ·rename_i v out w ho
    simp only [qnG hc ho]
    exact hs
   ·rename_i v out w ho
    simp only [qnG hc ho]
    exact hs
theorem qgF {c c':qaL} (hc:LeC c c'):∀ {ops:List IOper} {e:Env} {h:Heap} {nx:Nat} {log:List Step} {r:X × Env × Heap × List Step},qbK IP c ops e h nx log = some r -> qbK IP c' ops e h nx log = some r
 | [],e,h,nx,log,r,hs=>hs
 | o :: ops,e,h,nx,log,r,hs=>by
  simp only [qbK] at hs ⊢
  cases hq:qbt IP c nx o e h with
  | none=>simp [hq] at hs
  | some s=>
   rw [qmY hc hq]
   rw [hq] at hs
   cases s with
   | pan a b d=>exact hs
   | skip=>exact qgF hc hs
   | did a b d f=>exact qgF hc hs
theorem qgE {c c':qaL} (hc:LeC c c') {base:Nat}:∀ {ops:List IOper} {i:Nat} {e:Env} {h:Heap} {log:List Step} {r:Option AV × Env × Heap × List Step},qck IP c base i ops e h log = some r -> qck IP c' base i ops e h log = some r
 | [],i,e,h,log,r,hs=>hs
 | o :: ops,i,e,h,log,r,hs=>by
  simp only [qck] at hs ⊢
  cases hq:qbt IP c (base + 16 * i) o e h with
  | none=>simp [hq] at hs
  | some s=>
   rw [qmY hc hq]
   rw [hq] at hs
   simp only at hs ⊢
   split at hs
   ·exact hs
   ·split at hs
    ·rename_i ht
     rw [if_pos ht]
     exact qgE hc hs
    ·cases hs
theorem qlD {c c':qaL} (hc:LeC c c') {ops:List IOper} {d:Option (List (List Nat))} {s:St} {r:X × St} (hs:qaV IP c ops d s = some r):qaV IP c' ops d s = some r:=by
 simp only [qaV] at hs ⊢
 split at hs
 ·split at hs
  ·cases hs
  ·rename_i q; rw [qgF hc q]; exact hs
 ·split at hs
  ·cases hs
  ·rename_i q; simp only [qgE hc q]; exact hs
  ·rename_i q; simp only [qgE hc q]; exact hs
theorem qe9 {c c':qaL} (hc:LeC c c') {l l':qdj} (hl:LeL l l'):∀ {ic:ICode} {s:St} {r:X × St},qbi IP c l ic s = some r -> qbi IP c' l' ic s = some r:=by
 intro ic
 induction ic with
 | skip=>intro s r h; exact h
 | region ops d=>intro s r h; exact qlD hc h
 | seq a b iha ihb=>
  intro s r h
  simp only [qbi] at h ⊢
  split at h
  ·rename_i s1 h1
   rw [iha h1]
   exact ihb h
  ·rename_i hne
   rw [iha h]
   split
   ·rename_i s1 he
    cases he
    exact absurd h (hne s1)
   ·rfl
 | cond x a b iha ihb=>
  intro s r h
  simp only [qbi] at h ⊢
  split at h
  ·exact iha h
  ·exact ihb h
  ·cases h
 | block id a ih=>
  intro s r h
  simp only [qbi] at h ⊢
  split at h
  ·rename_i j s1 h1
   rw [ih h1]; exact h
  ·rename_i hne
   rw [ih h]
   split
   ·rename_i j s1 he
    cases he
    exact absurd h (hne j s1)
   ·rfl
 | loop k a ih=>intro s r h; exact hl _ _ _ _ h
 | exit id=>intro s r h; exact h
 | ret=>intro s r h; exact h
theorem qpq {c c':qaL} (hc:LeC c c') {l l':qdj} (hl:LeL l l') {f:Nat} {F:Fun} {args:List AV} {h:Heap} {r:Res × Heap} (hs:body IP c l f F args h = some r):body IP c' l' f F args h = some r:=by
 simp only [body] at hs ⊢
 cases hq:qbi IP c l F.body ⟨params 0 args,wH IP f h,h.length,h.length⟩ with
 | none=>simp [hq] at hs
 | some q=>rw [qe9 hc hl hq]; rw [hq] at hs; exact hs
theorem qix:∀ n,LeC (qaq IP n).1 (qaq IP (n + 1)).1 /\ LeL (qaq IP n).2 (qaq IP (n + 1)).2
 | 0=>⟨fun f a h r hr=>by simp [qaq] at hr,fun k c s r hr=>by simp [qaq] at hr⟩
 | n + 1=>by
  obtain ⟨h1,h2⟩:=qix n
  constructor
  ·intro f a h r hr
   have e1:(qaq IP (n + 1)).1 f a h = match IP.fn f with
    | some F=>body IP (qaq IP n).1 (qaq IP n).2 f F a h
    | none=>match IP.spec f with
     | some g=>g a h
     | none=>match IP.seen f with
      | some s=>s.g (qaq IP n).1 a h
      | none=>none:=rfl
   have e2:(qaq IP (n + 1 + 1)).1 f a h = match IP.fn f with
    | some F=>body IP (qaq IP (n + 1)).1 (qaq IP (n + 1)).2 f F a h
    | none=>match IP.spec f with
     | some g=>g a h
     | none=>match IP.seen f with
      | some s=>s.g (qaq IP (n + 1)).1 a h
      | none=>none:=rfl
   rw [e1] at hr
   rw [e2]
   split at hr
   ·exact qpq h1 h2 hr
   ·split at hr
    ·exact hr
    ·split at hr
     ·rename_i s hs
      exact s.mono _ _ h1 _ _ _ hr
     ·cases hr
  ·intro k c s r hr
   have e1:∀ m,(qaq IP (m + 1)).2 k c s = match norm (hk k) s with
    | none=>none
    | some s=>match qbi IP (qaq IP m).1 (qaq IP m).2 c s with
     | some (.normal,s)=>(qaq IP m).2 k c s
     | some (x,s)=>qnH k x s
     | none=>none:=fun _=>rfl
   rw [e1] at hr ⊢
   split at hr
   ·cases hr
   ·rename_i s1 hn
    split at hr
    ·rename_i s2 hx
     simp only [qe9 h1 h2 hx]
     exact h2 _ _ _ _ hr
    ·rename_i x s2 hne hx
     simp only [qe9 h1 h2 hx]
     cases x with
     | normal=>exact absurd rfl (hne)
     | _=>exact hr
    ·cases hr
theorem qaS {n m:Nat} (h:n <= m):LeC (qaq IP n).1 (qaq IP m).1 /\ LeL (qaq IP n).2 (qaq IP m).2:=by
 induction h with
 | refl=>exact ⟨fun _ _ _ _ h=>h,fun _ _ _ _ h=>h⟩
 | step _ ih=>
  obtain ⟨h1,h2⟩:=qix (IP:=IP) _
  exact ⟨fun f a h r hr=>h1 _ _ _ _ (ih.1 _ _ _ _ hr),fun k c s r hr=>h2 _ _ _ _ (ih.2 _ _ _ _ hr)⟩
open Classical in
noncomputable def qal (IP:Prog):qaL:=fun f a h=>if hx:∃ n r,(qaq IP n).1 f a h = some r then (qaq IP (Classical.choose hx)).1 f a h else none
open Classical in
noncomputable def qfY (IP:Prog):qdj:=fun k c s=>if hx:∃ n r,(qaq IP n).2 k c s = some r then (qaq IP (Classical.choose hx)).2 k c s else none
theorem qbw {f:Nat} {a:List AV} {h:Heap} {r:Res × Heap}:qal IP f a h = some r ↔ ∃ n,(qaq IP n).1 f a h = some r:=by
 constructor
 ·intro hr
  simp only [qal] at hr
  split at hr
  ·exact ⟨_,hr⟩
  ·cases hr
 ·rintro ⟨n,hn⟩
  have hx:∃ n r,(qaq IP n).1 f a h = some r:=⟨n,r,hn⟩
  simp only [qal,dif_pos hx]
  obtain ⟨r',hr'⟩:=Classical.choose_spec hx
  rw [hr']
  rcases Nat.le_total n (Classical.choose hx) with hle | hle
  ·rw [(qaS hle).1 _ _ _ _ hn] at hr'; exact hr'.symm
  ·have:=(qaS hle).1 _ _ _ _ hr'
   rw [hn] at this; exact this.symm
theorem qd5 {k:List Nat} {c:ICode} {s:St} {r:X × St}:qfY IP k c s = some r ↔ ∃ n,(qaq IP n).2 k c s = some r:=by
 constructor
 ·intro hr
  simp only [qfY] at hr
  split at hr
  ·exact ⟨_,hr⟩
  ·cases hr
 ·rintro ⟨n,hn⟩
  have hx:∃ n r,(qaq IP n).2 k c s = some r:=⟨n,r,hn⟩
  simp only [qfY,dif_pos hx]
  obtain ⟨r',hr'⟩:=Classical.choose_spec hx
  rw [hr']
  rcases Nat.le_total n (Classical.choose hx) with hle | hle
  ·rw [(qaS hle).2 _ _ _ _ hn] at hr'; exact hr'.symm
  ·have:=(qaS hle).2 _ _ _ _ hr'
   rw [hn] at this; exact this.symm
theorem qjH {h:Heap} {nx f:Nat} {args:List AV} {r:Res × Heap × Bool} (hs:qe4 IP (qal IP) h nx f args = some r):∃ n0,∀ n,n0 <= n -> qe4 IP (qaq IP n).1 h nx f args = some r:=by
 have hs0:=hs
 simp only [qe4] at hs
 split at hs
 ·cases hs
 ·rename_i args' roots hp
  split at hs
  ·rename_i moved shwn h1 h2
   split at hs
   ·rename_i hd
    split at hs
    ·cases hs
    ·rename_i r0 h0 hcl
     obtain ⟨n0,hn0⟩:=qbw.1 hcl
     refine ⟨n0,fun n hn=>?_⟩
     have:=(qaS hn).1 _ _ _ _ hn0
     simp only [qe4,hp,h1,h2,hd,if_true,this]
     exact hs
   ·cases hs
  ·cases hs
theorem qCH {nx:Nat} {ev:Opd -> AV} {h:Heap} {io:IOp} {r:Res × Heap × Bool} (hs:opS IP (qal IP) nx ev h io = some r):∃ n0,∀ n,n0 <= n -> opS IP (qaq IP n).1 nx ev h io = some r:=by
 cases io <;> try exact ⟨0,fun n _=>hs⟩
 case call f xs=>exact qjH hs
 case callv x xs=>
  simp only [opS] at hs ⊢
  split at hs
  ·exact qjH hs
  ·cases hs
 case invk tbl x xs=>
  simp only [opS] at hs ⊢
  split at hs
  ·split at hs
   ·exact qjH hs
   ·cases hs
  ·cases hs
theorem qrP {nx:Nat} {o:IOper} {e:Env} {h:Heap} {s:Step} (hs:qbt IP (qal IP) nx o e h = some s):∃ n0,∀ n,n0 <= n -> qbt IP (qaq IP n).1 nx o e h = some s:=by
 simp only [qbt] at hs ⊢
 split at hs
 ·cases hs
 ·exact ⟨0,fun n _=>hs⟩
 ·split at hs
  ·cases hs
  ·rename_i r hr
   split at hs
   ·cases hs
   ·rename_i v out w ho
    obtain ⟨n0,h0⟩:=qCH ho
    exact ⟨n0,fun n hn=>by simp only [h0 n hn]; exact hs⟩
   ·rename_i v out w ho
    obtain ⟨n0,h0⟩:=qCH ho
    exact ⟨n0,fun n hn=>by simp only [h0 n hn]; exact hs⟩
theorem qh9:∀ {ops:List IOper} {e:Env} {h:Heap} {nx:Nat} {log:List Step} {r:X × Env × Heap × List Step},qbK IP (qal IP) ops e h nx log = some r -> ∃ n0,∀ n,n0 <= n -> qbK IP (qaq IP n).1 ops e h nx log = some r
 | [],e,h,nx,log,r,hs=>⟨0,fun n _=>hs⟩
 | o :: ops,e,h,nx,log,r,hs=>by
  simp only [qbK] at hs ⊢
  cases hq:qbt IP (qal IP) nx o e h with
  | none=>simp [hq] at hs
  | some s=>
   obtain ⟨n0,h0⟩:=qrP hq
   rw [hq] at hs
   cases s with
   | pan a b d=>exact ⟨n0,fun n hn=>by rw [h0 n hn]; exact hs⟩
   | skip=>
    obtain ⟨n1,h1⟩:=qh9 hs
    exact ⟨max n0 n1,fun n hn=>by rw [h0 n (by omega)]; exact h1 n (by omega)⟩
   | did a b d f=>
    obtain ⟨n1,h1⟩:=qh9 hs
    exact ⟨max n0 n1,fun n hn=>by rw [h0 n (by omega)]; exact h1 n (by omega)⟩
theorem qh8 {base:Nat}:∀ {ops:List IOper} {i:Nat} {e:Env} {h:Heap} {log:List Step} {r:Option AV × Env × Heap × List Step},qck IP (qal IP) base i ops e h log = some r -> ∃ n0,∀ n,n0 <= n -> qck IP (qaq IP n).1 base i ops e h log = some r
 | [],i,e,h,log,r,hs=>⟨0,fun n _=>hs⟩
 | o :: ops,i,e,h,log,r,hs=>by
  simp only [qck] at hs ⊢
  cases hq:qbt IP (qal IP) (base + 16 * i) o e h with
  | none=>simp [hq] at hs
  | some s=>
   obtain ⟨n0,h0⟩:=qrP hq
   rw [hq] at hs
   simp only at hs
   split at hs
   ·rename_i hp
    exact ⟨n0,fun n hn=>by rw [h0 n hn]; simp only [hp]; exact hs⟩
   ·rename_i hp
    split at hs
    ·rename_i ht
     obtain ⟨n1,h1⟩:=qh8 hs
     exact ⟨max n0 n1,fun n hn=>by rw [h0 n (by omega)]; simp only [hp]; rw [if_pos ht]; exact h1 n (by omega)⟩
    ·cases hs
theorem qnX {ops:List IOper} {d:Option (List (List Nat))} {s:St} {r:X × St} (hs:qaV IP (qal IP) ops d s = some r):∃ n0,∀ n,n0 <= n -> qaV IP (qaq IP n).1 ops d s = some r:=by
 simp only [qaV] at hs ⊢
 cases d with
 | none=>
  simp only at hs ⊢
  split at hs
  ·cases hs
  ·rename_i q
   obtain ⟨n0,h0⟩:=qh9 q
   exact ⟨n0,fun n hn=>by rw [h0 n hn]; exact hs⟩
 | some bf=>
  simp only at hs ⊢
  split at hs
  ·cases hs
  ·rename_i q
   obtain ⟨n0,h0⟩:=qh8 q
   exact ⟨n0,fun n hn=>by simp only [h0 n hn]; exact hs⟩
  ·rename_i q
   obtain ⟨n0,h0⟩:=qh8 q
   exact ⟨n0,fun n hn=>by simp only [h0 n hn]; exact hs⟩
theorem quI:∀ {ic:ICode} {s:St} {r:X × St},qbi IP (qal IP) (qfY IP) ic s = some r -> ∃ n0,∀ n,n0 <= n -> qbi IP (qaq IP n).1 (qaq IP n).2 ic s = some r:=by
 intro ic
 induction ic with
 | skip=>intro s r h; exact ⟨0,fun n _=>h⟩
 | region ops d=>intro s r h; exact qnX h
 | seq a b iha ihb=>
  intro s r h
  simp only [qbi] at h ⊢
  split at h
  ·rename_i s1 h1
   obtain ⟨n0,h0⟩:=iha h1
   obtain ⟨n1,h1⟩:=ihb h
   exact ⟨max n0 n1,fun n hn=>by rw [h0 n (by omega)]; exact h1 n (by omega)⟩
  ·rename_i hne
   obtain ⟨n0,h0⟩:=iha h
   refine ⟨n0,fun n hn=>?_⟩
   rw [h0 n hn]
   split
   ·rename_i s1 he
    cases he
    exact absurd h (hne s1)
   ·rfl
 | cond x a b iha ihb=>
  intro s r h
  simp only [qbi] at h ⊢
  split at h
  ·exact iha h
  ·exact ihb h
  ·cases h
 | block id a ih=>
  intro s r h
  simp only [qbi] at h ⊢
  split at h
  ·rename_i j s1 h1
   obtain ⟨n0,h0⟩:=ih h1
   exact ⟨n0,fun n hn=>by rw [h0 n hn]; exact h⟩
  ·rename_i hne
   obtain ⟨n0,h0⟩:=ih h
   refine ⟨n0,fun n hn=>?_⟩
   rw [h0 n hn]
   split
   ·rename_i j s1 he
    cases he
    exact absurd h (hne j s1)
   ·rfl
 | loop k a ih=>
  intro s r h
  obtain ⟨n0,h0⟩:=qd5.1 h
  exact ⟨n0,fun n hn=>(qaS hn).2 _ _ _ _ h0⟩
 | exit id=>intro s r h; exact ⟨0,fun n _=>h⟩
 | ret=>intro s r h; exact ⟨0,fun n _=>h⟩
theorem qhE {f:Nat} {g:List AV -> Heap -> Option (Res × Heap)} (hF:IP.fn f = none) (hS:IP.spec f = some g) {a:List AV} {h:Heap} {r:Res × Heap} (hr:g a h = some r):qal IP f a h = some r:=
 qbw.2 ⟨1,by simp only [qaq,hF,hS]; exact hr⟩
theorem qlJ {f:Nat} {s:Seen} (hF:IP.fn f = none) (hS:IP.spec f = none) (hs:IP.seen f = some s) {a:List AV} {h:Heap} {r:Res × Heap} {n:Nat} (hr:s.g (qaq IP n).1 a h = some r):qal IP f a h = some r:=
 qbw.2 ⟨n + 1,by simp only [qaq,hF,hS,hs]; exact hr⟩
theorem quv {f:Nat} {F:Fun} (hF:IP.fn f = some F) {a:List AV} {h:Heap} {r:Res × Heap} (hb:body IP (qal IP) (qfY IP) f F a h = some r):qal IP f a h = some r:=by
 simp only [body] at hb
 cases hq:qbi IP (qal IP) (qfY IP) F.body ⟨params 0 a,wH IP f h,h.length,h.length⟩ with
 | none=>simp [hq] at hb
 | some q=>
  obtain ⟨n0,h0⟩:=quI hq
  refine qbw.2 ⟨n0 + 1,?_⟩
  simp only [qaq,hF,body,h0 n0 (Nat.le_refl _)]
  rw [hq] at hb
  exact hb
theorem qiW {k:List Nat} {c:ICode} {s s1:St} (hn:norm (hk k) s = some s1) {x:X} {s2:St} (hx:qbi IP (qal IP) (qfY IP) c s1 = some (x,s2)) {r:X × St} (hr:(match x with | .normal=>qfY IP k c s2 | x=>qnH k x s2) = some r):qfY IP k c s = some r:=by
 obtain ⟨n0,h0⟩:=quI hx
 cases x with
 | normal=>
  obtain ⟨n1,h1⟩:=qd5.1 hr
  refine qd5.2 ⟨max n0 n1 + 1,?_⟩
  simp only [qaq,hn,h0 (max n0 n1) (by omega)]
  exact (qaS (by omega)).2 _ _ _ _ h1
 | _=>
  refine qd5.2 ⟨n0 + 1,?_⟩
  simp only [qaq,hn,h0 n0 (Nat.le_refl _)]
  exact hr
end
end Go.Eng
namespace Go.Eng
def qcM (s:List UInt8) (i:Int):Int:=((qeY s i).getD 0).toNat
def inB (n:Nat) (i:Int):Bool:=decide (0 <= i) && decide (i < n)
theorem qzh {α:Type} {l:List α} {i:Int} (h:inB l.length i = true):∃ x,qeY l i = some x:=by
 simp only [inB,Bool.and_eq_true,decide_eq_true_eq] at h
 have:i.toNat < l.length:=by omega
 exact ⟨l[i.toNat],by simp [qeY,h.1,this]⟩
def qB8:Option AV -> Nat
 | some (.int _ n)=>n.toNat
 | _=>0
def qhU (len:Nat):Option AV -> Nat
 | some (.int _ n)=>n.toNat
 | _=>len
def leB (n:Int) (m:Nat):Bool:=decide (0 <= n) && decide (n <= m)
def qPe (len cap:Nat) (lo hi:Option AV):Bool:=
 (match hi with
  | none=>true
  | some (.int _ n)=>leB n cap
  | _=>false) &&
 (match lo with
  | none=>true
  | some (.int _ n)=>leB n (qhU len hi)
  | _=>false)
theorem qgY {len cap:Nat} {lo hi:Option AV} (h:qPe len cap lo hi = true):qdo len cap lo hi = some (qB8 lo,qhU len hi):=by
 simp only [qPe,Bool.and_eq_true] at h
 obtain ⟨h1,h2⟩:=h
 have e1:qwZ len cap hi = some (qhU len hi):=by
  cases hi with
  | none=>rfl
  | some v=>cases v <;> simp_all [leB,qwZ,qhU]
 simp only [qdo,e1]
 cases lo with
 | none=>rfl
 | some v=>cases v <;> simp_all [leB,qN0,qB8]
def qPg {α:Type} (es:List α) (lo hi:Option AV):List α:=match lo,hi with
 | none,none=>es
 | none,some h=>es.take (qhU es.length (some h))
 | some l,none=>es.drop (qB8 (some l))
 | some l,some h=>(es.drop (qB8 (some l))).take (qhU es.length (some h) - qB8 (some l))
theorem qzC {α:Type} (es:List α) (lo hi:Option AV):qPg es lo hi = (es.drop (qB8 lo)).take (qhU es.length hi - qB8 lo):=by
 cases lo <;> cases hi
 ·simp [qPg,qB8,qhU]
 ·simp [qPg,qB8]
 ·rename_i v
  simp only [qPg]
  rw [show qhU es.length none = es.length from rfl,List.take_of_length_le (by simp)]
 ·rfl
abbrev Alt:=Bool × (Res × Heap × Bool)
def room (n bytes:Nat):Bool:=decide (n * bytes <= lim)
def leO (off n:Nat):Bool:=match off with
 | 0=>true
 | k + 1=>decide (k + 1 <= n)
theorem qSz {off n:Nat} (h:leO off n = true):off <= n:=by
 cases off
 ·omega
 ·exact of_decide_eq_true h
def qZG (h:Heap) (sz:Nat):AV -> Option (Bool × List AV)
 | .nils _=>some (true,[])
 | .view sz' es=>some (decide (sz' = sz),es)
 | .own id off lo=>match qad h id with
  | some (.arr sz' es _)=>match lo with
   | some len=>some (decide (sz' = sz) && decide (off + len <= es.length),qrV es off (some len))
   | none=>some (decide (sz' = sz),qni es off)
  | _=>none
 | _=>none
theorem qOz {h:Heap} {sz:Nat} {v:AV} {es:List AV} (hs:qZG h sz v = some (true,es)):qn0 h sz v = some es:=by
 cases v <;> simp only [qZG,qn0] at hs ⊢ <;> try (simp at hs; done)
 case nils=>simpa using hs
 case view sz' es'=>simp at hs; simp [hs]
 case own id off lo=>
  split at hs
  ·rename_i sz' es' fz hl
   rw [hl]
   cases lo with
   | none=>simp at hs; simp [hs]
   | some len=>simp at hs; simp [hs]
  ·cases hs
def qnc (h:Heap) (nx sz bytes:Nat) (s:AV) (b:Bool) (src:List AV):List Alt:=
  match s with
  | .nils ⟨_,.non⟩=>[(decide (src.length = 0) && b,.ret s,h,true)]
  | .nils _=>[(decide (src.length = 0) && b,.ret s,h,true),(decide (src.length ≠ 0) && (b && room src.length bytes),.ret (.own nx 0 none),qbu h nx (.arr sz src false),true)]
  | .own id off lo=>match qad h id with
    | some (.arr sz' es false)=>match lo with
      | none=>
        [(decide (src.length = 0) && (decide (sz' = sz) && b),.ret s,h,true),
         (decide (src.length ≠ 0) && (decide (sz' = sz) && (b && (leO off es.length && room (qa9 es.length off none + src.length) bytes))),.ret (.own nx 0 none),qbu (qqk h id) nx (.arr sz (qni es off ++ src) false),true)]
      | some len=>
        [(decide (src.length = 0) && (decide (sz' = sz) && b),.ret s,h,true),
         (decide (src.length ≠ 0) && (decide (sz' = sz) && (decide (off + len + src.length <= es.length) && b)),.ret (.own id off (some (len + src.length))),qbu h id (.arr sz (es.take (off + len) ++ src ++ es.drop (off + len + src.length)) false),true),
         (decide (src.length ≠ 0) && (decide (sz' = sz) && (decide (es.length < off + len + src.length) && (b && (decide (off + len <= es.length) && room (len + src.length) bytes)))),.ret (.own nx 0 none),qbu (qqk h id) nx (.arr sz (qrV es off (some len) ++ src) false),true)]
    | _=>[]
  | .view _ _=>[(decide (src.length = 0) && b,.ret s,h,true)]
  | _=>[]
def ownB (num off:Nat) (lo:Option Nat) (i:Int):Bool:=match off,lo with
 | 0,none=>inB num i
 | _,_=>inB (qa9 num off lo) i && decide (off + i.toNat < num)
theorem ownB_of {num off:Nat} {lo:Option Nat} {i:Int} (h:ownB num off lo i = true):0 <= i /\ i < qa9 num off lo /\ off + i.toNat < num:=by
 unfold ownB at h
 split at h
 ·simp only [inB,Bool.and_eq_true,decide_eq_true_eq] at h
  exact ⟨h.1,h.2,by omega⟩
 ·simp only [inB,Bool.and_eq_true,decide_eq_true_eq] at h
  exact ⟨h.1.1,h.1.2,h.2⟩
def qWJ (num off:Nat) (lo:Option Nat) (hi:Option AV):Bool:=match off,lo,hi with
 | 0,none,none=>true
 | _,_,_=>decide (off + qhU (qa9 num off lo) hi <= num)
theorem qNy {num off:Nat} {lo:Option Nat} {hi:Option AV} (h:qWJ num off lo hi = true):off + qhU (qa9 num off lo) hi <= num:=by
 unfold qWJ at h
 split at h
 ·simp [qhU,qa9]
 ·exact of_decide_eq_true h
def qSK (ks:Key) (m:List (AV × AV)) (k v:AV):List (AV × AV):=(qxa ks m k v).getD []
def qSH (ks:Key) (m:List (AV × AV)) (k:AV):List (AV × AV):=(qGa ks m k).getD []
def qSJ (ks:Key) (m:List (AV × AV)) (k v:AV):Bool:=isKey ks k && (qxa ks m k v).isSome
def qSG (ks:Key) (m:List (AV × AV)) (k:AV):Bool:=isKey ks k && (qGa ks m k).isSome
def alts (nx:Nat) (ev:Opd -> AV) (h:Heap):IOp -> List Alt
 | .idxs x i=>match ev x,ev i with
  | .str s,.int _ j=>[(inB s.length j,.ret (.int .u8 (qcM s j)),h,false)]
  | _,_=>[]
 | .slc sz x lo hi=>match ev x with
  | .view sz' es=>[(decide (sz' = sz) && qPe es.length es.length (qa3 ev lo) (qa3 ev hi),.ret (.view sz (qPg es (qa3 ev lo) (qa3 ev hi))),h,false)]
  | .own id off len=>match qad h id with
   | some (.arr sz' es _)=>[(decide (sz' = sz) && (qPe (qa9 es.length off len) (qa9 es.length off none) (qa3 ev lo) (qa3 ev hi) && qWJ es.length off len (qa3 ev hi)),
     .ret (.own id (off + qB8 (qa3 ev lo)) (qUM len hi (qhU (qa9 es.length off len) (qa3 ev hi) - qB8 (qa3 ev lo)))),h,false)]
   | _=>[]
  | .nils z=>[(qPe 0 0 (qa3 ev lo) (qa3 ev hi),.ret (.nils z),h,false)]
  | _=>[]
 | .slcs x lo hi=>match ev x with
  | .str s=>[(qPe s.length s.length (qa3 ev lo) (qa3 ev hi),.ret (.str (qPg s (qa3 ev lo) (qa3 ev hi))),h,false)]
  | _=>[]
 | .slc3 x lo hi mx=>match ev lo,ev hi,ev mx with
  | .int _ l,.int _ u,.int _ m=>match ev x with
   | .view _ es=>[(decide (0 <= l) && decide (l <= u) && decide (u <= m) && decide (m <= es.length),.ret .junk,h,false)]
   | .own id off _=>match qad h id with
    | some (.arr _ es _)=>[(decide (0 <= l) && decide (l <= u) && decide (u <= m) && decide (m <= ((es.length - off:Nat):Int)),.ret .junk,h,false)]
    | _=>[]
   | _=>[]
  | _,_,_=>[]
 | .iaddr sz _ x i=>match ev x,ev i with
  | .own id off len,.int _ i=>match qad h id with
   | some (.arr sz' es _)=>[(decide (sz' = sz) && ownB es.length off len i,.ret (.ref id (qUT off i) 0),h,false)]
   | _=>[]
  | _,_=>[]
 | .eqn k neg x y=>match k,ev x,ev y with
  | .s,.view _ es,.nils ⟨_,.nil⟩=>[(decide (es.length ≠ 0),.ret (.bool neg),h,false)]
  | .s,.nils ⟨_,.nil⟩,.view _ es=>[(decide (es.length ≠ 0),.ret (.bool neg),h,false)]
  | _,_,_=>[]
 | .app sz bytes s x=>match qZG h sz (ev x) with
  | some (b,src)=>qnc h nx sz bytes (ev s) b src
  | none=>[]
 | .clr sz z x=>match ev x with
  | .own id off lo=>match qad h id with
   | some (.arr sz' es false)=>[(decide (sz' = sz) && decide (off + qa9 es.length off lo <= es.length),.ret unit,qbu h id (.arr sz (es.take off ++ List.replicate (qa9 es.length off lo) (nz z) ++ es.drop (off + qa9 es.length off lo)) false),true)]
   | _=>[]
  | _=>[]
 | .mks sz bytes z l c=>match ev l,ev c with
  | .int _ l',.int _ c'=>[(decide (0 <= l') && decide (l' <= c') && room c'.toNat bytes && decide (c' <= 4611686018427387904),.ret (.own nx 0 (if qGy l c then none else some l'.toNat)),qbu h nx (.arr sz (List.replicate c'.toNat (nz z)) false),false)]
  | _,_=>[]
 | .mupd ks m k v=>match ev m with
  | .mref id=>match idsA (ev k),idsA (ev v),qad h id with
   | [],[],some (.mp kvs)=>[(qSJ ks kvs (ev k) (nz (ev v)),.ret unit,qbu h id (.mp (qSK ks kvs (ev k) (nz (ev v)))),true)]
   | _,_,_=>[]
  | _=>[]
 | .mdel ks m k=>match ev m with
  | .mref id=>match qad h id with
   | some (.mp kvs)=>[(qSG ks kvs (ev k),.ret unit,qbu h id (.mp (qSH ks kvs (ev k))),true)]
   | _=>[]
  | _=>[]
 | .bin .quo x y=>match ev x,ev y with
  | .int k a,.int k' b=>[(decide (k = k') && decide (b ≠ 0),.ret (.int k (k.wrap (a.tdiv b))),h,false)]
  | _,_=>[]
 | .bin .rem x y=>match ev x,ev y with
  | .int k a,.int k' b=>[(decide (k = k') && decide (b ≠ 0),.ret (.int k (a.tmod b)),h,false)]
  | _,_=>[]
 | .bin .shl x y=>match ev x,ev y with
  | .int k a,.int _ b=>[(decide (0 <= b),.ret (.int k (k.wrap (a * 2 ^ (min b.toNat k.bits)))),h,false)]
  | _,_=>[]
 | .bin .shr x y=>match ev x,ev y with
  | .int k a,.int _ b=>[(decide (0 <= b),.ret (.int k (a.fdiv (2 ^ (min b.toNat k.bits)))),h,false)]
  | _,_=>[]
 | .bin .add x y=>match ev x,ev y with
  | .str a,.str b=>[(decide (a.length + b.length <= 4611686018427387904),.ret (.str (a ++ b)),h,false)]
  | _,_=>[]
 | _=>[]
theorem qwh {h:Heap} {nx sz bytes:Nat} {s:AV} {src:List AV} {b:Bool} {r:Res × Heap × Bool} (hm:(true,r) ∈ qnc h nx sz bytes s b src):b = true /\ ∃ v h',qwg h nx sz bytes s src = some (v,h') /\ r = (.ret v,h',true):=by
 cases s <;> simp only [qnc] at hm <;> try (simp at hm; done)
 case nils q=>
  obtain ⟨q,k⟩:=q
  cases k <;> simp only [qnc] at hm
  case non=>
   simp only [List.mem_cons,Prod.mk.injEq,List.not_mem_nil,or_false] at hm
   obtain ⟨hb,rfl⟩:=hm
   simp only [eq_comm (a:=true),Bool.and_eq_true,decide_eq_true_eq] at hb
   exact ⟨hb.2,_,_,by simp [qwg,hb.1],rfl⟩
  all_goals
   simp only [List.mem_cons,Prod.mk.injEq,List.not_mem_nil,or_false] at hm
   rcases hm with ⟨hb,rfl⟩ | ⟨hb,rfl⟩ <;> simp only [eq_comm (a:=true),Bool.and_eq_true,decide_eq_true_eq,room] at hb
   ·exact ⟨hb.2,_,_,by simp [qwg,hb.1],rfl⟩
   ·obtain ⟨h1,h0,h2⟩:=hb
    exact ⟨h0,_,_,by simp only [qwg]; rw [if_neg h1,if_pos h2],rfl⟩
 case view sz' es=>
  simp only [List.mem_cons,Prod.mk.injEq,List.not_mem_nil,or_false] at hm
  obtain ⟨hb,rfl⟩:=hm
  simp only [eq_comm (a:=true),Bool.and_eq_true,decide_eq_true_eq] at hb
  exact ⟨hb.2,_,_,by simp only [qwg]; rw [if_pos hb.1],rfl⟩
 case own id off lo=>
  split at hm
  ·rename_i sz' es hl
   cases lo with
   | none=>
    simp only [List.mem_cons,Prod.mk.injEq,List.not_mem_nil,or_false] at hm
    rcases hm with ⟨hb,rfl⟩ | ⟨hb,rfl⟩ <;> simp only [eq_comm (a:=true),Bool.and_eq_true,decide_eq_true_eq,room] at hb
    ·obtain ⟨h3,h1,h0⟩:=hb
     exact ⟨h0,_,_,by simp only [qwg,hl]; rw [if_pos h1,if_pos h3],rfl⟩
    ·obtain ⟨h3,h1,h0,h2,h5⟩:=hb
     exact ⟨h0,_,_,by simp only [qwg,hl]; rw [if_pos h1,if_neg h3,if_pos ⟨qSz h2,h5⟩],rfl⟩
   | some len=>
    simp only [List.mem_cons,Prod.mk.injEq,List.not_mem_nil,or_false] at hm
    rcases hm with ⟨hb,rfl⟩ | ⟨hb,rfl⟩ | ⟨hb,rfl⟩ <;> simp only [eq_comm (a:=true),Bool.and_eq_true,decide_eq_true_eq,room] at hb
    ·obtain ⟨h3,h1,h0⟩:=hb
     exact ⟨h0,_,_,by simp only [qwg,hl]; rw [if_pos h1,if_pos h3],rfl⟩
    ·obtain ⟨h3,h1,h4,h0⟩:=hb
     exact ⟨h0,_,_,by simp only [qwg,hl]; rw [if_pos h1,if_neg h3,if_pos (by omega),if_pos h4],rfl⟩
    ·obtain ⟨h3,h1,h4,h0,h2,h5⟩:=hb
     exact ⟨h0,_,_,by simp only [qwg,hl]; rw [if_pos h1,if_neg h3,if_pos h2,if_neg (by omega),if_pos h5],rfl⟩
  ·simp at hm
theorem qMH {P:Prog} {call:qaL} {nx:Nat} {ev:Opd -> AV} {h:Heap} {io:IOp} {r:Res × Heap × Bool} (hm:(true,r) ∈ alts nx ev h io):opS P call nx ev h io = some r:=by
 cases io <;> simp only [alts] at hm <;> try (simp at hm; done)
 case idxs x i=>
  split at hm
  ·rename_i s k j hx hi
   simp only [List.mem_cons,Prod.mk.injEq,List.not_mem_nil,or_false] at hm
   obtain ⟨hb,rfl⟩:=hm
   obtain ⟨c,hc⟩:=qzh hb.symm
   simp [opS,hx,hi,hc,qcM,val]
  ·simp at hm
 case slc sz x lo hi=>
  split at hm
  ·rename_i sz' es hx
   simp only [List.mem_cons,Prod.mk.injEq,List.not_mem_nil,or_false] at hm
   obtain ⟨hb,rfl⟩:=hm
   simp only [eq_comm (a:=true),Bool.and_eq_true,decide_eq_true_eq] at hb
   simp [opS,hx,qgY hb.2,hb.1,val,qzC]
  ·rename_i id off len hx
   split at hm
   ·rename_i sz' es fz hl
    simp only [List.mem_cons,Prod.mk.injEq,List.not_mem_nil,or_false] at hm
    obtain ⟨hb,rfl⟩:=hm
    simp only [eq_comm (a:=true),Bool.and_eq_true,decide_eq_true_eq] at hb
    obtain ⟨h1,h2,h3⟩:=hb
    rw [qcD] at h2
    simp [opS,hx,hl,qgY h2,h1,qNy h3,val]
   ·simp at hm
  ·rename_i z hx
   simp only [List.mem_cons,Prod.mk.injEq,List.not_mem_nil,or_false] at hm
   obtain ⟨hb,rfl⟩:=hm
   simp [opS,hx,qgY hb.symm,val]
  ·simp at hm
 case slcs x lo hi=>
  split at hm
  ·rename_i s hx
   simp only [List.mem_cons,Prod.mk.injEq,List.not_mem_nil,or_false] at hm
   obtain ⟨hb,rfl⟩:=hm
   simp [opS,hx,qgY hb.symm,val,qzC]
  ·simp at hm
 case slc3 x lo hi mx=>
  split at hm
  ·rename_i k1 l k2 u k3 m h1 h2 h3
   split at hm
   ·rename_i sz es hx
    simp only [List.mem_cons,Prod.mk.injEq,List.not_mem_nil,or_false] at hm
    obtain ⟨hb,rfl⟩:=hm
    simp only [eq_comm (a:=true),Bool.and_eq_true,decide_eq_true_eq] at hb
    simp [opS,h1,h2,h3,hx,hb,val]
   ·rename_i id off len hx
    split at hm
    ·rename_i sz es fz hl
     simp only [List.mem_cons,Prod.mk.injEq,List.not_mem_nil,or_false] at hm
     obtain ⟨hb,rfl⟩:=hm
     simp only [eq_comm (a:=true),Bool.and_eq_true,decide_eq_true_eq] at hb
     simp only [opS,h1,h2,h3,hx,hl]
     rw [if_pos ⟨hb.1.1.1,hb.1.1.2,hb.1.2⟩,if_pos hb.2]; rfl
    ·simp at hm
   ·simp at hm
  ·simp at hm
 case iaddr sz ks x i=>
  split at hm
  ·rename_i id off len k j hx hi
   split at hm
   ·rename_i sz' es fz hl
    simp only [List.mem_cons,Prod.mk.injEq,List.not_mem_nil,or_false] at hm
    obtain ⟨hb,rfl⟩:=hm
    simp only [eq_comm (a:=true),Bool.and_eq_true,decide_eq_true_eq] at hb
    obtain ⟨h1,h2,h3⟩:=ownB_of hb.2
    simp [opS,hx,hi,hl,hb.1,h1,h2,h3,val]
   ·simp at hm
  ·simp at hm
 case eqn k neg x y=>
  split at hm
  ·rename_i h1 h2
   simp only [List.mem_cons,Prod.mk.injEq,List.not_mem_nil,or_false] at hm
   obtain ⟨hb,rfl⟩:=hm
   simp only [eq_comm (a:=true),decide_eq_true_eq] at hb
   simp only [opS,h1,h2,qcN,if_neg hb]
   cases neg <;> simp [val]
  ·rename_i h1 h2
   simp only [List.mem_cons,Prod.mk.injEq,List.not_mem_nil,or_false] at hm
   obtain ⟨hb,rfl⟩:=hm
   simp only [eq_comm (a:=true),decide_eq_true_eq] at hb
   simp only [opS,h1,h2,qcN,if_neg hb]
   cases neg <;> simp [val]
  ·simp at hm
 case app sz bytes s x=>
  split at hm
  ·rename_i b src hs
   obtain ⟨rfl,v,h',h1,rfl⟩:=qwh hm
   simp only [opS,qOz hs,h1]
  ·simp at hm
 case clr sz z x=>
  split at hm
  ·rename_i id off len hx
   split at hm
   ·rename_i sz' es hl
    simp only [List.mem_cons,Prod.mk.injEq,List.not_mem_nil,or_false] at hm
    obtain ⟨hb,rfl⟩:=hm
    simp only [eq_comm (a:=true),Bool.and_eq_true,decide_eq_true_eq] at hb
    simp [opS,hx,hl,hb]
   ·simp at hm
  ·simp at hm
 case mks sz bytes z l c=>
  split at hm
  ·rename_i k1 l' k2 c' h1 h2
   simp only [List.mem_cons,Prod.mk.injEq,List.not_mem_nil,or_false] at hm
   obtain ⟨hb,rfl⟩:=hm
   simp only [eq_comm (a:=true),Bool.and_eq_true,decide_eq_true_eq,room] at hb
   simp [opS,h1,h2,hb]
  ·simp at hm
 case mupd ks m k v=>
  split at hm
  ·rename_i id hx
   split at hm
   ·rename_i kvs h1 h2 h3
    simp only [List.mem_cons,Prod.mk.injEq,List.not_mem_nil,or_false] at hm
    obtain ⟨hb,rfl⟩:=hm
    simp only [eq_comm (a:=true),qSJ,Bool.and_eq_true] at hb
    obtain ⟨kvs',hk⟩:=Option.isSome_iff_exists.1 hb.2
    simp [opS,hx,h1,h2,h3,hb.1,hk,qSK]
   ·simp at hm
  ·simp at hm
 case mdel ks m k=>
  split at hm
  ·rename_i id hx
   split at hm
   ·rename_i kvs h3
    simp only [List.mem_cons,Prod.mk.injEq,List.not_mem_nil,or_false] at hm
    obtain ⟨hb,rfl⟩:=hm
    simp only [eq_comm (a:=true),qSG,Bool.and_eq_true] at hb
    obtain ⟨kvs',hk⟩:=Option.isSome_iff_exists.1 hb.2
    simp [opS,hx,h3,hb.1,hk,qSH]
   ·simp at hm
  ·simp at hm
 case bin op x y=>
  cases op <;> simp only [alts] at hm <;> try (simp at hm; done)
  all_goals
   split at hm
   ·rename_i h1 h2
    simp only [List.mem_cons,Prod.mk.injEq,List.not_mem_nil,or_false] at hm
    obtain ⟨hb,rfl⟩:=hm
    simp only [eq_comm (a:=true),Bool.and_eq_true,decide_eq_true_eq] at hb
    simp [opS,h1,h2,qUH,qV5,qV6,hb,qr2]
   ·simp at hm
def qkQ (h:Heap):Nat -> AV -> AV
 | 0,v=>v
 | n + 1,v=>match v with
  | .nils q=>.view q.sz []
  | .own id off lo=>match qad h id with
   | some (.arr sz es _)=>.view sz (qrV es off lo)
   | _=>.junk
  | .ref id _ off=>match qad h id with
   | some (.box cs _)=>.ptr ((cs.map (qkQ h n)).drop off)
   | _=>.junk
  | .agg cs=>.agg (cs.map (qkQ h n))
  | .tup vs=>.tup (vs.map (qkQ h n))
  | .fn f cap=>.fn f (cap.map (qkQ h n))
  | .iface t v=>.iface t (qkQ h n v)
  | v=>v
def qcF (h:Heap):Nat -> AV -> Bool
 | 0,_=>false
 | n + 1,v=>match v with
  | .own id off lo=>match qad h id with
   | some (.arr _ es _)=>match lo with
    | some len=>decide (off + len <= es.length)
    | none=>true
   | _=>false
  | .ref id idx off=>match qad h id with
   | some (.box cs _)=>decide (idx = 0 /\ off <= cs.length /\ qaB cs = true) && cs.all (qcF h n)
   | _=>false
  | .mref _=>false
  | .agg cs=>cs.all (qcF h n)
  | .tup vs=>vs.all (qcF h n)
  | .fn _ cap=>cap.all (qcF h n)
  | .iface _ v=>qcF h n v
  | _=>true
theorem qkR {h:Heap}:∀ (n:Nat) (v:AV),qcF h n v = true -> snap h n v = some (qkQ h n v)
 | 0,v,hb=>by simp [qcF] at hb
 | n + 1,v,hb=>by
  have hl:∀ vs:List AV,vs.all (qcF h n) = true -> qeX (snap h n) vs = some (vs.map (qkQ h n)):=by
   intro vs
   induction vs with
   | nil=>intro _; rfl
   | cons v vs ih=>
    intro hb
    simp only [List.all_cons,Bool.and_eq_true] at hb
    simp only [qeX,List.map_cons,qkR n v hb.1,ih hb.2]
  cases v <;> simp only [qcF,snap,qkQ] at hb ⊢
  case own id off lo=>
   split at hb
   ·rename_i hk
    simp only [hk]
    cases lo with
    | some len=>simp only at hb ⊢; rw [if_pos (of_decide_eq_true hb)]
    | none=>rfl
   ·cases hb
  case ref id idx off=>
   split at hb
   ·rename_i hk
    simp only [Bool.and_eq_true] at hb
    simp only [hk]
    rw [if_pos (of_decide_eq_true hb.1),hl _ hb.2]; rfl
   ·cases hb
  case mref=>cases hb
  case agg cs=>rw [hl _ hb]; rfl
  case tup cs=>rw [hl _ hb]; rfl
  case fn f cs=>rw [hl _ hb]; rfl
  case iface t v=>rw [qkR n v hb]; rfl
end Go.Eng
namespace Go.Eng
def br {R:Type} (b:Bool) (x y:R):R:=match b with
 | true=>x
 | false=>y
theorem qex {R:Type} {b:Bool} {x:Option R} {r:R} (h:br b x none = some r):b = true /\ x = some r:=by
 cases b with
 | true=>exact ⟨rfl,h⟩
 | false=>cases h
def qPw:Env -> Nat -> AV -> Env
 | [],_,_=>[]
 | (j,v) :: e,t,u=>if t = j then (j,u) :: e else (j,v) :: qPw e t u
theorem qr0:∀ {e:Env} {t:Nat} {v:AV},qbe e t = v -> v ≠ .junk -> qPw e t v = e
 | [],t,v,h,hj=>rfl
 | (j,u) :: e,t,v,h,hj=>by
  simp only [qbe] at h
  simp only [qPw]
  split
  ·rename_i he; rw [if_pos he] at h; rw [h]
  ·rename_i he; rw [if_neg he] at h; rw [qr0 h hj]
section
variable {R:Type}
abbrev qfW (R:Type):=Nat -> List AV -> Heap -> (Res -> Heap -> Option R) -> Option R
abbrev qsb (R:Type):=List Nat -> ICode -> St -> (X -> St -> Option R) -> Option R
def intOf:AV -> Int
 | .int _ n=>n
 | _=>0
def qJI:AV -> Bool
 | .bool b=>b
 | _=>false
def strOf:AV -> List UInt8
 | .str s=>s
 | _=>[]
def qEL:AV -> List AV
 | .view _ es=>es
 | _=>[]
def qTf:AV -> List AV
 | .ptr cs=>cs
 | _=>[]
def qJ9:AV -> Bool
 | .nilp=>true
 | _=>false
def okC:CS -> AV -> Bool
 | .int k,.int k' _=>decide (k' = k)
 | .bool,.bool _=>true
 | .str,.str _=>true
 | .slice k,.view sz _=>decide (sz = k)
 | .ptr _,.nilp=>true
 | .ptr _,.ptr _=>true
 | _,_=>false
def qhi:List CS -> List AV -> Bool
 | [],[]=>true
 | c :: cs,x :: xs=>okC c x && qhi cs xs
 | _,_=>false
def qcO (ks:List CS) (es:List AV) (i:Int):Bool:=match qeY es i with
 | some e=>qhi ks (qac e)
 | none=>false
def cellAt (es:List AV) (i:Int) (j:Nat):AV:=(qac ((qeY es i).getD .junk))[j]?.getD .junk
def qGi (c:CS) (x:AV) (K:AV -> Option R):Option R:=match c with
 | .int k=>K (.int k (intOf x))
 | .bool=>K (.bool (qJI x))
 | .str=>K (.str (strOf x))
 | .slice k=>K (.view k (qEL x))
 | .ptr _=>br (qJ9 x) (K .nilp) (K (.ptr (qTf x)))
def qmF (es:List AV) (i:Int):Nat -> List CS -> (List AV -> Option R) -> Option R
 | _,[],K=>K []
 | j,c :: cs,K=>qGi c (cellAt es i j) fun x=>qmF es i (j + 1) cs fun r=>K (x :: r)
theorem qvF {c:CS} {x:AV} (h:okC c x = true) {K:AV -> Option R}:qGi c x K = K x:=by
 cases c <;> cases x <;> simp_all [okC,qGi,intOf,qJI,strOf,qJ9,qEL,qTf,br]
theorem qkA {es:List AV} {i:Int} {e:AV} (he:qeY es i = some e):∀ (ks:List CS) (j:Nat) {K:List AV -> Option R},qhi ks ((qac e).drop j) = true -> qmF es i j ks K = K ((qac e).drop j)
 | [],j,K,h=>by
  cases hd:(qac e).drop j with
  | nil=>rfl
  | cons=>rw [hd] at h; simp [qhi] at h
 | c :: cs,j,K,h=>by
  cases hd:(qac e).drop j with
  | nil=>rw [hd] at h; simp [qhi] at h
  | cons x xs=>
   rw [hd] at h
   simp only [qhi,Bool.and_eq_true] at h
   have hx:cellAt es i j = x:=by
    have h0:=congrArg (·[0]?) hd
    simp only [List.getElem?_drop,Nat.add_zero,List.getElem?_cons_zero] at h0
    simp [cellAt,he,h0]
   have hxs:(qac e).drop (j + 1) = xs:=by
    have h0:=congrArg (List.drop 1) hd
    simpa using h0
   simp only [qmF,hx,qvF h.1]
   have:=qkA he cs (j + 1) (K:=fun r=>K (x :: r)) (by rw [hxs]; exact h.2)
   rw [this,hxs]
def qmL (h:Heap) (all:Bool):List AV -> (List AV -> List Nat -> Option R) -> Option R
 | [],K=>K [] []
 | v :: vs,K=>if qKa v || all then qmL h all vs fun vs b=>K (v :: vs) ([] ++ b) else match idsA v with
  | []=>qmL h all vs fun vs b=>K (nz v :: vs) ([] ++ b)
  | ids=>br (qcF h qbl v) (qmL h all vs fun vs b=>K (qkQ h qbl v :: vs) (ids ++ b)) none
theorem qdw {h:Heap} {all:Bool} {ρ:R}:∀ {vs:List AV} {K:List AV -> List Nat -> Option R},qmL h all vs K = some ρ -> ∃ a b,qnO h all vs = some (a,b) /\ K a b = some ρ
 | [],K,hs=>⟨_,_,rfl,hs⟩
 | v :: vs,K,hs=>by
  simp only [qmL] at hs
  split at hs
  ·rename_i hc
   obtain ⟨a,b,h1,h2⟩:=qdw hs
   exact ⟨_,_,by simp only [qnO,qPs,hc,if_true,h1],h2⟩
  ·rename_i hc
   split at hs
   ·rename_i hi
    obtain ⟨a,b,h1,h2⟩:=qdw hs
    refine ⟨_,_,?_,h2⟩
    simp only [qnO,qPs,h1]
    rw [if_neg hc,hi]
   ·rename_i ids hi
    obtain ⟨hb,hs⟩:=qex hs
    obtain ⟨a,b,h1,h2⟩:=qdw hs
    refine ⟨_,_,?_,h2⟩
    simp only [qnO,qPs,h1,if_neg hc,qkR _ _ hb]
def qpu (P:Prog) (cK:qfW R) (h:Heap) (nx f:Nat) (args:List AV) (K:Res × Heap × Bool -> Option R):Option R:=
 qmL h (P.mv f) args fun args' roots=>
  match qa8 qbl h (idsA.idsL args') [],qa8 qbl h roots [] with
  | some moved,some shown=>
   if qE2 moved shown then
    cK f (ren.renL (place moved) args') (qft (place moved) (sub h moved)) fun r h'=>
     if h'.all (fun p=>decide (p.1 < moved.length + 16)) then
      let touched:=!shown.isEmpty && (shows (qGu r) || !h'.isEmpty)
      let old:=qaM h moved
      K (qKm (ren (back moved nx)) r,qft (back moved nx) h' ++ (if touched then freeze old shown else old),!moved.isEmpty || touched)
     else none
   else none
  | _,_=>none
def qCu:qaL:=fun _ _ _=>none
def qZS (K:Res × Heap × Bool -> Option R):List Alt -> Option R
 | []=>none
 | (b,r) :: l=>br b (K r) (qZS K l)
def qhH (P:Prog) (nx:Nat) (ev:Opd -> AV) (h:Heap) (io:IOp) (K:Res × Heap × Bool -> Option R):Option R:=
 match alts nx ev h io with
 | []=>match opS P qCu nx ev h io with
  | some r=>K r
  | none=>none
 | l=>qZS K l
def okE (ag:Bool) (ks:List CS) (es:List AV) (i:Int):Bool:=match qeY es i with
 | some (.agg cs)=>ag && qhi ks cs
 | some e=>!ag && qhi ks [e]
 | none=>false
def qsu (ag:Bool) (cs:List AV):AV:=match ag,cs with
 | true,cs=>.agg cs
 | false,[v]=>v
 | false,_=>.junk
theorem qSY {ag:Bool} {ks:List CS} {es:List AV} {i:Int} (h:okE ag ks es i = true):∃ e,qeY es i = some e /\ qhi ks (qac e) = true /\ ∀ cs,elemOf e cs = qsu ag cs:=by
 simp only [okE] at h
 split at h
 ·rename_i cs he
  simp only [Bool.and_eq_true] at h
  exact ⟨_,he,h.2,fun cs'=>by simp [elemOf,qsu,h.1]⟩
 ·rename_i e hne he
  simp only [Bool.and_eq_true,Bool.not_eq_true'] at h
  have hc:qac e = [e]:=by cases e <;> first | rfl | exact absurd rfl (hne _)
  refine ⟨_,he,by rw [hc]; exact h.2,fun cs'=>?_⟩
  rw [h.1]
  cases e <;> first | exact absurd rfl (hne _) | (rcases cs' with _ | ⟨v,_ | ⟨w,vs⟩⟩ <;> rfl)
 ·cases h
def csZ:AV -> Option CS
 | .int k _=>some (.int k)
 | .bool _=>some .bool
 | .str _=>some .str
 | .nils q=>some (.slice q.sz)
 | .view k _=>some (.slice k)
 | _=>none
def q1D:List AV -> Option (List CS)
 | []=>some []
 | v :: vs=>match csZ v,q1D vs with
  | some c,some cs=>some (c :: cs)
  | _,_=>none
def ksZ:AV -> Option (Bool × List CS)
 | .agg cs=>(q1D cs).map fun ks=>(true,ks)
 | v=>(csZ v).map fun k=>(false,[k])
def qPr (ks:Key) (m:List (AV × AV)) (k:AV):AV:=match qkv ks m k with
 | some (some v)=>v
 | _=>.junk
def qSI (ks:Key) (m:List (AV × AV)) (k:AV):Bool:=isKey ks k && match qkv ks m k with
 | some (some _)=>true
 | _=>false
def qUY (ks:Key) (m:List (AV × AV)) (k:AV):Bool:=isKey ks k && match qkv ks m k with
 | some none=>true
 | _=>false
def qca (es:List AV) (i j:Nat):AV:=(qac (es[i]?.getD .junk))[j]?.getD .junk
def okP (ks:List CS) (es:List AV) (i off:Nat):Bool:=match es[i]? with
 | some e=>qhi ks (((qac e).drop off).take ks.length)
 | none=>false
def qCI (es:List AV) (i:Nat):Nat -> List CS -> (List AV -> Option R) -> Option R
 | _,[],K=>K []
 | j,c :: cs,K=>qGi c (qca es i j) fun x=>qCI es i (j + 1) cs fun r=>K (x :: r)
theorem qvG {es:List AV} {i:Nat} {e:AV} (he:es[i]? = some e):∀ (ks:List CS) (j:Nat) {K:List AV -> Option R},qhi ks (((qac e).drop j).take ks.length) = true -> qCI es i j ks K = K (((qac e).drop j).take ks.length)
 | [],j,K,h=>by simp [qCI]
 | c :: cs,j,K,h=>by
  cases hd:(qac e).drop j with
  | nil=>rw [hd] at h; simp [qhi] at h
  | cons x xs=>
   rw [hd] at h
   simp only [List.length_cons,List.take_succ_cons,qhi,Bool.and_eq_true] at h
   have hx:qca es i j = x:=by
    have h0:=congrArg (·[0]?) hd
    simp only [List.getElem?_drop,Nat.add_zero,List.getElem?_cons_zero] at h0
    simp [qca,he,h0]
   have hxs:(qac e).drop (j + 1) = xs:=by
    have h0:=congrArg (List.drop 1) hd
    simpa using h0
   simp only [qCI,hx,qvF h.1,List.length_cons,List.take_succ_cons]
   have:=qvG he cs (j + 1) (K:=fun r=>K (x :: r)) (by rw [hxs]; exact h.2)
   rw [this,hxs]
theorem qvC:∀ {ks:List CS} {xs:List AV},qhi ks xs = true -> xs.length = ks.length
 | [],[],_=>rfl
 | [],_ :: _,h=>by simp [qhi] at h
 | _ :: _,[],h=>by simp [qhi] at h
 | k :: ks,x :: xs,h=>by
  simp only [qhi,Bool.and_eq_true] at h
  simp [qvC h.2]
def qxu (es:List AV) (i off:Nat) (vs:List AV):List AV:=match es[i]? with
 | some e=>es.set i (elemOf e (splice (qac e) off vs))
 | none=>es
def okS (es:List AV) (i off n:Nat):Bool:=match es[i]? with
 | some e=>decide (off + n <= (qac e).length)
 | none=>false
def qEl (h:Heap) (v:AV) (K:AV -> Heap -> Option R):Option R:=match idsA v with
 | []=>K (nz v) h
 | ids=>match qa8 qbl h ids [] with
  | some r=>br (qcF h qbl v) (K (qkQ h qbl v) (freeze h r)) none
  | none=>none
theorem qrQ {h:Heap} {v:AV} {K:AV -> Heap -> Option R} {ρ:R} (hs:qEl h v K = some ρ):∃ v' h',still h v = some (v',h') /\ K v' h' = some ρ:=by
 simp only [qEl] at hs
 split at hs
 ·rename_i hi
  exact ⟨_,_,by simp only [still,hi],hs⟩
 ·rename_i ids hi
  split at hs
  ·rename_i r hr
   obtain ⟨hb,hs⟩:=qex hs
   refine ⟨_,_,?_,hs⟩
   cases hq:idsA v with
   | nil=>exact absurd hq hi
   | cons i is=>
    rw [hq] at hr
    simp only [still,hq,qkR _ _ hb,hr]
  ·cases hs
def qSs (agg:Bool) (sz:Nat) (cs:List AV) (j:Int) (h:Heap) (K:Res × Heap × Bool -> Option R):Nat -> Nat -> Option R
 | 0,_=>none
 | r + 1,k=>br (decide (j = Int.ofNat k)) (if k * sz <= cs.length then match part agg sz (cs.drop (k * sz)) with
   | some v=>K (.ret v,h,false)
   | none=>none else none) (qSs agg sz cs j h K r (k + 1))
def qSC (F:Nat -> Option R) (j:Int):Nat -> Nat -> Option R
 | 0,_=>none
 | r + 1,k=>br (decide (j = Int.ofNat k)) (F k) (qSC F j r (k + 1))
def q1x (sz:Nat) (v:AV) (h:Heap) (K:Res × Heap × Bool -> Option R) (k:Nat):Option R:=match v with
 | .ptr cs=>if k * sz <= cs.length then K (.ret (.ptr (cs.drop (k * sz))),h,false) else none
 | .ref id idx o=>K (.ret (.ref id idx (o + k * sz)),h,false)
 | _=>none
def opK (P:Prog) (cK:qfW R) (nx:Nat) (ev:Opd -> AV) (h:Heap) (io:IOp) (K:Res × Heap × Bool -> Option R):Option R:=
 match io with
 | .iaddr sz ks x i=>match ks,ev x,ev i with
  | _ :: _,.view sz' es,.int _ j=>if sz' = sz then br (qcO ks es j) (qmF es j 0 ks fun cs=>K (.ret (.ptr cs),h,false)) none else none
  | _,_,_=>qhH P nx ev h (.iaddr sz ks x i) K
 | .load agg n ks x=>match ev x with
  | .ref id idx off=>match qad h id with
   | some (.arr _ es _)=>if ks.length = n /\ 0 < n /\ (agg = true \/ n = 1) then
     br (okP ks es idx off) (qCI es idx off ks fun cs=>K (.ret (if agg then .agg cs else cs.headD .junk),h,false)) none
    else none
   | _=>qhH P nx ev h (.load agg n ks x) K
  | _=>qhH P nx ev h (.load agg n ks x) K
 | .store n x v=>match ev x with
  | .ref id idx off=>match qad h id with
   | some (.arr _ es false)=>qEl h (ev v) fun v h=>match qad h id with
    | some (.arr sz _ false)=>if (qac v).length = n /\ qaB (qac v) = true then
      br (okS es idx off n) (K (.ret unit,qbu h id (.arr sz (qxu es idx off (qac v)) false),true)) none
     else none
    | _=>none
   | _=>qhH P nx ev h (.store n x v) K
  | _=>qhH P nx ev h (.store n x v) K
 | .look ks z ok m k=>match ev m with
  | .mref id=>match qad h id with
   | some (.mp kvs)=>match ksZ z with
    | some (ag,cs)=>br (qSI ks kvs (ev k)) (br (okE ag cs [qPr ks kvs (ev k)] 0) (qmF [qPr ks kvs (ev k)] 0 0 cs fun cs=>K (.ret (if ok then .tup [qsu ag cs,.bool true] else qsu ag cs),h,false)) none)
      (br (qUY ks kvs (ev k)) (K (.ret (if ok then .tup [z,.bool false] else z),h,false)) none)
    | none=>qhH P nx ev h (.look ks z ok m k) K
   | _=>qhH P nx ev h (.look ks z ok m k) K
  | _=>qhH P nx ev h (.look ks z ok m k) K
 | .pick c a b=>match ev c with
  | .bool t=>br t (K (.ret (ev a),h,false)) (K (.ret (ev b),h,false))
  | _=>none
 | .idxa agg n sz x i=>match ev x,ev i with
  | .agg cs,.int _ j=>if n <= 16 then qSs agg sz cs j h K n 0 else qhH P nx ev h (.idxa agg n sz x i) K
  | _,_=>none
 | .aaddr n sz x i=>match ev i with
  | .int _ j=>if n <= 16 then qSC (q1x sz (ev x) h K) j n 0 else qhH P nx ev h (.aaddr n sz x i) K
  | _=>none
 | .call f args=>qpu P cK h nx f (args.map ev) K
 | .callv fv args=>match ev fv with
  | .fn (.func f) cap=>qpu P cK h nx f (args.map ev ++ cap) K
  | _=>none
 | .invk tbl x args=>match ev x with
  | .iface t v=>match qti tbl t with
   | some f=>qpu P cK h nx f (v :: args.map ev) K
   | none=>none
  | _=>none
 | io=>qhH P nx ev h io K
def qOO (e:Env) (g:Option (Nat × Bool)) (K:Env -> Bool -> Option R):Option R:=match g with
 | none=>K e true
 | some (t,want)=>match qbe e t with
  | .bool b=>br b (K (qPw e t (.bool true)) want) (K (qPw e t (.bool false)) (!want))
  | .tup []=>K e false
  | _=>none
def qGG (P:Prog) (cK:qfW R) (nx:Nat) (o:IOper) (e:Env) (h:Heap) (K:Env -> Step -> Option R):Option R:=
 qOO e o.guard fun e b=>match b with
  | false=>K e .skip
  | true=>match qa8 qbl h (qxI e o.op) [] with
   | none=>none
   | some r=>opK P cK nx (qau e) (sub h r) o.op fun x=>match x with
    | (.ret v,out,w)=>K e (.did r w v out)
    | (.pan v,out,_)=>K e (.pan r v out)
def sm {α:Type} (o:Option α):Bool:=match o with
 | some _=>true
 | none=>false
def gv {α:Type} [Inhabited α] (o:Option α):α:=match o with
 | some x=>x
 | none=>default
@[simp] theorem sm_some {α:Type} (x:α):sm (some x) = true:=rfl
@[simp] theorem sm_none {α:Type}:sm (none:Option α) = false:=rfl
@[simp] theorem gv_some {α:Type} [Inhabited α] (x:α):gv (some x) = x:=rfl
theorem qGC {α:Type} [Inhabited α] {o:Option α} (h:sm o = true):o = some (gv o):=by cases o <;> first | rfl | cases h
def frcA:AV -> (AV -> Option R) -> Option R
 | .int k n,K=>K (.int k n)
 | .bool b,K=>K (.bool b)
 | .str s,K=>K (.str s)
 | .nilp,K=>K .nilp
 | .nilm,K=>K .nilm
 | .nilf,K=>K .nilf
 | .nili,K=>K .nili
 | .nils ⟨n,.nil⟩,K=>K (.nils ⟨n,.nil⟩)
 | .nils ⟨n,.any⟩,K=>K (.nils ⟨n,.any⟩)
 | .nils ⟨n,.non⟩,K=>K (.nils ⟨n,.non⟩)
 | .agg cs,K=>frcL cs fun cs=>K (.agg cs)
 | .tup cs,K=>frcL cs fun cs=>K (.tup cs)
 | .view n es,K=>K (.view n es)
 | .ptr cs,K=>frcL cs fun cs=>K (.ptr cs)
 | .own a b c,K=>K (.own a b c)
 | .ref a b c,K=>K (.ref a b c)
 | .mref a,K=>K (.mref a)
 | .fn f cs,K=>frcL cs fun cs=>K (.fn f cs)
 | .iface t v,K=>frcA v fun v=>K (.iface t v)
 | .junk,K=>K .junk
where frcL:List AV -> (List AV -> Option R) -> Option R
 | [],K=>K []
 | v :: vs,K=>frcA v fun v=>frcL vs fun vs=>K (v :: vs)
mutual
theorem qkc:∀ (v:AV) (K:AV -> Option R),frcA v K = K v
 | .nils ⟨_,k⟩,K=>by cases k <;> simp only [frcA]
 | .int ..,K | .bool ..,K | .str ..,K | .nilp,K | .nilm,K | .nilf,K | .nili,K | .view ..,K | .own ..,K | .ref ..,K | .mref _,K | .junk,K=>by simp only [frcA]
 | .agg cs,K=>by simp only [frcA]; exact qhT cs _
 | .tup cs,K=>by simp only [frcA]; exact qhT cs _
 | .ptr cs,K=>by simp only [frcA]; exact qhT cs _
 | .fn f cs,K=>by simp only [frcA]; exact qhT cs _
 | .iface t v,K=>by simp only [frcA]; exact qkc v _
theorem qhT:∀ (vs:List AV) (K:List AV -> Option R),frcA.frcL vs K = K vs
 | [],K=>by simp only [frcA.frcL]
 | v :: vs,K=>by simp only [frcA.frcL]; rw [qkc v]; exact qhT vs _
end
def qWM:Blk -> (Blk -> Option R) -> Option R
 | .box cs true,K=>frcA.frcL cs fun cs=>K (.box cs true)
 | .box cs false,K=>frcA.frcL cs fun cs=>K (.box cs false)
 | .arr sz es true,K=>K (.arr sz es true)
 | .arr sz es false,K=>K (.arr sz es false)
 | .mp kvs,K=>K (.mp kvs)
theorem qNI (b:Blk) (K:Blk -> Option R):qWM b K = K b:=by
 cases b with
 | box cs fz=>cases fz <;> simp only [qWM] <;> exact qhT _ _
 | arr sz es fz=>cases fz <;> rfl
 | mp kvs=>rfl
def qSi (n:Nat) (K:Nat -> Option R):Option R:=match n with
 | 0=>K 0
 | n + 1=>K (n + 1)
theorem qke (n:Nat) (K:Nat -> Option R):qSi n K = K n:=by cases n <;> rfl
def qUQ:Heap -> (Heap -> Option R) -> Option R
 | [],K=>K []
 | (i,b) :: h,K=>qSi i fun i=>qWM b fun b=>qUQ h fun h=>K ((i,b) :: h)
theorem qA1:∀ (h:Heap) (K:Heap -> Option R),qUQ h K = K h
 | [],K=>rfl
 | (i,b) :: h,K=>by simp only [qUQ]; rw [qke,qNI]; exact qA1 h _
def qPl:Env -> (Env -> Option R) -> Option R
 | [],K=>K []
 | (i,v) :: h,K=>qPl h fun h=>K ((i,v) :: h)
theorem qkd:∀ (h:Env) (K:Env -> Option R),qPl h K = K h
 | [],K=>rfl
 | (i,v) :: h,K=>by simp only [qPl]; exact qkd h _
def qnR (P:Prog) (cK:qfW R):List IOper -> Env -> Heap -> Nat -> (Env -> Option R) -> Option R
 | [],e,_,_,K=>K e
 | o :: ops,e,h,nx,K=>qGG P cK nx o e h fun e s=>match s with
  | .skip=>qnR P cK ops (qf0 o (qaY e o.dst .skip)) h (nx + 16) K
  | .did r w v out=>match w,out.all (fun p=>r.contains p.1) with
   | false,true=>frcA v fun v=>qSi (nx + 16) fun nx=>qPl (qf0 o (qs3 e o.dst v)) fun e=>qnR P cK ops e h nx K
   | _,_=>none
  | .pan _ _ _=>none
def qml (t:Nat):List IOper -> Option (List IOper × IOper × List IOper)
 | []=>none
 | o :: os=>match o.op with
  | .pick (.t c) _ _=>match Nat.beq c t with
   | true=>some ([],o,os)
   | false=>match qml t os with
    | some (g,p,r)=>some (o :: g,p,r)
    | none=>none
  | _=>match qml t os with
   | some (g,p,r)=>some (o :: g,p,r)
   | none=>none
def qWg:IOp -> Bool
 | .bslice .. | .aslc .. | .app .. | .store .. | .mupd .. | .mdel .. | .clr .. | .alloc .. | .box .. | .mkm | .mks .. | .pan ..=>false
 | _=>true
def within (c d:Nat) (o:IOper):Bool:=(match o.dst with
 | some j=>Nat.blt c j && Nat.blt j d
 | none=>false) && qWg o.op && match o.op with
 | .pick (.t k) _ _=>Nat.ble c k
 | _=>true
def qWf (P:Prog) (o:IOper):Bool:=match o.op with
 | .call f _=>!P.imp f
 | _=>true
def qSq (P:Prog) (o:IOper) (ops:List IOper):Option (Nat × Nat × List IOper × IOper × List IOper):=match o.guard with
 | none=>none
 | some (t,_)=>match qml t ops with
  | none=>none
  | some (g,p,r)=>match p.guard,p.dst with
   | none,some d=>match (o :: g).all (within t d) && (o :: g).all (qWf P) with
    | true=>some (t,d,o :: g,p,r)
    | false=>none
   | _,_=>none
def qFl (d:Nat) (e:Env):Option Bool:=match qbe e d with
 | .bool b=>some b
 | _=>none
def qOt (P:Prog) (cK:(R:Type) -> qfW R):Nat -> List IOper -> Env -> Heap -> Nat -> (X -> Env -> Heap -> Option R) -> Option R
 | 0,_,_,_,_,_=>none
 | _ + 1,[],e,h,_,K=>K .normal e h
 | n + 1,o :: ops,e,h,nx,K=>match qSq P o ops with
  | some (t,d,g,p,rest)=>
   let v:=qnR P (cK Bool) g e h nx fun e1=>qnR P (cK Bool) [p] e1 h (nx + 16 * g.length) (qFl d)
   br (sm v) (qSi (nx + 16 * (g.length + 1)) fun nx=>qPl (qcs t d e) fun e=>qOt P cK n rest ((d,.bool (gv v)) :: e) h nx K) none
  | none=>qGG P (cK R) nx o e h fun e s=>match s with
   | .pan r v out=>K (.pan v) e (qaD h (.pan r v out))
   | .skip=>qOt P cK n ops (qf0 o (qaY e o.dst .skip)) h (nx + 16) K
   | .did r w v out=>frcA v fun v=>qUQ (qaD h (.did r w v out)) fun h=>qSi (nx + 16) fun nx=>qPl (qf0 o (qs3 e o.dst v)) fun e=>qOt P cK n ops e h nx K
def qQF (P:Prog) (cK:qfW R) (base:Nat):Nat -> List IOper -> Env -> Heap -> List Step -> (Option AV -> Env -> Heap -> List Step -> Option R) -> Option R
 | _,[],e,h,log,K=>K none e h log
 | i,o :: ops,e,h,log,K=>qGG P cK (base + 16 * i) o e h fun e s=>match qOd s with
  | some v=>K (some v) e (qaD h s) log
  | none=>if tidy (base + 16 * i) (qbA e o) h s then match lost h (qbA e o) s with
    | []=>qQF P cK base (i + 1) ops (qaY e o.dst s) (qaD h s) (log ++ [s]) K
    | q :: g=>qQF P cK base (i + 1) ops (qaY e o.dst s) (qaD h s) (log ++ [mark (q :: g) s]) K
   else none
def qfX (P:Prog) (cK:(R:Type) -> qfW R) (lK:qsb R):ICode -> St -> (X -> St -> Option R) -> Option R
 | .skip,s,K=>K .normal s
 | .region ops d,s,K=>match d with
  | none=>qOt P cK (ops.length + 1) ops s.tm s.hp s.nx fun x e h=>K x ⟨e,h,s.nx + 16 * ops.length,s.k⟩
  | some befs=>qQF P (cK R) s.nx 0 ops s.tm s.hp [] fun pv e h log=>match pv with
   | none=>if calm s.nx befs ops e log then K .normal ⟨e,h,s.nx + 16 * ops.length,s.k⟩ else none
   | some v=>if calm s.nx befs ops e log && qU1 befs ops log.length then K (.pan v) ⟨[],h,s.nx + 16 * ops.length,s.k⟩ else none
 | .seq a b,s,K=>qfX P cK lK a s fun x s=>match x with
  | .normal=>qfX P cK lK b s K
  | x=>K x s
 | .cond c a b,s,K=>match qau s.tm c with
  | .bool t=>br t (qfX P cK lK a s K) (qfX P cK lK b s K)
  | _=>none
 | .block id c,s,K=>qfX P cK lK c s fun x s=>match x with
  | .exit j=>if j = id then K .normal s else K (.exit j) s
  | x=>K x s
 | .loop k c,s,K=>lK k c s K
 | .exit id,s,K=>K (.exit id) s
 | .ret,s,K=>K .ret s
def qlq (call:qaL) (cK:qfW R):Prop:=∀ f a h K ρ,cK f a h K = some ρ -> ∃ r h',call f a h = some (r,h') /\ K r h' = some ρ
def qm9 (loop:qdj) (lK:qsb R):ICode -> Prop
 | .seq a b=>qm9 loop lK a /\ qm9 loop lK b
 | .cond _ a b=>qm9 loop lK a /\ qm9 loop lK b
 | .block _ a=>qm9 loop lK a
 | .loop k c=>∀ s K ρ,lK k c s K = some ρ -> ∃ x s',loop k c s = some (x,s') /\ K x s' = some ρ
 | _=>True
def loops:ICode -> List (List Nat × ICode)
 | .seq a b=>loops a ++ loops b
 | .cond _ a b=>loops a ++ loops b
 | .block _ a=>loops a
 | .loop k c=>(k,c) :: loops c
 | _=>[]
def qai (F:Fun) (i:Nat):List Nat × ICode:=(loops F.body).getD i ([],.skip)
variable {P:Prog} {call:qaL} {cK:qfW R} {loop:qdj} {lK:qsb R}
theorem qe5 (hc:qlq call cK) {h:Heap} {nx f:Nat} {args:List AV} {K:Res × Heap × Bool -> Option R} {ρ:R} (hs:qpu P cK h nx f args K = some ρ):∃ r,qe4 P call h nx f args = some r /\ K r = some ρ:=by
 simp only [qpu] at hs
 obtain ⟨args',roots,hp,hs⟩:=qdw hs
 split at hs
 ·rename_i moved shwn h1 h2
  split at hs
  ·rename_i hd
   obtain ⟨r,h',hcl,hK⟩:=hc _ _ _ _ _ hs
   split at hK
   ·rename_i hall
    refine ⟨_,?_,hK⟩
    simp only [qe4,hp,h1,h2,hd,if_true,hcl,hall]
   ·cases hK
  ·cases hs
 ·cases hs
theorem qCv (call:qaL):LeC qCu call:=fun f a h r hr=>by simp [qCu] at hr
theorem qm4 {K:Res × Heap × Bool -> Option R} {ρ:R}:∀ {l:List Alt},qZS K l = some ρ -> ∃ r,(true,r) ∈ l /\ K r = some ρ
 | [],h=>by cases h
 | (b,r) :: l,h=>by
  cases b with
  | true=>exact ⟨r,by simp,h⟩
  | false=>
   obtain ⟨r',h1,h2⟩:=qm4 (l:=l) h
   exact ⟨r',by simp [h1],h2⟩
theorem qa2 {nx:Nat} {ev:Opd -> AV} {h:Heap} {io:IOp} {K:Res × Heap × Bool -> Option R} {ρ:R} (hs:qhH P nx ev h io K = some ρ):∃ r,opS P call nx ev h io = some r /\ K r = some ρ:=by
 simp only [qhH] at hs
 split at hs
 ·split at hs
  ·rename_i r hr; exact ⟨r,qnG (qCv call) hr,hs⟩
  ·cases hs
 ·obtain ⟨r,h1,h2⟩:=qm4 hs
  exact ⟨r,qMH h1,h2⟩
theorem qN9 {es:List AV} {i:Int} {ag:Bool} {ks:List CS} {K:List AV -> Option R} {ρ:R} (hs:br (okE ag ks es i) (qmF es i 0 ks K) none = some ρ):∃ e,qeY es i = some e /\ K (qac e) = some ρ /\ ∀ cs,elemOf e cs = qsu ag cs:=by
 obtain ⟨hok,hs⟩:=qex hs
 obtain ⟨e,he,hk,hel⟩:=qSY hok
 have:=qkA he ks 0 (K:=K) (by simpa using hk)
 rw [this] at hs
 exact ⟨e,he,by simpa using hs,hel⟩
theorem qwr {e:AV} {ag:Bool} (h:∀ cs,elemOf e cs = qsu ag cs):qsu ag (qac e) = e:=by
 rw [<- h]
 cases e <;> rfl
theorem qA2 {h:Heap} {r:List Nat} {id sz sz2:Nat} {es es2:List AV} {f1 f2:Bool} (hl:qad h id = some (.arr sz es f1)) (h2:qad (freeze h r) id = some (.arr sz2 es2 f2)):sz = sz2:=by
 have:Globs:=⟨fun _=>none⟩
 rw [qbz] at h2
 split at h2
 ·rw [hl] at h2; simp [qgy] at h2; exact h2.1
 ·rw [hl] at h2; simp at h2; exact h2.1
theorem qGH {h h':Heap} {v v':AV} {id sz sz2:Nat} {es es2:List AV} {f1 f2:Bool} (hl:qad h id = some (.arr sz es f1)) (hst:still h v = some (v',h')) (h2:qad h' id = some (.arr sz2 es2 f2)):sz = sz2:=by
 simp only [still] at hst
 split at hst
 ·simp at hst
  obtain ⟨_,rfl⟩:=hst
  rw [hl] at h2; simp at h2; exact h2.1
 ·split at hst
  ·simp at hst
   obtain ⟨_,rfl⟩:=hst
   exact qA2 hl h2
  ·cases hst
theorem qmm {agg:Bool} {sz:Nat} {cs:List AV} {j:Int} {h:Heap} {K:Res × Heap × Bool -> Option R} {ρ:R}:∀ {r k:Nat},qSs agg sz cs j h K r k = some ρ -> ∃ q v,j = Int.ofNat q /\ q < k + r /\ q * sz <= cs.length /\ part agg sz (cs.drop (q * sz)) = some v /\ K (.ret v,h,false) = some ρ
 | 0,k,hs=>by simp [qSs] at hs
 | r + 1,k,hs=>by
  simp only [qSs] at hs
  by_cases hj:j = Int.ofNat k
  ·have hd:decide (j = Int.ofNat k) = true:=by simpa using hj
   rw [hd] at hs
   simp only [br] at hs
   split at hs
   ·rename_i hle
    split at hs
    ·rename_i v hv
     exact ⟨k,v,hj,by omega,hle,hv,hs⟩
    ·cases hs
   ·cases hs
  ·have hd:decide (j = Int.ofNat k) = false:=by simpa using hj
   rw [hd] at hs
   simp only [br] at hs
   obtain ⟨q,v,h1,h2,h3⟩:=qmm hs
   exact ⟨q,v,h1,by omega,h3⟩
theorem qmA {F:Nat -> Option R} {j:Int} {ρ:R}:∀ {r k:Nat},qSC F j r k = some ρ -> ∃ q,j = Int.ofNat q /\ q < k + r /\ F q = some ρ
 | 0,k,hs=>by simp [qSC] at hs
 | r + 1,k,hs=>by
  simp only [qSC] at hs
  by_cases hj:j = Int.ofNat k
  ·have hd:decide (j = Int.ofNat k) = true:=by simpa using hj
   rw [hd] at hs
   exact ⟨k,hj,by omega,hs⟩
  ·have hd:decide (j = Int.ofNat k) = false:=by simpa using hj
   rw [hd] at hs
   obtain ⟨q,h1,h2,h3⟩:=qmA (k:=k + 1) hs
   exact ⟨q,h1,by omega,h3⟩
theorem qCG (hc:qlq call cK) {nx:Nat} {ev:Opd -> AV} {h:Heap} {io:IOp} {K:Res × Heap × Bool -> Option R} {ρ:R} (hs:opK P cK nx ev h io K = some ρ):∃ r,opS P call nx ev h io = some r /\ K r = some ρ:=by
 cases io <;> simp only [opK] at hs
 case idxa agg n sz x i=>
  split at hs
  ·rename_i cs k j h1 h2
   split at hs
   ·obtain ⟨q,v,rfl,hq,hle,hv,hs⟩:=qmm hs
    refine ⟨_,?_,hs⟩
    have e1:(0:Int) <= Int.ofNat q:=Int.natCast_nonneg q
    have e2:Int.ofNat q < (n:Int):=by show (q:Int) < (n:Int); omega
    have e3:(Int.ofNat q).toNat = q:=rfl
    simp only [opS,h1,h2,e3]
    rw [if_pos ⟨e1,e2,hle⟩,hv]
    rfl
   ·exact qa2 hs
  ·cases hs
 case aaddr n sz x i=>
  split at hs
  ·rename_i k j h2
   split at hs
   ·obtain ⟨q,rfl,hq,hs⟩:=qmA hs
    have e1:(0:Int) <= Int.ofNat q:=Int.natCast_nonneg q
    have e2:Int.ofNat q < (n:Int):=by show (q:Int) < (n:Int); omega
    have e3:(Int.ofNat q).toNat = q:=rfl
    unfold q1x at hs
    split at hs
    ·rename_i cs h1
     split at hs
     ·rename_i hle
      refine ⟨_,?_,hs⟩
      simp only [opS,h1,h2,e3]
      rw [if_pos ⟨e1,e2⟩,if_pos hle]; rfl
     ·cases hs
    ·rename_i id idx o h1
     refine ⟨_,?_,hs⟩
     simp only [opS,h1,h2,e3]
     rw [if_pos ⟨e1,e2⟩]; rfl
    ·cases hs
   ·exact qa2 hs
  ·cases hs
 case iaddr sz ks x i=>
  split at hs
  ·rename_i c ks' sz' es k j h1 h2
   split at hs
   ·rename_i hsz
    obtain ⟨hok,hs⟩:=qex hs
    simp only [qcO] at hok
    split at hok
    ·rename_i e he
     have:=qkA he _ 0 (K:=fun cs=>K (.ret (.ptr cs),h,false)) (by simpa using hok)
     rw [this] at hs
     refine ⟨_,?_,hs⟩
     simp [opS,h1,h2,he,hsz,val]
    ·cases hok
   ·cases hs
  ·exact qa2 hs
 case load agg n ks x=>
  split at hs
  ·rename_i id idx off hx
   split at hs
   ·rename_i sz es fz hl
    split at hs
    ·rename_i hcd
     obtain ⟨hk,hn,ha⟩:=hcd
     obtain ⟨hok,hs⟩:=qex hs
     simp only [okP] at hok
     split at hok
     ·rename_i e he
      rw [qvG he ks off hok] at hs
      have hlen:=qvC hok
      have hle:ks.length <= ((qac e).drop off).length:=by
       rw [List.length_take] at hlen; omega
      refine ⟨_,?_,hs⟩
      have hoff:off <= (qac e).length:=by rw [List.length_drop] at hle; omega
      simp only [opS,hx,qjI,hl,he,if_pos hoff,qr2,part]
      cases agg with
      | true=>
       simp only [if_true]
       rw [if_pos (by omega),hk]
      | false=>
       have h1:n = 1:=by simpa using ha
       subst h1
       simp only [Bool.false_eq_true,if_false,hk]
       cases hd:(qac e).drop off with
       | nil=>rw [hd] at hle; simp only [List.length_nil] at hle; omega
       | cons y ys=>simp
     ·cases hok
    ·cases hs
   ·exact qa2 hs
  ·exact qa2 hs
 case store n x v=>
  split at hs
  ·rename_i id idx off hx
   split at hs
   ·rename_i sz es hl
    obtain ⟨v',h',hst,hs⟩:=qrQ hs
    split at hs
    ·rename_i sz2 es2 hl2
     split at hs
     ·rename_i hcd
      obtain ⟨hok,hs⟩:=qex hs
      simp only [okS] at hok
      split at hok
      ·rename_i e he
       refine ⟨_,?_,hs⟩
       have hsz:sz = sz2:=qGH hl hst hl2
       simp only [opS,hx,qEm,hl,hst,hl2,he]
       rw [if_pos ⟨hcd.1,of_decide_eq_true hok,hcd.2⟩]
       simp only [qxu,he,hsz]
      ·cases hok
     ·cases hs
    ·cases hs
   ·exact qa2 hs
  ·exact qa2 hs
 case look ks z ok m k=>
  split at hs
  ·rename_i id hx
   split at hs
   ·rename_i kvs hl
    split at hs
    ·rename_i ag cs hz
     cases hh:qSI ks kvs (ev k) with
     | true=>
      rw [hh] at hs
      simp only [br] at hs
      obtain ⟨e,he,hs,hel⟩:=qN9 hs
      have he':qPr ks kvs (ev k) = e:=by simpa [qeY] using he
      simp only [qSI,Bool.and_eq_true] at hh
      obtain ⟨h1,h2⟩:=hh
      split at h2
      ·rename_i v hv
       simp only [qPr,hv] at he'
       subst he'
       refine ⟨_,?_,hs⟩
       simp only [opS,hx,hl,h1,if_true,hv,qwr hel,val]
      ·cases h2
     | false=>
      rw [hh] at hs
      obtain ⟨h1,hs⟩:=qex hs
      simp only [qUY,Bool.and_eq_true] at h1
      obtain ⟨h1,h2⟩:=h1
      split at h2
      ·rename_i hv
       refine ⟨_,?_,hs⟩
       simp only [opS,hx,hl,h1,if_true,hv,val]
      ·cases h2
    ·exact qa2 hs
   ·exact qa2 hs
  ·exact qa2 hs
 case pick c a b=>
  split at hs
  ·rename_i t ht
   cases t
   ·exact ⟨_,by simp [opS,ht,val],hs⟩
   ·exact ⟨_,by simp [opS,ht,val],hs⟩
  ·cases hs
 case call f args=>exact qe5 hc hs
 case callv fv args=>
  split at hs
  ·rename_i f cap hf
   obtain ⟨r,h1,h2⟩:=qe5 hc hs
   exact ⟨r,by simp only [opS,hf]; exact h1,h2⟩
  ·cases hs
 case invk tbl x args=>
  split at hs
  ·rename_i t v hf
   split at hs
   ·rename_i f hq
    obtain ⟨r,h1,h2⟩:=qe5 hc hs
    exact ⟨r,by simp only [opS,hf,hq]; exact h1,h2⟩
   ·cases hs
  ·cases hs
 all_goals exact qa2 hs
theorem qtl {e:Env} {g:Option (Nat × Bool)} {K:Env -> Bool -> Option R} {ρ:R} (hs:qOO e g K = some ρ):∃ b,qfB e g = some b /\ K e b = some ρ:=by
 cases g with
 | none=>exact ⟨true,rfl,hs⟩
 | some tw=>
  obtain ⟨t,want⟩:=tw
  simp only [qOO] at hs
  split at hs
  ·rename_i b hb
   have hset:qPw e t (.bool b) = e:=qr0 hb (by simp)
   cases b with
   | true=>
    simp only [br] at hs
    rw [hset] at hs
    exact ⟨want,by simp [qfB,hb],hs⟩
   | false=>
    simp only [br] at hs
    rw [hset] at hs
    exact ⟨!want,by cases want <;> simp [qfB,hb],hs⟩
  ·rename_i hb
   exact ⟨false,by simp [qfB,hb],hs⟩
  ·cases hs
theorem qeM (hc:qlq call cK) {nx:Nat} {o:IOper} {e:Env} {h:Heap} {K:Env -> Step -> Option R} {ρ:R} (hs:qGG P cK nx o e h K = some ρ):∃ s,qbt P call nx o e h = some s /\ K e s = some ρ:=by
 obtain ⟨b,hw,hs⟩:=qtl hs
 cases b with
 | false=>exact ⟨.skip,by simp [qbt,hw],hs⟩
 | true=>
  simp only at hs
  split at hs
  ·cases hs
  ·rename_i r hr
   obtain ⟨⟨x,out,w⟩,h1,h2⟩:=qCG hc hs
   cases x with
   | ret v=>exact ⟨.did r w v out,by simp only [qbt,hw,hr,h1],h2⟩
   | pan v=>exact ⟨.pan r v out,by simp only [qbt,hw,hr,h1],h2⟩
theorem qqn {c d t:Nat} {v:AV} {e:Env} (h:(Nat.blt c t && Nat.blt t d) = true):qcs c d (qs3 e (some t) v) = qcs c d e:=by
 simp only [qs3,qcs,h]
theorem qfL {c d c' d':Nat} (hc:c <= c') (hd:d' <= d):∀ e:Env,qcs c d (qcs c' d' e) = qcs c d e
 | []=>rfl
 | (j,v) :: e=>by
  by_cases h:(Nat.blt c' j && Nat.blt j d') = true
  ·have h2:(Nat.blt c j && Nat.blt j d) = true:=by
    simp only [Bool.and_eq_true,Nat.blt_eq] at h ⊢
    omega
   simp only [qcs,h,h2]
   exact qfL hc hd e
  ·have h1:(Nat.blt c' j && Nat.blt j d') = false:=by cases hq:(Nat.blt c' j && Nat.blt j d') <;> first | rfl | exact absurd hq h
   simp only [qcs,h1]
   by_cases h2:(Nat.blt c j && Nat.blt j d) = true
   ·simp only [h2]; exact qfL hc hd e
   ·have h3:(Nat.blt c j && Nat.blt j d) = false:=by cases hq:(Nat.blt c j && Nat.blt j d) <;> first | rfl | exact absurd hq h2
    simp only [h3,qfL hc hd e]
theorem qll {c d:Nat} {o:IOper} (h:within c d o = true) (e:Env) (s:Step) (hs:∀ r v out,s ≠ .pan r v out):qcs c d (qf0 o (qaY e o.dst s)) = qcs c d e:=by
 obtain ⟨dst,op,g⟩:=o
 simp only [within,Bool.and_eq_true] at h
 obtain ⟨⟨h1,_⟩,h2⟩:=h
 cases dst with
 | none=>cases h1
 | some j=>
  simp only at h1
  have qbu:qcs c d (qaY e (some j) s) = qcs c d e:=by
   cases s with
   | skip=>exact qqn h1
   | did r w v out=>exact qqn h1
   | pan r v out=>exact absurd rfl (hs r v out)
  by_cases hp:∃ k a b,op = .pick (.t k) a b
  ·obtain ⟨k,a,b,rfl⟩:=hp
   simp only at h2
   simp only [qf0]
   rw [qfL (Nat.le_of_ble_eq_true h2) (by
    have:=(Bool.and_eq_true _ _ ▸ h1).2
    simp only [Nat.blt_eq] at this
    omega),qbu]
  ·have:∀ e2,qf0 ⟨some j,op,g⟩ e2 = e2:=by
    intro e2
    simp only [qf0]
    split
    ·exact absurd ⟨_,_,_,rfl⟩ hp
    ·rfl
   rw [this]; exact qbu
theorem qnC {r:List Nat}:∀ {out:Heap},out.all (fun p=>r.contains p.1) = true -> news r out = []
 | [],_=>rfl
 | (i,b) :: h,hs=>by
  simp only [List.all_cons,Bool.and_eq_true] at hs
  simp only [news,hs.1,if_true,qnC hs.2]
theorem qlG {e:Env} {dst:Option Nat} {r:List Nat} {w:Bool} {v:AV} {out:Heap}:qaY e dst (.did r w v out) = qs3 e dst v:=rfl
theorem qgB (hc:qlq call cK) {c d:Nat}:∀ {ops:List IOper} {e:Env} {h:Heap} {nx:Nat} {K:Env -> Option R} {ρ:R},qnR P cK ops e h nx K = some ρ -> ∀ log,∃ e' log',K e' = some ρ /\
  (ops.all (within c d) = true -> qcs c d e' = qcs c d e) /\ ∀ more (out:Option (X × Env × Heap × List Step)),qbK P call more e' h (nx + 16 * ops.length) log' = out -> qbK P call (ops ++ more) e h nx log = out
 | [],e,h,nx,K,ρ,hs,log=>⟨e,log,hs,fun _=>rfl,fun more out ho=>by simpa using ho⟩
 | o :: ops,e,h,nx,K,ρ,hs,log=>by
  simp only [qnR] at hs
  obtain ⟨s,h1,h2⟩:=qeM hc hs
  cases s with
  | pan r v out=>cases h2
  | skip=>
   obtain ⟨e',log',h3,h4,h5⟩:=qgB (c:=c) (d:=d) hc h2 (log ++ [.skip])
   refine ⟨e',log',h3,fun ha=>?_,fun more out ho=>?_⟩
   ·simp only [List.all_cons,Bool.and_eq_true] at ha
    rw [h4 ha.2,qll ha.1 _ _ (fun _ _ _ h=>by cases h)]
   ·simp only [List.cons_append,qbK,h1]
    refine h5 more out ?_
    rw [<- ho]; congr 1; simp; omega
  | did r w v out0=>
   simp only at h2
   split at h2
   ·rename_i hall
    rw [qkc,qke,qkd] at h2
    obtain ⟨e',log',h3,h4,h5⟩:=qgB (c:=c) (d:=d) hc h2 (log ++ [.did r false v out0])
    refine ⟨e',log',h3,fun ha=>?_,fun more out ho=>?_⟩
    ·simp only [List.all_cons,Bool.and_eq_true] at ha
     rw [h4 ha.2,<- qlG (r:=r) (w:=false) (out:=out0),qll ha.1 _ _ (fun _ _ _ h=>by cases h)]
    ·simp only [List.cons_append,qbK,h1]
     have hh:qaD h (.did r false v out0) = h:=by simp [qaD,qnC hall]
     rw [hh]
     refine h5 more out ?_
     rw [<- ho]; congr 1; simp; omega
   ·cases h2
theorem qkf {t:Nat}:∀ {os g r:List IOper} {p:IOper},qml t os = some (g,p,r) -> os = g ++ p :: r /\ ∃ a b,p.op = .pick (.t t) a b
 | [],g,r,p,h=>by simp [qml] at h
 | o :: os,g,r,p,h=>by
  simp only [qml] at h
  split at h
  ·rename_i c a b ho
   split at h
   ·rename_i hb
    cases h
    have:c = t:=Nat.eq_of_beq_eq_true hb
    subst this
    exact ⟨rfl,a,b,ho⟩
   ·split at h
    ·rename_i q
     cases h
     obtain ⟨h1,h2⟩:=qkf q
     exact ⟨by rw [h1]; rfl,h2⟩
    ·cases h
  ·split at h
   ·rename_i q
    cases h
    obtain ⟨h1,h2⟩:=qkf q
    exact ⟨by rw [h1]; rfl,h2⟩
   ·cases h
theorem qfQ {cK:(R:Type) -> qfW R} (hc:∀ R,qlq call (cK R)):∀ {n:Nat} {ops:List IOper} {e:Env} {h:Heap} {nx:Nat} {K:X -> Env -> Heap -> Option R} {ρ:R},qOt P cK n ops e h nx K = some ρ -> ∀ log,∃ x e' h' log',qbK P call ops e h nx log = some (x,e',h',log') /\ K x e' h' = some ρ
 | 0,ops,e,h,nx,K,ρ,hs,log=>by simp [qOt] at hs
 | n + 1,[],e,h,nx,K,ρ,hs,log=>⟨_,_,_,_,rfl,hs⟩
 | n + 1,o :: ops,e,h,nx,K,ρ,hs,log=>by
  simp only [qOt] at hs
  split at hs
  ·rename_i t d g p rest hg
   obtain ⟨hb,hs⟩:=qex hs
   rw [qke,qkd] at hs
   simp only [qSq] at hg
   split at hg
   ·cases hg
   ·split at hg
    ·cases hg
    ·rename_i g0 p0 r0 he
     split at hg
     ·rename_i hpg hpd
      split at hg
      ·rename_i hall
       rw [Bool.and_eq_true] at hall
       replace hall:=hall.1
       cases hg
       obtain ⟨hops,a,b,hpo⟩:=qkf he
       have hv:=qGC hb
       generalize gv (qnR P (cK Bool) (o :: g0) e h nx fun e1=>qnR P (cK Bool) [p] e1 h (nx + 16 * (o :: g0).length) (qFl d)) = bv at hv hs
       obtain ⟨e1,log1,h3,h4,h5⟩:=qgB (c:=t) (d:=d) (hc Bool) hv log
       have hkill:=h4 hall
       simp only [qnR] at h3
       obtain ⟨s,k1,k2⟩:=qeM (hc Bool) h3
       have htrim:∀ e2,qf0 p e2 = qcs t d e2:=fun e2=>by unfold qf0; rw [hpo,hpd]
       have hself:∀ (v:AV) (e2:Env),qcs t d ((d,v) :: e2) = (d,v) :: qcs t d e2:=fun v e2=>by
        have hb:(Nat.blt t d && Nat.blt d d) = false:=by
         have:Nat.blt d d = false:=by
          cases hq:Nat.blt d d with
          | false=>rfl
          | true=>exact absurd (Nat.blt_eq ▸ hq) (Nat.lt_irrefl d)
         rw [this,Bool.and_false]
        simp only [qcs,hb]
       cases s with
       | pan r v out=>cases k2
       | skip=>
        exfalso
        rw [htrim,hpd,show qaY e1 (some d) Step.skip = (d,unit) :: e1 from rfl,hself] at k2
        simp [qFl,qbe,unit] at k2
       | did r w v out=>
        simp only at k2
        split at k2
        ·rename_i hall2
         rw [qkc,qke,qkd,htrim,hpd,show qs3 e1 (some d) v = (d,v) :: e1 from rfl,hself] at k2
         simp only [qFl,qbe,if_true] at k2
         split at k2
         ·rename_i b0
          cases k2
          have hh:qaD h (.did r false (.bool bv) out) = h:=by simp [qaD,qnC hall2]
          obtain ⟨x,e',h',log',q1,q2⟩:=qfQ hc hs (log1 ++ [.did r false (.bool bv) out])
          refine ⟨x,e',h',log',?_,q2⟩
          have hsplit:o :: ops = (o :: g0) ++ p :: rest:=by rw [hops]; rfl
          rw [hsplit]
          refine h5 (p :: rest) _ ?_
          simp only [qbK,k1,hh]
          rw [htrim,qlG,hpd,show qs3 e1 (some d) (AV.bool bv) = (d,.bool bv) :: e1 from rfl,hself,hkill]
          rw [<- q1]; congr 1
         ·cases k2
        ·cases k2
      ·cases hg
     ·cases hg
  ·obtain ⟨s,h1,h2⟩:=qeM (hc R) hs
   simp only [qbK,h1]
   cases s with
   | pan r v out=>exact ⟨_,_,_,_,rfl,h2⟩
   | skip=>exact qfQ hc h2 _
   | did r w v out=>
    simp only at h2
    rw [qkc,qA1,qke,qkd] at h2
    exact qfQ hc h2 _
theorem qhy (hc:qlq call cK) {base:Nat}:∀ {ops:List IOper} {i:Nat} {e:Env} {h:Heap} {log:List Step} {K:Option AV -> Env -> Heap -> List Step -> Option R} {ρ:R},qQF P cK base i ops e h log K = some ρ -> ∃ pv e' h' log',qck P call base i ops e h log = some (pv,e',h',log') /\ K pv e' h' log' = some ρ
 | [],i,e,h,log,K,ρ,hs=>⟨_,_,_,_,rfl,hs⟩
 | o :: ops,i,e,h,log,K,ρ,hs=>by
  simp only [qQF] at hs
  obtain ⟨s,h1,h2⟩:=qeM hc hs
  split at h2
  ·rename_i v hp
   exact ⟨_,_,_,_,by simp only [qck,h1,hp],h2⟩
  ·rename_i hp
   split at h2
   ·rename_i ht
    split at h2
    ·rename_i hl
     obtain ⟨pv,e',h',log',h3,h4⟩:=qhy hc h2
     exact ⟨pv,e',h',log',by simp only [qck,h1,hp,ht,if_true,hl]; exact h3,h4⟩
    ·rename_i q g hl
     obtain ⟨pv,e',h',log',h3,h4⟩:=qhy hc h2
     exact ⟨pv,e',h',log',by simp only [qck,h1,hp,ht,if_true,hl]; exact h3,h4⟩
   ·cases h2
theorem qcp {cK:(R:Type) -> qfW R} (hc:∀ R,qlq call (cK R)):∀ {c:ICode},qm9 loop lK c -> ∀ {s:St} {K:X -> St -> Option R} {ρ:R},qfX P cK lK c s K = some ρ -> ∃ x s',qbi P call loop c s = some (x,s') /\ K x s' = some ρ:=by
 intro c
 induction c with
 | skip=>intro _ s K ρ h; exact ⟨_,_,rfl,h⟩
 | region ops d=>
  intro _ s K ρ h
  simp only [qfX] at h
  cases d with
  | none=>
   obtain ⟨x,e',h',log',h1,h2⟩:=qfQ hc h []
   exact ⟨x,_,by simp only [qbi,qaV,h1],h2⟩
  | some befs=>
   obtain ⟨pv,e',h',log',h1,h2⟩:=qhy (hc R) h
   cases pv with
   | none=>
    simp only at h2
    split at h2
    ·rename_i hcalm
     exact ⟨_,_,by simp only [qbi,qaV,h1,hcalm,if_true],h2⟩
    ·cases h2
   | some v=>
    simp only at h2
    split at h2
    ·rename_i hcalm
     exact ⟨_,_,by simp only [qbi,qaV,h1,hcalm,if_true],h2⟩
    ·cases h2
 | seq a b iha ihb=>
  intro hl s K ρ h
  simp only [qfX] at h
  obtain ⟨x,s1,h1,h2⟩:=iha hl.1 h
  cases x with
  | normal=>
   obtain ⟨x2,s2,h3,h4⟩:=ihb hl.2 h2
   exact ⟨x2,s2,by simp only [qbi,h1]; exact h3,h4⟩
  | _=>exact ⟨_,_,by simp only [qbi,h1],h2⟩
 | cond c a b iha ihb=>
  intro hl s K ρ h
  simp only [qfX] at h
  split at h
  ·rename_i t ht
   cases t with
   | true=>
    obtain ⟨x,s1,h1,h2⟩:=iha hl.1 h
    exact ⟨x,s1,by simp only [qbi,ht]; exact h1,h2⟩
   | false=>
    obtain ⟨x,s1,h1,h2⟩:=ihb hl.2 h
    exact ⟨x,s1,by simp only [qbi,ht]; exact h1,h2⟩
  ·cases h
 | block id a ih=>
  intro hl s K ρ h
  simp only [qfX] at h
  obtain ⟨x,s1,h1,h2⟩:=ih hl h
  cases x with
  | exit j=>
   simp only at h2
   split at h2
   ·rename_i hj; exact ⟨_,_,by simp only [qbi,h1,hj,if_true],h2⟩
   ·rename_i hj; exact ⟨_,_,by simp only [qbi,h1,hj,if_false],h2⟩
  | _=>exact ⟨_,_,by simp only [qbi,h1],h2⟩
 | loop k a ih=>intro hl s K ρ h; exact hl _ _ _ h
 | exit id=>intro _ s K ρ h; exact ⟨_,_,rfl,h⟩
 | ret=>intro _ s K ρ h; exact ⟨_,_,rfl,h⟩
def qvi (P:Prog) (f k:Nat) (v:AV) (h:Heap) (K:AV -> Heap -> Option R):Option R:=
 let rest (v:AV) (h:Heap):Option R:=match qa8 qbl h (idsA v ++ brought h k) (List.range k) with
  | none=>none
  | some r=>K (ren (place r) v) (qft (place r) (sub h r))
 if P.fresh f then rest v h else match idsA v with
  | []=>rest (nz v) h
  | ids=>br (qcF h qbl v) (match qa8 qbl h ids [] with
   | some r=>rest (qkQ h qbl v) (freeze h r)
   | none=>none) none
theorem qfi {f k:Nat} {v:AV} {h:Heap} {K:AV -> Heap -> Option R} {ρ:R} (hs:qvi P f k v h K = some ρ):∃ v' h',qnw P f k v h = some (v',h') /\ K v' h' = some ρ:=by
 simp only [qvi] at hs
 split at hs
 ·rename_i hf
  split at hs
  ·cases hs
  ·rename_i r hr; exact ⟨_,_,by simp only [qnw,hf,if_true,hr],hs⟩
 ·rename_i hf
  split at hs
  ·rename_i hi
   split at hs
   ·cases hs
   ·rename_i r hr; exact ⟨_,_,by simp only [qnw,if_neg hf,still,hi,hr],hs⟩
  ·rename_i ids hi
   obtain ⟨hb,hs⟩:=qex hs
   split at hs
   ·rename_i r0 hr0
    split at hs
    ·cases hs
    ·rename_i r hr
     refine ⟨_,_,?_,hs⟩
     simp only [qnw,if_neg hf,still,qkR _ _ hb,hr0,hr]
   ·cases hs
def qFk (P:Prog) (cK:(R:Type) -> qfW R) (lK:qsb R) (f:Nat) (F:Fun) (args:List AV) (h:Heap) (K:Res -> Heap -> Option R):Option R:=
 qfX P cK lK F.body ⟨params 0 args,wH P f h,h.length,h.length⟩ fun x s=>
  let fin (_:Unit):Option R:=match qf8 s F.results with
   | some vs=>qvi P f h.length (one vs) s.hp fun v h=>K (.ret (wV P f v)) h
   | none=>none
  match x with
  | .normal=>fin ()
  | .ret=>fin ()
  | .pan v=>qvi P f h.length v s.hp fun v h=>K (.pan v) h
  | .exit _=>none
theorem qjE {cK:(R:Type) -> qfW R} (hc:∀ R,qlq call (cK R)) {f:Nat} {F:Fun} (hl:qm9 loop lK F.body) {args:List AV} {h:Heap} {K:Res -> Heap -> Option R} {ρ:R} (hs:qFk P cK lK f F args h K = some ρ):∃ r h',body P call loop f F args h = some (r,h') /\ K r h' = some ρ:=by
 obtain ⟨x,s,h1,h2⟩:=qcp hc hl hs
 simp only [body,h1]
 cases x with
 | exit j=>cases h2
 | pan v=>
  simp only at h2 ⊢
  obtain ⟨v',h',hv,h2⟩:=qfi h2
  exact ⟨_,_,by simp only [hv],h2⟩
 | normal=>
  simp only at h2 ⊢
  split at h2
  ·rename_i hv
   obtain ⟨v',h',hw,h2⟩:=qfi h2
   exact ⟨_,_,by simp only [hv,hw],h2⟩
  ·cases h2
 | ret=>
  simp only at h2 ⊢
  split at h2
  ·rename_i hv
   obtain ⟨v',h',hw,h2⟩:=qfi h2
   exact ⟨_,_,by simp only [hv,hw],h2⟩
  ·cases h2
def qZU (K:Res -> Heap -> Option R):List (Bool × Res × Heap) -> Option R
 | []=>none
 | (b,r,h) :: l=>br b (K r h) (qZU K l)
theorem qm6 {K:Res -> Heap -> Option R} {ρ:R}:∀ {l:List (Bool × Res × Heap)},qZU K l = some ρ -> ∃ r h,(true,r,h) ∈ l /\ K r h = some ρ
 | [],h=>by cases h
 | (b,r,h) :: l,hs=>by
  cases b with
  | true=>exact ⟨r,h,by simp,hs⟩
  | false=>
   obtain ⟨r',h',h1,h2⟩:=qm6 (l:=l) hs
   exact ⟨r',h',by simp [h1],h2⟩
def qZT (K:X -> St -> Option R):List (Bool × X × St) -> Option R
 | []=>none
 | (b,x,s) :: l=>br b (K x s) (qZT K l)
theorem qm5 {K:X -> St -> Option R} {ρ:R}:∀ {l:List (Bool × X × St)},qZT K l = some ρ -> ∃ x s,(true,x,s) ∈ l /\ K x s = some ρ
 | [],h=>by cases h
 | (b,x,s) :: l,hs=>by
  cases b with
  | true=>exact ⟨x,s,by simp,hs⟩
  | false=>
   obtain ⟨x',s',h1,h2⟩:=qm5 (l:=l) hs
   exact ⟨x',s',by simp [h1],h2⟩
end
end Go.Eng
namespace Go.Eng
theorem qmB {IP:Prog} {keep:List Nat} {c:ICode} {s s':St} (h:norm (hk keep) s = norm (hk keep) s') {r:X × St} (hr:qfY IP keep c s' = some r):qfY IP keep c s = some r:=by
 obtain ⟨n,hn⟩:=qd5.1 hr
 refine qd5.2 ⟨n,?_⟩
 cases n with
 | zero=>simp [qaq] at hn
 | succ n=>simp only [qaq] at hn ⊢; rw [h]; exact hn
@[simp] theorem br_true {R:Type} (x y:R):br true x y = x:=rfl
@[simp] theorem br_false {R:Type} (x y:R):br false x y = y:=rfl
theorem getD_some {α:Type} {l:List α} {i:Nat} {d:α} (h:i < l.length):l[i]?.getD d = l[i]:=by simp [h]
end Go.Eng
namespace Go.Eng
inductive Rd (τ:Type) where
 | next (v:τ)
 | done (j:Nat)
inductive Rx (τ:Type) where
 | next (v:τ)
 | out (x:X) (s:St)
def qfg {τ:Type} (st:τ -> Option (Rd τ)):Nat -> τ -> Option (Nat × τ)
 | 0,_=>none
 | n + 1,v=>match st v with
  | some (.next v')=>qfg st n v'
  | some (.done j)=>some (j,v)
  | none=>none
theorem qmq {τ:Type} {st:τ -> Option (Rd τ)}:∀ {n:Nat} {v:τ} {r:Nat × τ},qfg st n v = some r -> qfg st (n + 1) v = some r
 | 0,v,r,h=>by simp [qfg] at h
 | n + 1,v,r,h=>by
  simp only [qfg] at h ⊢
  cases hs:st v with
  | none=>rw [hs] at h; cases h
  | some q=>
   rw [hs] at h
   cases q with
   | next v'=>exact qmq h
   | done j=>exact h
theorem qmp {τ:Type} {st:τ -> Option (Rd τ)} {n m:Nat} (hnm:n <= m) {v:τ} {r:Nat × τ} (h:qfg st n v = some r):qfg st m v = some r:=by
 induction hnm with
 | refl=>exact h
 | step _ ih=>exact qmq ih
open Classical in
noncomputable def qat {τ:Type} (st:τ -> Option (Rd τ)) (v:τ):Option (Nat × τ):=
 if h:∃ r n,qfg st n v = some r then some h.choose else none
theorem qc7 {τ:Type} {st:τ -> Option (Rd τ)} {v:τ} {r:Nat × τ}:qat st v = some r ↔ ∃ n,qfg st n v = some r:=by
 unfold qat
 split
 ·rename_i h
  obtain ⟨n,hn⟩:=h.choose_spec
  constructor
  ·intro hr; cases hr; exact ⟨n,hn⟩
  ·rintro ⟨m,hm⟩
   have h1:=qmp (Nat.le_max_left n m) hn
   have h2:=qmp (Nat.le_max_right n m) hm
   rw [h1] at h2; exact h2
 ·rename_i h
  constructor
  ·intro hr; cases hr
  ·rintro ⟨n,hn⟩; exact absurd ⟨r,n,hn⟩ h
theorem qbF {τ:Type} (st:τ -> Option (Rd τ)) (v:τ):qat st v = match st v with
  | some (.next v')=>qat st v'
  | some (.done j)=>some (j,v)
  | none=>none:=by
 cases hs:st v with
 | none=>
  simp only
  cases hi:qat st v with
  | none=>rfl
  | some r=>
   obtain ⟨n,hn⟩:=qc7.1 hi
   cases n with
   | zero=>simp [qfg] at hn
   | succ n=>simp [qfg,hs] at hn
 | some q=>
  cases q with
  | done j=>exact qc7.2 ⟨1,by simp [qfg,hs]⟩
  | next v'=>
   simp only
   cases hi:qat st v' with
   | some r=>
    obtain ⟨n,hn⟩:=qc7.1 hi
    exact qc7.2 ⟨n + 1,by simp [qfg,hs,hn]⟩
   | none=>
    cases hj:qat st v with
    | none=>rfl
    | some r=>
     obtain ⟨n,hn⟩:=qc7.1 hj
     cases n with
     | zero=>simp [qfg] at hn
     | succ n=>
      simp only [qfg,hs] at hn
      rw [qc7.2 ⟨n,hn⟩] at hi; cases hi
theorem qcr {τ:Type} {st:τ -> Option (Rd τ)} {v v':τ} (h:st v = some (.next v')):qat st v = qat st v':=by rw [qbF,h]
theorem qaX {τ:Type} {st:τ -> Option (Rd τ)} {v:τ} {j:Nat} (h:st v = some (.done j)):qat st v = some (j,v):=by rw [qbF,h]
def qPh {τ:Type} (keep:List Nat) (dec:St -> Option τ) (x:X) (s:St):Option (Rx τ):=match x with
 | .normal=>match norm (hk keep) s with
  | some s=>match dec s with
   | some v=>some (.next v)
   | none=>none
  | none=>none
 | x=>match qnH keep x s with
  | some (x,s)=>some (.out x s)
  | none=>none
def cv {τ:Type} (ex:Nat -> X × St):Option (Rd τ) -> Option (Rx τ)
 | some (.next v)=>some (.next v)
 | some (.done j)=>some (.out (ex j).1 (ex j).2)
 | none=>none
section
variable {IP:Prog} {τ:Type} {cK:(R:Type) -> qfW R} {lK:qsb (Rx τ)} {keep:List Nat} {c:ICode}
end
def Told (IP:Prog) (keep:List Nat) (c:ICode) (g:St -> List (Bool × X × St)):Prop:=
 (∀ s x s',(true,x,s') ∈ g s -> qfY IP keep c s = some (x,s')) /\ ∀ s,g s ≠ [] -> norm (hk keep) s = some s
theorem qre {IP:Prog} {keep:List Nat} {c:ICode} {g:St -> List (Bool × X × St)} (h:Told IP keep c g) {s s1:St} (hn:norm (hk keep) s = some s1) {x:X} {s':St} (hm:(true,x,s') ∈ g s1):qfY IP keep c s = some (x,s'):=
 qmB (by rw [hn,h.2 s1 (fun he=>by rw [he] at hm; cases hm)]) (h.1 s1 x s' hm)
end Go.Eng
namespace Go.Eng
inductive Lf where
 | i (n:Int)
 | b (x:Bool)
 | s (s:List UInt8)
 | l (es:List AV)
 | n (k:Nat)
 | m (kvs:List (AV × AV))
inductive PA where
 | int (k:IntKind)
 | bool
 | str
 | nilp | nilm | nilf | nili | junk
 | nils (q:NilS)
 | agg (ps:List PA)
 | tup (ps:List PA)
 | view (sz:Nat)
 | ptr (ps:List PA)
 | own (id off:Nat)
 | ownn (id off:Nat)
 | ref (id idx off:Nat)
 | mref (id:Nat)
 | fn (f:FnId) (ps:List PA)
 | iface (t:Nat) (p:PA)
def qFe:Option (List Lf) -> Option (List Lf) -> Option (List Lf)
 | some a,some b=>some (a ++ b)
 | _,_=>none
def mA:PA -> AV -> Option (List Lf)
 | .int k,.int k' n=>if k' = k then some [.i n] else none
 | .bool,.bool x=>some [.b x]
 | .str,.str x=>some [.s x]
 | .nilp,.nilp=>some []
 | .nilm,.nilm=>some []
 | .nilf,.nilf=>some []
 | .nili,.nili=>some []
 | .junk,.junk=>some []
 | .nils q,.nils q'=>if q' = q then some [] else none
 | .agg ps,.agg cs=>mAs ps cs
 | .tup ps,.tup cs=>mAs ps cs
 | .view sz,.view sz' es=>if sz' = sz then some [.l es] else none
 | .ptr ps,.ptr cs=>mAs ps cs
 | .own id off,.own id' off' none=>if id' = id /\ off' = off then some [] else none
 | .ownn id off,.own id' off' (some k)=>if id' = id /\ off' = off then some [.n k] else none
 | .ref id idx off,.ref id' idx' off'=>if id' = id /\ idx' = idx /\ off' = off then some [] else none
 | .mref id,.mref id'=>if id' = id then some [] else none
 | .fn f ps,.fn f' cs=>if f' = f then mAs ps cs else none
 | .iface t p,.iface t' v=>if t' = t then mA p v else none
 | _,_=>none
where mAs:List PA -> List AV -> Option (List Lf)
 | [],[]=>some []
 | p :: ps,v :: vs=>qFe (mA p v) (mAs ps vs)
 | _,_=>none
def lfI:List Lf -> Int
 | .i n :: _=>n
 | _=>0
def lfB:List Lf -> Bool
 | .b n :: _=>n
 | _=>false
def lfS:List Lf -> List UInt8
 | .s n :: _=>n
 | _=>[]
def lfL:List Lf -> List AV
 | .l n :: _=>n
 | _=>[]
def lfN:List Lf -> Nat
 | .n n :: _=>n
 | _=>0
def lfM:List Lf -> List (AV × AV)
 | .m n :: _=>n
 | _=>[]
def szA:PA -> Nat
 | .int _ | .bool | .str | .view _ | .ownn _ _=>1
 | .agg ps | .tup ps | .ptr ps | .fn _ ps=>szAs ps
 | .iface _ p=>szA p
 | _=>0
where szAs:List PA -> Nat
 | []=>0
 | p :: ps=>szA p + szAs ps
def fA:PA -> List Lf -> AV
 | .int k,ls=>.int k (lfI ls)
 | .bool,ls=>.bool (lfB ls)
 | .str,ls=>.str (lfS ls)
 | .nilp,_=>.nilp
 | .nilm,_=>.nilm
 | .nilf,_=>.nilf
 | .nili,_=>.nili
 | .junk,_=>.junk
 | .nils sz,_=>.nils sz
 | .agg ps,ls=>.agg (fAs ps ls)
 | .tup ps,ls=>.tup (fAs ps ls)
 | .view sz,ls=>.view sz (lfL ls)
 | .ptr ps,ls=>.ptr (fAs ps ls)
 | .own id off,_=>.own id off none
 | .ownn id off,ls=>.own id off (some (lfN ls))
 | .ref id idx off,_=>.ref id idx off
 | .mref id,_=>.mref id
 | .fn f ps,ls=>.fn f (fAs ps ls)
 | .iface t p,ls=>.iface t (fA p ls)
where fAs:List PA -> List Lf -> List AV
 | [],_=>[]
 | p :: ps,ls=>fA p ls :: fAs ps (ls.drop (szA p))
theorem qdW {a b:Option (List Lf)} {r:List Lf} (h:qFe a b = some r):∃ x y,a = some x /\ b = some y /\ r = x ++ y:=by
 cases a <;> cases b <;> simp [qFe] at h
 exact ⟨_,_,rfl,rfl,h.symm⟩
mutual
theorem qF6:∀ (p:PA) {v:AV} {ls:List Lf},mA p v = some ls -> ls.length = szA p /\ ∀ r,fA p (ls ++ r) = v
 | .int k,v,ls,h=>by
  cases v <;> simp only [mA,reduceCtorEq] at h
  split at h
  ·rename_i hk; subst hk; simp at h; subst h; exact ⟨rfl,fun r=>rfl⟩
  ·cases h
 | .bool,v,ls,h=>by cases v <;> simp [mA] at h; subst h; exact ⟨rfl,fun r=>rfl⟩
 | .str,v,ls,h=>by cases v <;> simp [mA] at h; subst h; exact ⟨rfl,fun r=>rfl⟩
 | .nilp,v,ls,h=>by cases v <;> simp [mA] at h; subst h; exact ⟨rfl,fun r=>rfl⟩
 | .nilm,v,ls,h=>by cases v <;> simp [mA] at h; subst h; exact ⟨rfl,fun r=>rfl⟩
 | .nilf,v,ls,h=>by cases v <;> simp [mA] at h; subst h; exact ⟨rfl,fun r=>rfl⟩
 | .nili,v,ls,h=>by cases v <;> simp [mA] at h; subst h; exact ⟨rfl,fun r=>rfl⟩
 | .junk,v,ls,h=>by cases v <;> simp [mA] at h; subst h; exact ⟨rfl,fun r=>rfl⟩
 | .nils sz,v,ls,h=>by
  cases v <;> simp only [mA,reduceCtorEq] at h
  split at h
  ·rename_i hk; subst hk; simp at h; subst h; exact ⟨rfl,fun r=>rfl⟩
  ·cases h
 | .agg ps,v,ls,h=>by
  cases v <;> simp only [mA,reduceCtorEq] at h
  obtain ⟨h1,h2⟩:=qku ps h
  exact ⟨h1,fun r=>by simp only [fA,h2]⟩
 | .tup ps,v,ls,h=>by
  cases v <;> simp only [mA,reduceCtorEq] at h
  obtain ⟨h1,h2⟩:=qku ps h
  exact ⟨h1,fun r=>by simp only [fA,h2]⟩
 | .view sz,v,ls,h=>by
  cases v <;> simp only [mA,reduceCtorEq] at h
  split at h
  ·rename_i hk; subst hk; simp at h; subst h; exact ⟨rfl,fun r=>rfl⟩
  ·cases h
 | .ptr ps,v,ls,h=>by
  cases v <;> simp only [mA,reduceCtorEq] at h
  obtain ⟨h1,h2⟩:=qku ps h
  exact ⟨h1,fun r=>by simp only [fA,h2]⟩
 | .own id off,v,ls,h=>by
  cases v <;> first | (exfalso; revert h; simp [mA]; done) | skip
  rename_i a b lo
  cases lo <;> first | (exfalso; revert h; simp [mA]; done) | skip
  simp only [mA] at h
  split at h
  ·rename_i hk; obtain ⟨rfl,rfl⟩:=hk; simp at h; subst h; exact ⟨rfl,fun r=>rfl⟩
  ·cases h
 | .ownn id off,v,ls,h=>by
  cases v <;> first | (exfalso; revert h; simp [mA]; done) | skip
  rename_i a b lo
  cases lo <;> first | (exfalso; revert h; simp [mA]; done) | skip
  simp only [mA] at h
  split at h
  ·rename_i hk; obtain ⟨rfl,rfl⟩:=hk; simp at h; subst h; exact ⟨rfl,fun r=>rfl⟩
  ·cases h
 | .ref id idx off,v,ls,h=>by
  cases v <;> simp only [mA,reduceCtorEq] at h
  split at h
  ·rename_i hk; obtain ⟨rfl,rfl,rfl⟩:=hk; simp at h; subst h; exact ⟨rfl,fun r=>rfl⟩
  ·cases h
 | .mref id,v,ls,h=>by
  cases v <;> simp only [mA,reduceCtorEq] at h
  split at h
  ·rename_i hk; subst hk; simp at h; subst h; exact ⟨rfl,fun r=>rfl⟩
  ·cases h
 | .fn f ps,v,ls,h=>by
  cases v <;> simp only [mA,reduceCtorEq] at h
  split at h
  ·rename_i hk; subst hk
   obtain ⟨h1,h2⟩:=qku ps h
   exact ⟨h1,fun r=>by simp only [fA,h2]⟩
  ·cases h
 | .iface t p,v,ls,h=>by
  cases v <;> simp only [mA,reduceCtorEq] at h
  split at h
  ·rename_i hk; subst hk
   obtain ⟨h1,h2⟩:=qF6 p h
   exact ⟨h1,fun r=>by simp only [fA,h2]⟩
  ·cases h
theorem qku:∀ (ps:List PA) {vs:List AV} {ls:List Lf},mA.mAs ps vs = some ls -> ls.length = szA.szAs ps /\ ∀ r,fA.fAs ps (ls ++ r) = vs
 | [],vs,ls,h=>by cases vs <;> simp [mA.mAs] at h; subst h; exact ⟨rfl,fun r=>rfl⟩
 | p :: ps,vs,ls,h=>by
  cases vs <;> simp only [mA.mAs,reduceCtorEq] at h
  obtain ⟨x,y,h1,h2,rfl⟩:=qdW h
  obtain ⟨g1,g2⟩:=qF6 p h1
  obtain ⟨g3,g4⟩:=qku ps h2
  refine ⟨by simp [szA.szAs,g1,g3],fun r=>?_⟩
  simp only [fA.fAs]
  rw [List.append_assoc,g2]
  congr 1
  rw [<- g1,List.drop_left]
  exact g4 r
end
inductive PB where
 | box (ps:List PA) (fz:Bool)
 | arr (sz:Nat) (fz:Bool)
 | mp
def mB:PB -> Blk -> Option (List Lf)
 | .box ps fz,.box cs fz'=>if fz' = fz then mA.mAs ps cs else none
 | .arr sz fz,.arr sz' es fz'=>if sz' = sz /\ fz' = fz then some [.l es] else none
 | .mp,.mp kvs=>some [.m kvs]
 | _,_=>none
def szB:PB -> Nat
 | .box ps _=>szA.szAs ps
 | _=>1
def fB:PB -> List Lf -> Blk
 | .box ps fz,ls=>.box (fA.fAs ps ls) fz
 | .arr sz fz,ls=>.arr sz (lfL ls) fz
 | .mp,ls=>.mp (lfM ls)
theorem qW7 {p:PB} {v:Blk} {ls:List Lf} (h:mB p v = some ls):ls.length = szB p /\ ∀ r,fB p (ls ++ r) = v:=by
 cases p <;> cases v <;> simp only [mB,reduceCtorEq] at h
 ·split at h
  ·rename_i hk; subst hk
   obtain ⟨h1,h2⟩:=qku _ h
   exact ⟨h1,fun r=>by simp only [fB,h2]⟩
  ·cases h
 ·split at h
  ·rename_i hk; obtain ⟨rfl,rfl⟩:=hk; simp at h; subst h; exact ⟨rfl,fun r=>rfl⟩
  ·cases h
 ·simp at h; subst h; exact ⟨rfl,fun r=>rfl⟩
def mH:List (Nat × PB) -> Heap -> Option (List Lf)
 | [],[]=>some []
 | (i,p) :: ps,(j,b) :: h=>if j = i then qFe (mB p b) (mH ps h) else none
 | _,_=>none
def szH:List (Nat × PB) -> Nat
 | []=>0
 | (_,p) :: ps=>szB p + szH ps
def fH:List (Nat × PB) -> List Lf -> Heap
 | [],_=>[]
 | (i,p) :: ps,ls=>(i,fB p ls) :: fH ps (ls.drop (szB p))
theorem qF8:∀ {ps:List (Nat × PB)} {h:Heap} {ls:List Lf},mH ps h = some ls -> ls.length = szH ps /\ ∀ r,fH ps (ls ++ r) = h
 | [],h,ls,hh=>by cases h <;> simp [mH] at hh; subst hh; exact ⟨rfl,fun r=>rfl⟩
 | (i,p) :: ps,h,ls,hh=>by
  cases h with
  | nil=>simp [mH] at hh
  | cons jb h=>
   obtain ⟨j,b⟩:=jb
   simp only [mH] at hh
   split at hh
   ·rename_i hk; subst hk
    obtain ⟨x,y,h1,h2,rfl⟩:=qdW hh
    obtain ⟨g1,g2⟩:=qW7 h1
    obtain ⟨g3,g4⟩:=qF8 h2
    refine ⟨by simp [szH,g1,g3],fun r=>?_⟩
    simp only [fH]
    rw [List.append_assoc,g2,<- g1,List.drop_left,g4]
   ·cases hh
def mE:List (Nat × PA) -> Env -> Option (List Lf)
 | [],[]=>some []
 | (i,p) :: ps,(j,b) :: h=>if j = i then qFe (mA p b) (mE ps h) else none
 | _,_=>none
def szE:List (Nat × PA) -> Nat
 | []=>0
 | (_,p) :: ps=>szA p + szE ps
def fE:List (Nat × PA) -> List Lf -> Env
 | [],_=>[]
 | (i,p) :: ps,ls=>(i,fA p ls) :: fE ps (ls.drop (szA p))
theorem qSF:∀ {ps:List (Nat × PA)} {h:Env} {ls:List Lf},mE ps h = some ls -> ls.length = szE ps /\ ∀ r,fE ps (ls ++ r) = h
 | [],h,ls,hh=>by cases h <;> simp [mE] at hh; subst hh; exact ⟨rfl,fun r=>rfl⟩
 | (i,p) :: ps,h,ls,hh=>by
  cases h with
  | nil=>simp [mE] at hh
  | cons jb h=>
   obtain ⟨j,b⟩:=jb
   simp only [mE] at hh
   split at hh
   ·rename_i hk; subst hk
    obtain ⟨x,y,h1,h2,rfl⟩:=qdW hh
    obtain ⟨g1,g2⟩:=qF6 p h1
    obtain ⟨g3,g4⟩:=qSF h2
    refine ⟨by simp [szE,g1,g3],fun r=>?_⟩
    simp only [fE]
    rw [List.append_assoc,g2,<- g1,List.drop_left,g4]
   ·cases hh
structure PSt where
 tm:List (Nat × PA)
 hp:List (Nat × PB)
 nx:Nat
 k:Nat
def mSt (p:PSt) (s:St):Option (List Lf):=if s.nx = p.nx /\ s.k = p.k then qFe (mE p.tm s.tm) (mH p.hp s.hp) else none
def fSt (p:PSt) (ls:List Lf):St:=⟨fE p.tm ls,fH p.hp (ls.drop (szE p.tm)),p.nx,p.k⟩
theorem qKl {p:PSt} {s:St} {ls:List Lf} (h:mSt p s = some ls):fSt p ls = s:=by
 simp only [mSt] at h
 split at h
 ·rename_i hk
  obtain ⟨x,y,h1,h2,rfl⟩:=qdW h
  obtain ⟨g1,g2⟩:=qSF h1
  obtain ⟨g3,g4⟩:=qF8 h2
  have:=g4 []
  rw [List.append_nil] at this
  obtain ⟨tm,hp,nx,k⟩:=s
  simp only at hk
  simp only [fSt,g2,<- g1,List.drop_left,this,hk.1,hk.2]
 ·cases h
structure PArgs where
 as:List PA
 hp:List (Nat × PB)
def qSE (p:PArgs) (a:List AV) (h:Heap):Option (List Lf):=qFe (mA.mAs p.as a) (mH p.hp h)
def qFC (p:PArgs) (ls:List Lf):List AV × Heap:=(fA.fAs p.as ls,fH p.hp (ls.drop (szA.szAs p.as)))
theorem qF7 {p:PArgs} {a:List AV} {h:Heap} {ls:List Lf} (hh:qSE p a h = some ls):(a,h) = qFC p ls:=by
 obtain ⟨x,y,h1,h2,rfl⟩:=qdW hh
 obtain ⟨g1,g2⟩:=qku _ h1
 obtain ⟨g3,g4⟩:=qF8 h2
 have:=g4 []
 rw [List.append_nil] at this
 simp only [qFC,g2,<- g1,List.drop_left,this]
structure PRes where
 pan:Bool
 v:PA
 hp:List (Nat × PB)
def qUW (p:PRes) (r:Res) (h:Heap):Option (List Lf):=match p.pan,r with
 | false,.ret v=>qFe (mA p.v v) (mH p.hp h)
 | true,.pan v=>qFe (mA p.v v) (mH p.hp h)
 | _,_=>none
def qPj (p:PRes) (ls:List Lf):Res × Heap:=((match p.pan with | false=>.ret (fA p.v ls) | true=>.pan (fA p.v ls)),fH p.hp (ls.drop (szA p.v)))
theorem qCf {p:PRes} {r:Res} {h:Heap} {ls:List Lf} (hh:qUW p r h = some ls):(r,h) = qPj p ls:=by
 obtain ⟨pan,pv,php⟩:=p
 cases pan <;> cases r <;> simp only [qUW,reduceCtorEq] at hh
 all_goals
  obtain ⟨x,y,h1,h2,rfl⟩:=qdW hh
  obtain ⟨g1,g2⟩:=qF6 _ h1
  obtain ⟨g3,g4⟩:=qF8 h2
  have:=g4 []
  rw [List.append_nil] at this
  simp only [qPj,g2,<- g1,List.drop_left,this]
end Go.Eng
namespace Go.Eng
instance instSumInh {α β:Type} [Inhabited α]:Inhabited (α ⊕ β):=⟨.inl default⟩
inductive DT (α:Type) where
 | no
 | at (a:α)
 | br (b:Bool) (x y:DT α)
def DT.ev {α:Type}:DT α -> Option α
 | .no=>none
 | .at a=>some a
 | .br b x y=>Go.Eng.br b x.ev y.ev
@[simp] theorem ev_no {α:Type}:(DT.no:DT α).ev = none:=rfl
@[simp] theorem ev_at {α:Type} (a:α):(DT.at a).ev = some a:=rfl
@[simp] theorem ev_br {α:Type} (b:Bool) (x y:DT α):(DT.br b x y).ev = bif b then x.ev else y.ev:=by cases b <;> rfl
noncomputable def DT.bi {α β:Type} [Inhabited β] (o:Option β) (k:β -> DT α) (e:DT α):DT α:=.br (sm o) (k (gv o)) e
@[simp] theorem ev_bi_some {α β:Type} [Inhabited β] (y:β) (k:β -> DT α) (e:DT α):(DT.bi (some y) k e).ev = (k y).ev:=rfl
@[simp] theorem ev_bi_none {α β:Type} [Inhabited β] (k:β -> DT α) (e:DT α):(DT.bi (none:Option β) k e).ev = e.ev:=rfl
@[simp] theorem br_eq {R:Type} (b:Bool) (x y:R):Go.Eng.br b x y = bif b then x else y:=by cases b <;> rfl
@[simp] theorem cond_some {α:Type} (b:Bool) (x y:α):(bif b then some x else some y) = some (bif b then x else y):=by cases b <;> rfl
noncomputable def qaK {α:Type} (x:α):α:=Classical.choose (⟨x,rfl⟩:∃ y,y = x)
theorem qaa {α:Type} (x:α):qaK x = x:=Classical.choose_spec (⟨x,rfl⟩:∃ y,y = x)
def pl {α β:Type} (o:Option (α ⊕ β)):Option α:=match o with
 | some (.inl x)=>some x
 | _=>none
def pr {α β:Type} (o:Option (α ⊕ β)):Option β:=match o with
 | some (.inr x)=>some x
 | _=>none
def sl {α β:Type} [Inhabited α] (o:α ⊕ β):α:=match o with
 | .inl x=>x
 | _=>default
def sr {α β:Type} [Inhabited β] (o:α ⊕ β):β:=match o with
 | .inr x=>x
 | _=>default
def pj {τ:Type} (j:Nat) (o:Option (Nat × τ)):Option τ:=match o with
 | some (k,w)=>if k = j then some w else none
 | none=>none
@[simp] theorem pl_inl {α β:Type} (x:α):pl (some (Sum.inl x):Option (α ⊕ β)) = some x:=rfl
@[simp] theorem pl_inr {α β:Type} (x:β):pl (some (Sum.inr x):Option (α ⊕ β)) = none:=rfl
@[simp] theorem pl_none {α β:Type}:pl (none:Option (α ⊕ β)) = none:=rfl
@[simp] theorem pr_inl {α β:Type} (x:α):pr (some (Sum.inl x):Option (α ⊕ β)) = none:=rfl
@[simp] theorem pr_inr {α β:Type} (x:β):pr (some (Sum.inr x):Option (α ⊕ β)) = some x:=rfl
@[simp] theorem pr_none {α β:Type}:pr (none:Option (α ⊕ β)) = none:=rfl
@[simp] theorem sl_inl {α β:Type} [Inhabited α] (x:α):sl (Sum.inl x:α ⊕ β) = x:=rfl
@[simp] theorem sr_inr {α β:Type} [Inhabited β] (x:β):sr (Sum.inr x:α ⊕ β) = x:=rfl
@[simp] theorem pj_some {τ:Type} (j k:Nat) (w:τ):pj j (some (k,w)) = if k = j then some w else none:=rfl
@[simp] theorem pj_none {τ:Type} (j:Nat):pj j (none:Option (Nat × τ)) = none:=rfl
theorem qOf {α β:Type} {o:Option (α ⊕ β)} {x:α} (h:pl o = some x):o = some (.inl x):=by
 unfold pl at h; split at h
 ·cases h; rfl
 ·cases h
theorem qOh {α β:Type} {o:Option (α ⊕ β)} {x:β} (h:pr o = some x):o = some (.inr x):=by
 unfold pr at h; split at h
 ·cases h; rfl
 ·cases h
theorem qYY {τ:Type} {j:Nat} {o:Option (Nat × τ)} {w:τ} (h:pj j o = some w):o = some (j,w):=by
 unfold pj at h
 split at h
 ·split at h
  ·rename_i hk; cases h; rw [hk]
  ·cases h
 ·cases h
abbrev Ent:=List AV -> Heap -> List (Bool × Res × Heap)
abbrev Tab:=List (Nat × Ent)
def qPt:Tab -> Nat -> List AV -> Heap -> List (Bool × Res × Heap)
 | [],_,_,_=>[]
 | (i,g) :: t,f,a,h=>if f = i then g a h ++ qPt t f a h else qPt t f a h
def Snd (IP:Prog) (f:Nat) (g:Ent):Prop:=∀ a h r h',(true,r,h') ∈ g a h -> qal IP f a h = some (r,h')
def qap (IP:Prog):Tab -> Prop
 | []=>True
 | (i,g) :: t=>Snd IP i g /\ qap IP t
def qzu (T:Tab) (R:Type):qfW R:=fun f a h K=>qZU K (qPt T f a h)
theorem qth {IP:Prog}:∀ {T:Tab},qap IP T -> ∀ {f:Nat} {a:List AV} {h:Heap} {r:Res} {h':Heap},(true,r,h') ∈ qPt T f a h -> qal IP f a h = some (r,h')
 | [],_,f,a,h,r,h',hm=>by simp [qPt] at hm
 | (i,g) :: t,hT,f,a,h,r,h',hm=>by
  simp only [qPt] at hm
  split at hm
  ·rename_i hf
   subst hf
   rcases List.mem_append.1 hm with hm | hm
   ·exact hT.1 _ _ _ _ hm
   ·exact qth hT.2 hm
  ·exact qth hT.2 hm
theorem qnf {IP:Prog} {T:Tab} (h:qap IP T) {R:Type}:qlq (qal IP) (qzu T R):=by
 intro f a hp K ρ hs
 obtain ⟨r,h',h1,h2⟩:=qm6 hs
 exact ⟨r,h',qth h h1,h2⟩
abbrev qdC:=St -> List (Bool × X × St)
abbrev qxD:=List (Nat × qdC)
def sumL:qxD -> Nat -> St -> List (Bool × X × St)
 | [],_,_=>[]
 | (i,g) :: t,id,s=>if id = i then g s ++ sumL t id s else sumL t id s
def qsQ {R:Type} (T:qxD):qsb R:=fun k _ s K=>match k with
 | []=>none
 | id :: _=>match norm (hk k) s with
  | none=>none
  | some s1=>qZT K (sumL T id s1)
def qGz:qxD -> List Nat -> List qdC
 | [],_=>[]
 | (i,g) :: t,k=>match k with
  | []=>[]
  | id :: _=>if id = i then g :: qGz t k else qGz t k
def LOk (IP:Prog) (T:qxD):List (List Nat × ICode) -> Prop
 | []=>True
 | p :: r=>(∀ g ∈ qGz T p.1,Told IP p.1 p.2 g) /\ LOk IP T r
theorem qok {id:Nat} {rest:List Nat} {s:St} {e:Bool × X × St}:∀ {T:qxD},e ∈ sumL T id s -> ∃ g ∈ qGz T (id :: rest),e ∈ g s
 | [],h=>by simp [sumL] at h
 | (i,g) :: t,h=>by
  simp only [sumL] at h
  split at h
  ·rename_i hi
   rcases List.mem_append.1 h with h | h
   ·exact ⟨g,by simp [qGz,hi],h⟩
   ·obtain ⟨g',h1,h2⟩:=qok h
    exact ⟨g',by simp [qGz,hi]; exact Or.inr (by rw [<- hi]; exact h1),h2⟩
  ·rename_i hi
   obtain ⟨g',h1,h2⟩:=qok h
   exact ⟨g',by simp [qGz,hi]; exact h1,h2⟩
theorem qhx {IP:Prog} {T:qxD}:∀ {a b:List (List Nat × ICode)},LOk IP T (a ++ b) -> LOk IP T a /\ LOk IP T b
 | [],_,h=>⟨trivial,h⟩
 | _ :: _,_,h=>⟨⟨h.1,(qhx h.2).1⟩,(qhx h.2).2⟩
theorem qnx {IP:Prog} {T:qxD} {R:Type}:∀ {c:ICode},LOk IP T (loops c) -> qm9 (R:=R) (qfY IP) (qsQ T) c:=by
 intro c
 induction c with
 | seq a b iha ihb=>intro h; exact ⟨iha (qhx h).1,ihb (qhx h).2⟩
 | cond x a b iha ihb=>intro h; exact ⟨iha (qhx h).1,ihb (qhx h).2⟩
 | block id a ih=>intro h; exact ih h
 | loop k a ih=>
  intro h s K ρ hs
  have hk:=h.1
  cases k with
  | nil=>simp [qsQ] at hs
  | cons id rest=>
   simp only [qsQ] at hs
   split at hs
   ·cases hs
   ·rename_i s1 hn
    obtain ⟨x,s',h1,h2⟩:=qm5 hs
    obtain ⟨g,h3,h4⟩:=qok (rest:=rest) h1
    exact ⟨x,s',qre (hk g h3) hn h4,h2⟩
 | _=>intro _; exact trivial
theorem qaf {IP:Prog} {T:qxD} {c:ICode} {l:List (List Nat × ICode)} (h:loops c = l) (hl:LOk IP T l):LOk IP T (loops c):=h ▸ hl
theorem qaG {IP:Prog} {T:qxD} {p:List Nat × ICode} {g:qdC} (h:qGz T p.1 = [g]) (t:Told IP p.1 p.2 g):∀ g ∈ qGz T p.1,Told IP p.1 p.2 g:=by
 rw [h]; intro g' hg'; rw [List.mem_singleton] at hg'; subst hg'; exact t
section
variable {R:Type} {ls:List Lf} {v:R}
end
def E2 {α β:Type} [Inhabited α] (e:α -> Res × Heap) (E:Option β -> List (Bool × Res × Heap)) (o:Option (α ⊕ β)):List (Bool × Res × Heap):=(sm (pl o),(e (gv (pl o))).1,(e (gv (pl o))).2) :: E (pr o)
theorem qSk {IP:Prog} {T:Tab} {L:qxD} {f:Nat} {F:Fun} {args:List AV} {h:Heap} {β:Type} {dec:Res -> Heap -> Option β} {er:β -> Res × Heap} {t:DT β} {y:β} (hT:qap IP T) (hF:IP.fn f = some F) (hL:LOk IP L (loops F.body))
  (hdec:∀ r h y,dec r h = some y -> (r,h) = er y) (hb:qFk (R:=β) IP (qzu T) (qsQ L) f F args h dec = t.ev) (ht:t.ev = some y):qal IP f args h = some (er y):=by
 rw [ht] at hb
 obtain ⟨r,h',h1,h2⟩:=qjE (fun R=>qnf hT) (qnx hL) hb
 rw [<- hdec _ _ _ h2]
 exact quv hF h1
def cvR {τ:Type} (ex:Nat -> X × St):Rd τ -> Rx τ
 | .next v=>.next v
 | .done j=>.out (ex j).1 (ex j).2
def cvD {τ:Type} (ex:Nat -> X × St):DT (Rd τ) -> DT (Rx τ)
 | .no=>.no
 | .at r=>.at (cvR ex r)
 | .br b x y=>.br b (cvD ex x) (cvD ex y)
theorem qzE {τ:Type} {ex:Nat -> X × St}:∀ {t:DT (Rd τ)},(cvD ex t).ev = cv ex t.ev
 | .no=>rfl
 | .at r=>by cases r <;> rfl
 | .br b x y=>by
  cases b
  ·exact qzE (t:=y)
  ·exact qzE (t:=x)
def qYU:X -> Bool
 | .normal=>false
 | _=>true
open Classical in
noncomputable def q5t {β:Type} (s:Nat -> Option β):Option β:=if h:∃ r n,∀ m,n <= m -> s m = some r then some h.choose else none
end Go.Eng
namespace Go.Eng
set_option linter.unusedSectionVars false
variable [Globs]
def noC:qaL:=fun _ _ _=>none
def noL:qdj:=fun _ _ _=>none
def qg4 (sz bytes:Nat):List AV -> Heap -> Option (Res × Heap)
 | [.view sz' es],[]=>if sz' = sz then
   if es.length = 0 then some (.ret (.nils ⟨sz,.any⟩),[])
   else if es.length * bytes <= lim then some (.ret (.own 0 0 none),[(0,.arr sz es false)]) else none
  else none
 | _,_=>none
theorem qwl {P:Program} {w:World} {I:Imm} {m:Names} {h:Heap} {f:Nat} {vs:Array Value} {v v':AV} {h':Heap} (hc:Calls P f vs w (Post w I m h (.ret v) h')) (hw:∀ {w I m u},Rel w I v m u -> Rel w I v' m u) :
  Calls P f vs w (Post w I m h (.ret v') h'):=by
 refine hc.mono ?_
 rintro e w' ⟨I',m',ha,u,he,hu⟩
 exact ⟨I',m',ha,u,he,hw hu⟩
theorem qfF {P:Program} {IP:Prog} {f:Nat} {F:Fun} {sz bytes:Nat} (hF:qag P f F)
  (h1:body IP noC noL f F [.nils ⟨sz,.nil⟩] [] = some (.ret (.nils ⟨sz,.nil⟩),[]))
  (h2:body IP noC noL f F [.nils ⟨sz,.non⟩] [] = some (.ret (.nils ⟨sz,.any⟩),[]))
  (h3:∀ es:List AV,es.length ≠ 0 -> es.length * bytes <= lim -> body IP noC noL f F [.view sz es] [] = some (.ret (.own 0 0 none),[(0,.arr sz es false)])):qdU P f (qg4 sz bytes):=by
 have hC:qcy P noC:=fun _ _ _ _ _ h=>by cases h
 have hL:qik P noL:=fun _ _ _ _ _ h=>by cases h
 intro args h r h' hg
 unfold qg4 at hg
 split at hg
 ·rename_i sz' es
  split at hg
  ·rename_i hsz
   subst hsz
   split at hg
   ·rename_i h0
    cases hg
    refine fun w I m vs H hm hr=>.inl ⟨(qb0 hC hL hF h1).1,?_⟩
    obtain ⟨v,vs',rfl,hv,hvs⟩:=by simpa only [qaw] using hr
    obtain ⟨a,cap,rfl,hcap,_,hz⟩:=by simpa only [Rel] using hv
    subst hvs
    cases a with
    | none=>
     have hc0:=hz rfl
     subst hc0
     refine qwl ((qb0 hC hL hF h1).2 w I m _ H hm ?_) ?_
     ·simp only [qaw,Rel]
      exact ⟨_,_,rfl,⟨none,0,by rw [h0],by simp,by simp,by simp⟩,rfl⟩
     ·intro w I m u hu
      simp only [Rel] at hu ⊢
      obtain ⟨b,cap,rfl,g1,_,_⟩:=hu
      exact ⟨b,cap,rfl,fun _=>g1 (by simp),by simp,by simp⟩
    | some ad=>
     refine (qb0 hC hL hF h2).2 w I m _ H hm ?_
     simp only [qaw,Rel]
     exact ⟨_,_,rfl,⟨some ad,cap,by rw [h0],by simp,by simp,fun _=>⟨_,rfl⟩⟩,rfl⟩
   ·rename_i h0
    split at hg
    ·rename_i hb
     cases hg
     exact fun w I m vs H hm hr=>.inl ⟨(qb0 hC hL hF (h3 es h0 hb)).1,(qb0 hC hL hF (h3 es h0 hb)).2 w I m vs H hm hr⟩
    ·cases hg
  ·cases hg
 ·cases hg
theorem qcY {R:Type} {loop:qdj}:∀ c:ICode,qm9 (R:=R) loop (fun _ _ _ _=>none) c
 | .seq a b=>⟨qcY a,qcY b⟩
 | .cond _ a b=>⟨qcY a,qcY b⟩
 | .block _ a=>qcY a
 | .loop _ _=>fun _ _ _ h=>by cases h
 | .skip | .region _ _ | .exit _ | .ret=>trivial
theorem qfE {IP:Prog} {f:Nat} {F:Fun} {sz bytes:Nat} {b c:Bool} {x:Res × Heap}
  (hb:∀ es:List AV,qFk (R:=Res × Heap) IP (fun _ _ _ _ _=>none) (fun _ _ _ _=>none) f F [.view sz es] [] (fun r h=>some (r,h)) =
   br (decide (es.length ≠ 0)) (br (decide (es.length = 0) && b) (some x) (br (decide (es.length ≠ 0) && (c && room es.length bytes)) (some (.ret (.own 0 0 none),[(0,.arr sz es false)])) none)) none) (hc:c = true) (es:List AV)
  (h0:es.length ≠ 0) (h1:es.length * bytes <= lim):body IP noC noL f F [.view sz es] [] = some (.ret (.own 0 0 none),[(0,.arr sz es false)]):=by
 have hq:=hb es
 have e1:decide (es.length ≠ 0) = true:=decide_eq_true h0
 have e2:decide (es.length = 0) = false:=decide_eq_false h0
 have e3:room es.length bytes = true:=decide_eq_true h1
 rw [e1,e2,e3,hc] at hq
 obtain ⟨r,h',h2,h3⟩:=qjE (call:=noC) (loop:=noL) (fun R f a h K ρ hs=>by cases hs) (qcY _) hq
 rw [h2]
 exact h3
def qf1 (sz bytes:Nat):Ent:=fun a h=>match a,h with
 | [.view sz' es],[]=>if sz' = sz then [(decide (es.length = 0),.ret (.nils ⟨sz,.any⟩),[]),(decide (es.length ≠ 0) && decide (es.length * bytes <= lim),.ret (.own 0 0 none),[(0,.arr sz es false)])] else []
 | _,_=>[]
theorem qg3 {IP:Prog} {f sz bytes:Nat} (hF:IP.fn f = none) (hS:IP.spec f = some (qg4 sz bytes)):Snd IP f (qf1 sz bytes):=by
 intro a h r h' hm
 refine qhE hF hS ?_
 unfold qf1 at hm
 split at hm
 ·rename_i sz' es
  split at hm
  ·rename_i hs
   subst hs
   simp only [List.mem_cons,Prod.mk.injEq,List.not_mem_nil,or_false] at hm
   rcases hm with ⟨hb,rfl,rfl⟩ | ⟨hb,rfl,rfl⟩ <;> simp only [eq_comm (a:=true),Bool.and_eq_true,decide_eq_true_eq] at hb
   ·simp [qg4,hb]
   ·simp only [qg4,if_true]
    rw [if_neg hb.1,if_pos hb.2]
  ·cases hm
 ·cases hm
end Go.Eng
namespace Go.Eng
def big:Nat:=9223372036854775807
theorem wrap64 {n:Int} (h1:-9223372036854775808 <= n) (h2:n <= 9223372036854775807):IntKind.i64.wrap n = n:=by
 simp [IntKind.wrap,IntKind.signed,IntKind.bits]
 split <;> omega
section
variable {τ:Type} {av:τ -> AV} {ks:List CS}
theorem qpo (l:List τ) (n:Nat):qeY (l.map av) (n:Int) = (l[n]?).map av:=by simp [qeY]
theorem qGf (hk:∀ x,qhi ks (qac (av x)) = true) (l:List τ) (n:Nat):qcO ks (l.map av) (n:Int) = decide (n < l.length):=by
 simp only [qcO,qpo]
 by_cases h:n < l.length
 ·simp [h,hk]
 ·simp [h]
theorem qbV (hk:∀ x,qhi ks (qac (av x)) = true) {l:List τ} {n:Nat} (h:n < l.length):qcO ks (l.map av) (n:Int) = true:=by
 rw [qGf hk,decide_eq_true h]
theorem qaI {l:List τ} {n:Nat} (h:n < l.length) (j:Nat):cellAt (l.map av) (n:Int) j = ((qac (av l[n]))[j]?).getD .junk:=by
 simp [cellAt,qpo,h]
theorem qcB {l:List τ} {n:Nat} (h:n < l.length) (j:Nat):qca (l.map av) n j = ((qac (av l[n]))[j]?).getD .junk:=by
 simp [qca,h]
theorem qsT {l:List τ} {n off:Nat} (h:n < l.length):okP ks (l.map av) n off = qhi ks (((qac (av l[n])).drop off).take ks.length):=by
 simp [okP,h]
theorem qsU {l:List τ} {n off m:Nat} (h:n < l.length):okS (l.map av) n off m = decide (off + m <= (qac (av l[n])).length):=by
 simp [okS,h]
theorem qnZ {l:List τ} {n off:Nat} {vs:List AV} (h:n < l.length) {y:τ} (hy:elemOf (av l[n]) (splice (qac (av l[n])) off vs) = av y):qxu (l.map av) n off vs = (l.set n y).map av:=by
 simp [qxu,h,hy,List.map_set]
theorem qkg {l n:Nat} (h:n < l):inB l (n:Int) = true:=by simp [inB,h]
end
theorem drop_at {τ:Type} {l:List τ} {n:Nat} (h:n < l.length):l.drop n = l[n] :: l.drop (n + 1):=List.drop_eq_getElem_cons h
theorem qFy {τ:Type} {l:List τ} {n:Nat} (h:¬ n < l.length):l.drop n = []:=List.drop_eq_nil_of_le (by omega)
theorem qct {τ:Type} {st:τ -> Option (Rd τ)} (hd:Nat -> τ) (K j:Nat):∀ (n:Nat),n <= K -> (∀ m,n <= m -> m < K -> st (hd m) = some (.next (hd (m + 1)))) -> st (hd K) = some (.done j) -> qat st (hd n) = some (j,hd K):=by
 intro n hn hs he
 obtain ⟨d,rfl⟩:∃ d,K = n + d:=⟨K - n,by omega⟩
 clear hn
 induction d generalizing n with
 | zero=>exact qaX he
 | succ d ih=>
  rw [qcr (hs n (Nat.le_refl _) (by omega))]
  have:=ih (n + 1) (fun m h1 h2=>hs m (by omega) (by omega)) (by rw [show n + 1 + d = n + (d + 1) by omega]; exact he)
  rw [this,show n + 1 + d = n + (d + 1) by omega]
def q5b {α:Type} (p:α -> Bool) (jx:α -> Nat) (je:Nat) (l:List α):Nat:=match l.find? p with
 | some x=>jx x
 | none=>je
end Go.Eng
namespace Go.Eng
inductive LKd where
 | i | b | s | l | n | m
def kdA:PA -> List LKd
 | .int _=>[.i]
 | .bool=>[.b]
 | .str=>[.s]
 | .view _=>[.l]
 | .ownn _ _=>[.n]
 | .agg ps=>kdAs ps
 | .tup ps=>kdAs ps
 | .ptr ps=>kdAs ps
 | .fn _ ps=>kdAs ps
 | .iface _ p=>kdA p
 | _=>[]
where kdAs:List PA -> List LKd
 | []=>[]
 | p :: ps=>kdA p ++ kdAs ps
def kdB:PB -> List LKd
 | .box ps _=>kdA.kdAs ps
 | .arr _ _=>[.l]
 | .mp=>[.m]
def kdH:List (Nat × PB) -> List LKd
 | []=>[]
 | (_,b) :: r=>kdB b ++ kdH r
def kdE:List (Nat × PA) -> List LKd
 | []=>[]
 | (_,b) :: r=>kdA b ++ kdE r
def qeV (p:PArgs):List LKd:=kdA.kdAs p.as ++ kdH p.hp
def qns (p:PRes):List LKd:=kdA p.v ++ kdH p.hp
def qw4 (p:PSt):List LKd:=kdE p.tm ++ kdH p.hp
abbrev TyK:LKd -> Type
 | .i=>Int
 | .b=>Bool
 | .s=>List UInt8
 | .l=>List AV
 | .n=>Nat
 | .m=>List (AV × AV)
abbrev Tup:List LKd -> Type
 | []=>Unit
 | [k]=>TyK k
 | k :: ks=>TyK k × Tup ks
abbrev qyE:List (List LKd) -> Type
 | []=>Empty
 | [k]=>Tup k
 | k :: ks=>Tup k ⊕ qyE ks
def qZQ:(k:LKd) -> TyK k -> Lf
 | .i,x=>.i x
 | .b,x=>.b x
 | .s,x=>.s x
 | .l,x=>.l x
 | .n,x=>.n x
 | .m,x=>.m x
def qUZ:(k:LKd) -> Lf -> Option (TyK k)
 | .i,.i x=>some x
 | .b,.b x=>some x
 | .s,.s x=>some x
 | .l,.l x=>some x
 | .n,.n x=>some x
 | .m,.m x=>some x
 | _,_=>none
theorem qCD:∀ {k:LKd} {x:Lf} {v:TyK k},qUZ k x = some v -> x = qZQ k v:=by
 intro k x v h
 cases k <;> cases x <;> simp only [qUZ,Option.some.injEq,reduceCtorEq] at h <;> subst h <;> rfl
def toL:(ks:List LKd) -> Tup ks -> List Lf
 | [],_=>[]
 | [k],v=>[qZQ k v]
 | k :: k' :: ks,v=>qZQ k v.1 :: toL (k' :: ks) v.2
def ofL:(ks:List LKd) -> List Lf -> Option (Tup ks)
 | [],[]=>some ()
 | [k],[x]=>qUZ k x
 | k :: k' :: ks,x :: ls=>match qUZ k x with
  | some y=>match ofL (k' :: ks) ls with
   | some ys=>some (y,ys)
   | none=>none
  | none=>none
 | _,_=>none
theorem qmE:∀ {ks:List LKd} {ls:List Lf} {v:Tup ks},ofL ks ls = some v -> ls = toL ks v
 | [],[],v,_=>rfl
 | [],_ :: _,v,h=>by simp [ofL] at h
 | [k],[],v,h=>by simp [ofL] at h
 | [k],[x],v,h=>by simp only [ofL] at h; rw [qCD h]; rfl
 | [k],_ :: _ :: _,v,h=>by simp [ofL] at h
 | k :: k' :: ks,[],v,h=>by simp [ofL] at h
 | k :: k' :: ks,x :: ls,v,h=>by
  simp only [ofL] at h
  split at h
  ·rename_i y hy
   split at h
   ·rename_i ys hys
    cases h
    rw [qCD hy,qmE hys]; rfl
   ·cases h
  ·cases h
def aE (p:PArgs) (v:Tup (qeV p)):List AV:=(qFC p (toL (qeV p) v)).1
def aH (p:PArgs) (v:Tup (qeV p)):Heap:=(qFC p (toL (qeV p) v)).2
def aD (p:PArgs) (a:List AV) (h:Heap):Option (Tup (qeV p)):=match qSE p a h with
 | some ls=>ofL (qeV p) ls
 | none=>none
theorem qVT {p:PArgs} {a:List AV} {h:Heap} {v:Tup (qeV p)} (hh:aD p a h = some v):a = aE p v /\ h = aH p v:=by
 unfold aD at hh
 split at hh
 ·rename_i ls hm
  have h1:=qF7 hm
  rw [qmE hh] at h1
  exact ⟨congrArg Prod.fst h1,congrArg Prod.snd h1⟩
 ·cases hh
abbrev RT (rs:List PRes):Type:=qyE (rs.map qns)
def rE:(rs:List PRes) -> RT rs -> Res × Heap
 | [],v=>nomatch v
 | [r],v=>qPj r (toL (qns r) v)
 | r :: _ :: _,.inl v=>qPj r (toL (qns r) v)
 | _ :: r' :: rs,.inr v=>rE (r' :: rs) v
def rD:(rs:List PRes) -> Res -> Heap -> Option (RT rs)
 | [],_,_=>none
 | [r],x,h=>match qUW r x h with
  | some ls=>ofL (qns r) ls
  | none=>none
 | r :: r' :: rs,x,h=>match qUW r x h with
  | some ls=>match ofL (qns r) ls with
   | some v=>some (.inl v)
   | none=>none
  | none=>match rD (r' :: rs) x h with
   | some v=>some (.inr v)
   | none=>none
theorem qTi:∀ {rs:List PRes} {x:Res} {h:Heap} {v:RT rs},rD rs x h = some v -> (x,h) = rE rs v
 | [],x,h,v,hh=>by simp [rD] at hh
 | [r],x,h,v,hh=>by
  simp only [rD] at hh
  split at hh
  ·rename_i ls hm
   rw [qCf hm,qmE hh]; rfl
  ·cases hh
 | r :: r' :: rs,x,h,v,hh=>by
  simp only [rD] at hh
  split at hh
  ·rename_i ls hm
   split at hh
   ·rename_i w hw
    cases hh
    rw [qCf hm,qmE hw]; rfl
   ·cases hh
  ·split at hh
   ·rename_i w hw
    cases hh
    exact (qTi hw).trans rfl
   ·cases hh
instance instTupI:∀ ks:List LKd,Inhabited (Tup ks)
 | []=>⟨()⟩
 | [.i]=>⟨0⟩ | [.b]=>⟨false⟩ | [.s]=>⟨[]⟩ | [.l]=>⟨[]⟩ | [.n]=>⟨0⟩ | [.m]=>⟨[]⟩
 | .i :: k :: ks=>⟨(0,(instTupI (k :: ks)).default)⟩
 | .b :: k :: ks=>⟨(false,(instTupI (k :: ks)).default)⟩
 | .s :: k :: ks=>⟨([],(instTupI (k :: ks)).default)⟩
 | .l :: k :: ks=>⟨([],(instTupI (k :: ks)).default)⟩
 | .n :: k :: ks=>⟨(0,(instTupI (k :: ks)).default)⟩
 | .m :: k :: ks=>⟨([],(instTupI (k :: ks)).default)⟩
def rL:(rs:List PRes) -> Option (RT rs) -> List (Bool × Res × Heap)
 | [],_=>[]
 | [r],o=>[(sm o,qPj r (toL (qns r) (@gv _ (instTupI _) o)))]
 | r :: r' :: rs,o=>(sm (pl o),qPj r (toL (qns r) (@gv _ (instTupI _) (pl o)))) :: rL (r' :: rs) (pr o)
end Go.Eng
namespace Go.Eng
def FE (p:PArgs) (rs:List PRes) (G:Tup (qeV p) -> Option (RT rs)):Ent:=fun a h=>match aD p a h with
 | some v=>rL rs (G v)
 | none=>[]
def FH (IP:Prog) (f:Nat) (p:PArgs) (rs:List PRes) (G:Tup (qeV p) -> Option (RT rs)):Prop:=∀ v y,G v = some y -> qal IP f (aE p v) (aH p v) = some (rE rs y)
theorem qTj:∀ {rs:List PRes} {o:Option (RT rs)} {r:Res} {h:Heap},(true,r,h) ∈ rL rs o -> ∃ y,o = some y /\ rE rs y = (r,h)
 | [],o,r,h,hm=>by cases hm
 | [a],o,r,h,hm=>by
  simp only [rL,List.mem_singleton,Prod.mk.injEq] at hm
  obtain ⟨hb,hr⟩:=hm
  exact ⟨_,@qGC _ (instTupI (qns a)) o hb.symm,hr.symm⟩
 | a :: b :: rs,o,r,h,hm=>by
  simp only [rL,List.mem_cons,Prod.mk.injEq] at hm
  rcases hm with ⟨hb,hr⟩ | hm
  ·exact ⟨_,qOf (@qGC _ (instTupI (qns a)) (pl o) hb.symm),hr.symm⟩
  ·obtain ⟨y,h1,h2⟩:=qTj hm
   exact ⟨_,qOh h1,h2⟩
theorem qas {IP:Prog} {f:Nat} {p:PArgs} {rs:List PRes} {G:Tup (qeV p) -> Option (RT rs)} (hG:FH IP f p rs G):Snd IP f (FE p rs G):=by
 intro a h r h' hm
 unfold FE at hm
 split at hm
 ·rename_i v hv
  obtain ⟨y,h1,h2⟩:=qTj hm
  obtain ⟨rfl,rfl⟩:=qVT hv
  rw [hG _ _ h1,h2]
 ·cases hm
theorem qaj {IP:Prog} {T:Tab} {L:qxD} {f:Nat} {F:Fun} {p:PArgs} {rs:List PRes} {G:Tup (qeV p) -> Option (RT rs)} {t:Tup (qeV p) -> DT (RT rs)} (hT:qap IP T) (hL:LOk IP L (loops F.body)) (hF:IP.fn f = some F)
  (hb:∀ v,qFk (R:=RT rs) IP (qzu T) (qsQ L) f F (aE p v) (aH p v) (rD rs) = (t v).ev) (hG:∀ v,G v = (t v).ev):FH IP f p rs G:=
 fun v _ h=>qSk hT hF hL (fun _ _ _ h=>qTi h) (hb v) ((hG v).symm.trans h)
def hE:(hs:List PSt) -> qyE (hs.map qw4) -> St
 | [],v=>nomatch v
 | [r],v=>fSt r (toL (qw4 r) v)
 | r :: _ :: _,.inl v=>fSt r (toL (qw4 r) v)
 | _ :: r' :: rs,.inr v=>hE (r' :: rs) v
def hD:(hs:List PSt) -> St -> Option (qyE (hs.map qw4))
 | [],_=>none
 | [r],s=>match mSt r s with
  | some ls=>ofL (qw4 r) ls
  | none=>none
 | r :: r' :: rs,s=>match mSt r s with
  | some ls=>match ofL (qw4 r) ls with
   | some v=>some (.inl v)
   | none=>none
  | none=>match hD (r' :: rs) s with
   | some v=>some (.inr v)
   | none=>none
theorem qFP:∀ {hs:List PSt} {s:St} {v:qyE (hs.map qw4)},hD hs s = some v -> s = hE hs v
 | [],s,v,hh=>by simp [hD] at hh
 | [r],s,v,hh=>by
  simp only [hD] at hh
  split at hh
  ·rename_i ls hm
   rw [<- qKl hm,qmE hh]; rfl
  ·cases hh
 | r :: r' :: rs,s,v,hh=>by
  simp only [hD] at hh
  split at hh
  ·rename_i ls hm
   split at hh
   ·rename_i w hw
    cases hh
    rw [<- qKl hm,qmE hw]; rfl
   ·cases hh
  ·split at hh
   ·rename_i w hw
    cases hh
    exact (qFP hw).trans rfl
   ·cases hh
def exN {τ:Type} (l:List (τ -> X × St)) (j:Nat) (v:τ):X × St:=match l[j]? with
 | some g=>g v
 | none=>(.ret,⟨[],[],0,0⟩)
def exB {τ:Type} (l:List (τ -> X × St)) (j:Nat) (v:τ):Bool:=qYU (exN l j v).1
def qR6 {τ:Type} [Inhabited τ] (o:Option (Nat × τ)) (l:List (τ -> X × St)):Nat -> Nat -> List (Bool × X × St)
 | _,0=>[]
 | j,n + 1=>((match exB l j (gv (pj j o)) with | true=>sm (pj j o) | false=>false),(exN l j (gv (pj j o))).1,(exN l j (gv (pj j o))).2) :: qR6 o l (j + 1) n
theorem qzP {τ:Type} [Inhabited τ] {o:Option (Nat × τ)} {l:List (τ -> X × St)} {x:X} {s:St}:∀ {j n:Nat},(true,x,s) ∈ qR6 o l j n -> ∃ k w,o = some (k,w) /\ (x,s) = exN l k w /\ qYU (exN l k w).1 = true
 | j,0,h=>by simp [qR6] at h
 | j,n + 1,h=>by
  simp only [qR6,List.mem_cons,Prod.mk.injEq] at h
  rcases h with ⟨hb,hx,hs⟩ | h
  ·cases hq:exB l j (gv (pj j o)) with
   | false=>rw [hq] at hb; cases hb
   | true=>
    rw [hq] at hb
    exact ⟨j,_,qYY (qGC hb.symm),by rw [hx,hs],hq⟩
  ·exact qzP h
def LE {τ:Type} [Inhabited τ] (dec:St -> Option τ) (lo:τ -> Option (Nat × τ)) (l:List (τ -> X × St)):qdC:=fun s=>match dec s with
 | some v=>qR6 (lo v) l 0 l.length
 | none=>[]
def cvX {τ:Type} (l:List (τ -> X × St)) (v:τ):DT (Rd τ) -> DT (Rx τ)
 | .no=>.no
 | .at (.next w)=>.at (.next w)
 | .at (.done j)=>.at (.out (exN l j v).1 (exN l j v).2)
 | .br b x y=>.br b (cvX l v x) (cvX l v y)
theorem qzF {τ:Type} {l:List (τ -> X × St)} {v:τ}:∀ {t:DT (Rd τ)},cvX l v t = cvD (fun j=>exN l j v) t
 | .no=>rfl
 | .at (.next w)=>rfl
 | .at (.done j)=>rfl
 | .br b x y=>by simp only [cvX,cvD,qzF (t:=x),qzF (t:=y)]
theorem qaF {IP:Prog} {T:Tab} {L:qxD} {keep:List Nat} {c:ICode} {hs:List PSt} (I:Inhabited (qyE (hs.map qw4))) {ex:List (qyE (hs.map qw4) -> X × St)} {st:qyE (hs.map qw4) -> DT (Rd (qyE (hs.map qw4)))} {lo:qyE (hs.map qw4) -> Option (Nat × qyE (hs.map qw4))} (hT:qap IP T) (hL:LOk IP L (loops c))
  (hlo:∀ v,lo v = qat (fun v=>(st v).ev) v) (hn:∀ v,norm (hk keep) (hE hs v) = some (hE hs v))
  (hst:∀ v,qfX IP (qzu T) (qsQ L) c (hE hs v) (qPh keep (hD hs)) = (cvX ex v (st v)).ev):Told IP keep c (LE (hD hs) lo ex):=by
 have key:∀ v j w,lo v = some (j,w) -> qYU (exN ex j w).1 = true -> qfY IP keep c (hE hs v) = some (exN ex j w):=by
  intro v j w h ho
  rw [hlo] at h
  have h2:∀ v,qfX IP (qzu T) (qsQ L) c (hE hs v) (qPh keep (hD hs)) = cv (fun j=>exN ex j v) ((st v).ev):=fun v=>(hst v).trans (by rw [qzF,qzE])
  replace h:=qc7.1 h
  obtain ⟨n,h⟩:=h
  induction n generalizing v with
  | zero=>simp [qfg] at h
  | succ n ih=>
   simp only [qfg] at h
   split at h
   ·rename_i v' hs'
    have hx:=h2 v
    rw [hs'] at hx
    obtain ⟨x,s',h3,h4⟩:=qcp (fun R=>qnf hT) (qnx hL) hx
    cases x with
    | normal=>
     simp only [qPh] at h4
     split at h4
     ·rename_i s1 hs1
      split at h4
      ·rename_i v2 hv2
       cases h4
       have:=qFP hv2
       subst this
       exact qiW (hn v) h3 (qmB (by rw [hs1,hn v']) (ih v' h))
      ·cases h4
     ·cases h4
    | _=>
     simp only [qPh] at h4
     split at h4 <;> cases h4
   ·rename_i j' hs'
    cases h
    have hx:=h2 w
    rw [hs'] at hx
    obtain ⟨x,s',h3,h4⟩:=qcp (fun R=>qnf hT) (qnx hL) hx
    cases x with
    | normal=>
     simp only [qPh] at h4
     split at h4
     ·split at h4 <;> cases h4
     ·cases h4
    | _=>
     simp only [qPh] at h4
     split at h4
     ·rename_i x2 s2 ho
      simp only [Option.some.injEq,Rx.out.injEq] at h4
      obtain ⟨h5,h6⟩:=h4
      exact qiW (hn w) h3 (by simp only [ho,h5,h6])
     ·cases h4
   ·cases h
 refine ⟨fun s x s' hm=>?_,fun s hne=>?_⟩
 ·unfold LE at hm
  split at hm
  ·rename_i v hv
   obtain ⟨k,w,h1,h2,h3⟩:=qzP hm
   rw [qFP hv,key v k w h1 h3,<- h2]
  ·cases hm
 ·unfold LE at hne
  split at hne
  ·rename_i v hv
   rw [qFP hv]; exact hn v
  ·exact absurd rfl hne
end Go.Eng
namespace Go.Eng
section
variable {T:TypeId -> List Sh}
theorem qcK {d:Nat} {k:IntKind} {x:AV} (h:Fit maxLen T d (.int k) x):∃ n,x = .int k n /\ (Lit.int k n).wf = true:=by
 cases d with
 | zero=>exact h.elim
 | succ d=>exact h
theorem qsI {d:Nat} {x:AV} (h:Fit maxLen T d .str x):∃ s,x = .str s /\ s.length <= big:=by
 cases d with
 | zero=>exact h.elim
 | succ d=>obtain ⟨n,h,hl⟩:=h; exact ⟨n,h,Nat.le_trans hl (by decide)⟩
theorem qBG {α τ:Type} {f:τ -> α} {p:τ -> Prop}:∀ {l:List α},(∀ e ∈ l,∃ x,e = f x /\ p x) -> ∃ m:List τ,l = m.map f /\ ∀ x ∈ m,p x
 | [],_=>⟨[],rfl,by simp⟩
 | e :: l,h=>by
  obtain ⟨x,rfl,hx⟩:=h e (by simp)
  obtain ⟨m,rfl,hm⟩:=qBG (l:=l) fun e he=>h e (by simp [he])
  refine ⟨x :: m,rfl,fun y hy=>?_⟩
  rcases List.mem_cons.1 hy with rfl | hy
  ·exact hx
  ·exact hm y hy
end
end Go.Eng

/- posting.Post at the example: it defers a check; what is said of it is true, if it is true what is said of its callees. -/
import Derived.Test.YtbieppilagmdjaaGreatDoorIP35
import Derived.Test.YtbieppilagmdjaaGreatDoorPoA
import Derived.Test.YtbieppilagmdjaaGreatDoorE3
import Derived.Test.YtbieppilagmdjaaGreatDoorProg
import Derived.KernelRfl
import Derived.Defers
import Derived.Recover
set_option linter.unusedVariables false
set_option linter.unusedSimpArgs false
set_option linter.unnecessarySimpa false
namespace Go.Eng
set_option linter.unusedSectionVars false
variable [Globs]
theorem qOK {e:Exit} (h:e ≠ .normal) {next:Act -> World -> Prop} {R:Exit -> Act -> World -> Prop} {a:Act} {w:World}:Exit.then next R e a w = R e a w:=by
 cases e <;> first | rfl | exact absurd rfl h
theorem qhn:∀ (tm:Env) (t:Nat),(∃ p ∈ tm,p.1 = t /\ qbe tm t = p.2) \/ qbe tm t = .junk
 | [],_=>.inr rfl
 | (i,v) :: tm,t=>by
  by_cases h:t = i
  ·subst h
   exact .inl ⟨(t,v),by simp,rfl,by simp [qbe]⟩
  ·have e:qbe ((i,v) :: tm) t = qbe tm t:=by simp [qbe,h]
   rw [e]
   rcases qhn tm t with ⟨p,hp,h1,h2⟩ | h
   ·exact .inl ⟨p,by simp [hp],h1,h2⟩
   ·exact .inr h
theorem qEu {w:World} {I:Imm} {m:Names} {tm tm':Env} {a:Act} (F:qe0 w I m tm a) (h:∀ p ∈ tm',qbe tm p.1 = p.2):qe0 w I m tm' a:=by
 intro t
 rcases qhn tm' t with ⟨p,hp,rfl,h2⟩ | h2
 ·rw [h2,<- h p hp]; exact F _
 ·rw [h2]; trivial
theorem qOP [Dfs] {P:Program} {IP:Prog} {call:qaL} {loop:qdj} {hint:Nat -> Nat} (hcall:qcy P call) (hloop:qik P loop) {c rest:Code} {n:Nat} {ks ks':List (List Nat)} {ic:ICode} (hc:qFq P hint n c ks = some (ic,ks')) {s s1:St} {x:X}
  (hx:qbi IP call loop ic s = some (x,s1)) {w:World} {I:Imm} {m:Names} {a:Act} {Q:Exit -> Act -> World -> Prop} (F:Fits w I m s.tm s.hp s.nx n a)
  (hn:x = .normal -> ∀ a' w' I' m',Fr s.k w w' I I' m m' s.hp s1.hp -> Fits w' I' m' s1.tm s1.hp s1.nx n a' -> rest.wp P Q a' w')
  (ho:x ≠ .normal -> ∀ e a' w',Eng.Ends w I m s.hp s.k n x s1 e a' w' -> Q e a' w'):(Code.seq c rest).wp P Q a w:=by
 refine wp_seq (qb2 hcall hloop c ks ks' ic hc s x s1 hx w I m a _ F fun e a' w' E=>?_)
 cases x with
 | normal=>
  obtain ⟨I',m',f,rfl,F'⟩:=E
  exact hn rfl a' w' I' m' f F'
 | exit j=>obtain ⟨I',m',f,rfl,F'⟩:=E; rw [qOK (qz0 j)]; exact ho (by simp) _ _ _ ⟨I',m',f,rfl,F'⟩
 | ret=>obtain ⟨I',m',f,rfl,F'⟩:=E; exact ho (by simp) _ _ _ ⟨I',m',f,rfl,F'⟩
 | pan v=>obtain ⟨I',m',f,hd,H',ht,u,rfl,hu⟩:=E; exact ho (by simp) _ _ _ ⟨I',m',f,hd,H',ht,u,rfl,hu⟩
end Go.Eng
namespace Go.Proofs.H35
open Go Go.Eng Go.Tk Go.Proofs
set_option maxRecDepth 100000
def sq1:Code -> Code
 | .seq a _=>a
 | c=>c
def sq2:Code -> Code
 | .seq _ b=>b
 | c=>c
def qFj (f:Func):Code:=f.body.getD .skip
noncomputable def cA:Code:=sq1 (qFj Tryz.f41)
noncomputable def cD:Code:=sq1 (sq2 (qFj Tryz.f41))
noncomputable def cB:Code:=sq2 (sq2 (qFj Tryz.f41))
noncomputable def cC:Code:=qFj Tryz.f67
theorem qQJ:Tryz.f41.body = some (.seq cA (.seq cD cB)):=by kernel_rfl
theorem qQK:Tryz.f67.body = some cC:=by kernel_rfl
noncomputable def icO (n:Nat) (c:Code):ICode:=match qFq Tryz.prog (fun _=>10) n c [] with
 | some (x,_)=>x
 | none=>.skip
theorem okA:qFq Tryz.prog (fun _=>10) 42 cA [] = some (icO 42 cA,[]):=by kernel_rfl
theorem okB:qFq Tryz.prog (fun _=>10) 42 cB [] = some (icO 42 cB,[]):=by kernel_rfl
theorem okC:qFq Tryz.prog (fun _=>10) 16 cC [] = some (icO 16 cC,[]):=by kernel_rfl
def qU7:List (Nat × Option (Bool × Nat)):=[(4,some (true,22)),(5,some (false,1))]
theorem qZw:qpt Tryz.prog Tryz.f41.results.toList = some qU7:=by kernel_rfl
def cK5 (R:Type):qfW R:=fun f a h K=>match f with
 | 68=>bif qgG a [qlw] && h.isEmpty then K (.ret (.int .i64 0)) [] else none
 | 69=>bif qgG a [.view 10 [],.str [107]] && h.isEmpty then K (.ret (.tup [qWK,.bool false])) [] else none
 | 70=>bif qgG a [qsj,qlw] && h.isEmpty then K (.ret (.int .i64 0)) [] else none
 | 71=>bif qgG a [qsj,qlw] && h.isEmpty then K (.ret (.int .i64 0)) [] else none
 | 72=>bif qgG a [.view 10 [],qlw] && h.isEmpty then K (.ret (.tup [.view 10 [qR5],.int .i64 0])) [] else none
 | _=>none
theorem qMO {α:Type} {c:Bool} {x:Option α} {r:α} (h:(bif c then x else none) = some r):c = true /\ x = some r:=by
 cases c
 ·cases h
 ·exact ⟨rfl,h⟩
theorem qzo {call:qaL} (hC:qs2 call) (R:Type):qlq call (cK5 R):=by
  obtain ⟨h1,h2,h3,h4,h5⟩:=hC
  intro f a h K ρ hs
  unfold cK5 at hs
  split at hs
  all_goals first
    | (cases hs; done)
    | (obtain ⟨hc,hs2⟩:=qMO hs
       simp only [Bool.and_eq_true,List.isEmpty_iff] at hc
       obtain ⟨e1,rfl⟩:=hc
       rw [qfR e1]
       first
         | exact ⟨_,_,h1,hs2⟩
         | exact ⟨_,_,h2,hs2⟩
         | exact ⟨_,_,h3,hs2⟩
         | exact ⟨_,_,h4,hs2⟩
         | exact ⟨_,_,h5,hs2⟩)
def noL:qdj:=fun _ _ _=>none
def qXd {R:Type}:qsb R:=fun _ _ _ _=>none
theorem qCw [Dfs]:qik Tryz.prog noL:=fun _ _ _ _ _ h=>by cases h
def kx:Eng.X -> Nat
 | .normal=>0
 | .ret=>1
 | .exit _=>2
 | .pan _=>3
theorem qNT {x:Eng.X}:(kx x = 0 -> x = .normal) /\ (kx x = 1 -> x = .ret):=by cases x <;> simp [kx]
def zBk:List AV:=[.nils ⟨2,.nil⟩,.nils ⟨3,.nil⟩,.nils ⟨4,.nil⟩,.int .i64 0,.int .i64 0,.int .i64 0,.int .i64 0,.int .i64 0,.int .i64 0,.int .i64 0,.int .i64 0,.int .i64 0,.int .i64 0,.int .i64 0,.int .i64 0,.int .i64 0,.int .i64 0,.nils ⟨19,.nil⟩,.nils ⟨7,.nil⟩,.nils ⟨10,.nil⟩,.nils ⟨6,.nil⟩,.nils ⟨7,.nil⟩]
def zEn:List AV:=[.int .i64 0,.int .i64 0,.int .i64 0,.int .i64 0,.int .i64 0,.int .i64 0,.str [],.str [],.view 3 [],.int .u64 0]
def hpA:Eng.Heap:=[(48,.box [.int .i64 0] false),(32,.box zBk false),(16,.box (qac qlw) false),(0,.box (qQG (.view 10 [])) false)]
def hpB:Eng.Heap:=[(48,.box [.int .i64 0] false),(32,.box (qQG (.view 10 [qR5])) false),(272,.box zEn false),(16,.box (qac qlw) false),(0,.box (qQG (.view 10 [])) false)]
def tmB:Env:=[(2,.ref 0 0 0),(3,.ref 16 0 0),(4,.ref 32 0 0),(5,.ref 48 0 0)]
def stA:St:=⟨[(0,qsj),(1,qlw)],[],0,64⟩
def stB:St:=⟨tmB,hpA,64,64⟩
def stC:St:=⟨[(0,.ref 48 0 0),(1,.ref 32 0 0),(2,.ref 0 0 0)],hpB,720,64⟩
def kA (x:Eng.X) (s:St):Option (Nat × List AV × Eng.Heap × Nat × Nat):=some (kx x,[qbe s.tm 2,qbe s.tm 3,qbe s.tm 4,qbe s.tm 5],s.hp,s.nx,s.k)
def kB (x:Eng.X) (s:St):Option (Nat × Option (List AV) × List AV × Eng.Heap × Nat × Nat):=some (kx x,qf8 s qU7,[qbe s.tm 4,qbe s.tm 5],s.hp,s.nx,s.k)
def kC (x:Eng.X) (s:St):Option (Nat × Eng.Heap × Nat × Nat):=some (kx x,s.hp,s.nx,s.k)
theorem qT6:qfX (R:=Nat × List AV × Eng.Heap × Nat × Nat) IP cK5 qXd (icO 42 cA) stA kA = some (0,[.ref 0 0 0,.ref 16 0 0,.ref 32 0 0,.ref 48 0 0],hpA,64,64):=by kernel_rfl
theorem qT7:qfX (R:=Nat × Option (List AV) × List AV × Eng.Heap × Nat × Nat) IP cK5 qXd (icO 42 cB) stB kB = some (1,some [qJF,.int .i64 0],[.ref 32 0 0,.ref 48 0 0],hpB,720,64):=by kernel_rfl
theorem qT8:qfX (R:=Nat × Eng.Heap × Nat × Nat) IP cK5 qXd (icO 16 cC) stC kC = some (0,hpB,912,64):=by kernel_rfl
theorem q49:qf8 ⟨[(4,.ref 32 0 0),(5,.ref 48 0 0)],hpB,912,64⟩ qU7 = some [qJF,.int .i64 0]:=by kernel_rfl
theorem eA {call:qaL} (hC:qs2 call):∃ s,qbi IP call noL (icO 42 cA) stA = some (.normal,s) /\ (∀ p ∈ tmB,qbe s.tm p.1 = p.2) /\ s.hp = hpA /\ s.nx = 64:=by
 obtain ⟨x,s',hx,hk⟩:=qcp (call:=call) (loop:=noL) (fun R=>qzo hC R) (qcY _) qT6
 simp only [kA,Option.some.injEq,Prod.mk.injEq,List.cons.injEq,and_true] at hk
 obtain ⟨q1,⟨t2,t3,t4,t5⟩,q4,q5,_⟩:=hk
 have:=qNT.1 q1
 subst this
 refine ⟨s',hx,fun p hp=>?_,q4,q5⟩
 simp only [tmB,List.mem_cons,List.not_mem_nil,or_false] at hp
 rcases hp with rfl | rfl | rfl | rfl <;> assumption
theorem eB {call:qaL} (hC:qs2 call):∃ s,qbi IP call noL (icO 42 cB) stB = some (.ret,s) /\ (qbe s.tm 4 = .ref 32 0 0 /\ qbe s.tm 5 = .ref 48 0 0) /\ s.hp = hpB /\ s.nx = 720:=by
 obtain ⟨x,s',hx,hk⟩:=qcp (call:=call) (loop:=noL) (fun R=>qzo hC R) (qcY _) qT7
 simp only [kB,Option.some.injEq,Prod.mk.injEq,List.cons.injEq,and_true] at hk
 obtain ⟨q1,_,t,q4,q5,_⟩:=hk
 have:=qNT.2 q1
 subst this
 exact ⟨s',hx,t,q4,q5⟩
theorem eC {call:qaL} (hC:qs2 call):∃ s,qbi IP call noL (icO 16 cC) stC = some (.normal,s) /\ s.hp = hpB /\ s.nx = 912:=by
 obtain ⟨x,s',hx,hk⟩:=qcp (call:=call) (loop:=noL) (fun R=>qzo hC R) (qcY _) qT8
 simp only [kC,Option.some.injEq,Prod.mk.injEq] at hk
 obtain ⟨q1,q4,q5,_⟩:=hk
 have:=qNT.1 q1
 subst this
 exact ⟨s',hx,q4,q5⟩
theorem qFo {call:qaL} (hc:qcy Tryz.prog call) (hC:qs2 call) {w:World} {I:Imm} {m:Names} (H:HeapAt w I m hpB) (hn:∀ i,720 <= i -> m i = none) {v0 v1 v2:Value} (r0:Rel w I (.ref 48 0 0) m v0) (r1:Rel w I (.ref 32 0 0) m v1) (r2:Rel w I (.ref 0 0 0) m v2) :
  CallsD Tryz.prog 67 #[v0,v1,v2] .returning w fun e u' w'=>e = .returned (.tuple #[]) /\ u' = .returning /\ ∃ I' m',Fr 64 w w' I I' m m' hpB hpB /\ HeapAt w' I' m' hpB /\ ∀ i,912 <= i -> m' i = none:=by
 obtain ⟨s,hx,h1,h2⟩:=eC hC
 refine callsD_of_wpS Tryz.func67 qQK fun c₀ cs hu=>?_
 refine wpS_of_wp ?_
 refine qb2 hc qCw cC [] [] (icO 16 cC) okC _ _ _ hx w I m _ _ ⟨?_,H,hn,?_,rfl⟩ ?_
 ·intro t
  have e:stC.tm = [(0,.ref 48 0 0),(1,.ref 32 0 0),(2,.ref 0 0 0)]:=rfl
  rw [e]
  rcases qhn [(0,.ref 48 0 0),(1,.ref 32 0 0),(2,.ref 0 0 0)] t with ⟨p,hp,rfl,h2⟩ | h2
  ·rw [h2]
   simp only [List.mem_cons,List.not_mem_nil,or_false] at hp
   rcases hp with rfl | rfl | rfl
   ·refine (?_:Rel w I (.ref 48 0 0) m v0) |> fun h=>by simpa using h
    exact r0
   ·refine (?_:Rel w I (.ref 32 0 0) m v1) |> fun h=>by simpa using h
    exact r1
   ·refine (?_:Rel w I (.ref 0 0 0) m v2) |> fun h=>by simpa using h
    exact r2
  ·rw [h2]; trivial
 ·simp [Tryz.ntmps67]
 ·rintro e a' w' ⟨I',m',f,rfl,F'⟩
  have fh:=F'.hp
  have fn:=F'.nx
  rw [h1] at f fh
  rw [h2] at fn
  exact ⟨F'.df,.returning,by clear hx h1 h2 f fh fn F' H hn r0 r1 r2 hC hc; cases c₀; simp_all,.tuple #[],by simp [results,Tryz.results67],rfl,rfl,I',m',f,fh,fn⟩
theorem finish {w:World} {I:Imm} {m:Names} (hm:∀ i,m i = none) {w2:World} {I2:Imm} {m2:Names} {hp:Eng.Heap} {k:Nat} (f:Fr k w w2 I I2 m m2 [] hp) (H2:HeapAt w2 I2 m2 hp) {u:Value} {v:AV} (hu:Rel w2 I2 v m2 u) :
  Eng.Post w I m [] (.ret v) [] (.returned u) w2:=
 ⟨I2,m2,Aft.mk f.stays f.imm (fun i L hL=>by rw [hm i] at hL; cases hL) (H2.sub' (fun i b hi=>by cases (show none = some b from hi))) f.frame f.newI (fun b h=>by obtain ⟨i,x,L,hi,_⟩:=h; cases (show none = some x from hi)),u,rfl,hu⟩
theorem qTq {w:World} {I:Imm} {m:Names} {tm:Env} {hp:Eng.Heap} {nx k:Nat} {a:Act} (T:qe0 w I m tm a) (H:HeapAt w I m hp) (hn:∀ i,nx <= i -> m i = none) {vs:List AV} (hv:qf8 ⟨tm,hp,nx,k⟩ qU7 = some vs) :
  ∃ u,(results Tryz.f41 a.tmps).run Tryz.prog w = .ok u w /\ Rel w I (Eng.one vs) m u:=
 qeL (a:={ tmps:=a.tmps,defers:=[] }) (s:=⟨tm,hp,nx,k⟩) (n:=0) (nx:=nx) ⟨T,H,hn,Nat.zero_le _,rfl⟩ qZw hv
def q1W:Array Oper:=#[{ dst:=some 8,op:=.makeFunc (.func 67) #[] #[.tmp 5,.tmp 4,.tmp 2],type:=1,pos := "posting.go:122", after:=#[],guard:=none },
  { dst:=none,op:=.defer { callee:=.value (.tmp 8),args:=#[],argTypes:=#[] },type:=0,pos := "posting.go:122", after:=#[{ on:=0,ground:=.data }],guard:=none }]
theorem qV8:cD = .region 1 q1W false:=by kernel_rfl
set_option maxHeartbeats 1000000 in
theorem qOg:qyD Tryz.prog 41 qnN:=by
 intro call hc args h r h' hg w I m vs H hm hr
 have hg:qnM call args h = some (r,h'):=hg
 obtain ⟨rfl,rfl,hC,hr0⟩:=qmK hg
 cases hr0
 refine .inl ⟨⟨_,Tryz.func41,by kernel_rfl,by kernel_rfl⟩,?_⟩
 refine calls_of_wp_defers Tryz.func41 qQJ ?_
 have hm':∀ i,m i = none:=fun i=>hm i (Nat.zero_le _)
 have F0:Fits w I m stA.tm stA.hp stA.nx 42 { tmps:=vs.toArray ++ Array.replicate (Tryz.f41.ntmps - vs.toArray.size) undef,defers:=[] }:=by
  have hrl:=qaH hr
  refine ⟨fun t=>?_,H,fun i _=>hm' i,?_,rfl⟩
  ·show Rel w I (qbe (params 0 [qsj,qlw]) t) m _
   rw [qgM]
   simp only [Nat.zero_le,if_true,Nat.sub_zero]
   cases hq:([qsj,qlw]:List AV)[t]? with
   | none=>simp [Rel]
   | some x=>
    obtain ⟨v,hv,hrel⟩:=qbf hr t x hq
    have hlt:t < vs.length:=(List.getElem?_eq_some_iff.1 hv).1
    have:(vs.toArray ++ Array.replicate (Tryz.f41.ntmps - vs.toArray.size) undef).getD t undef = v:=by
     rw [Array.getD_eq_getD_getElem?,Array.getElem?_append_left (by simpa using hlt)]
     simp [hv]
    rw [this]; exact hrel
  ·simp only [Array.size_append,List.size_toArray,Array.size_replicate,Tryz.ntmps41]
   omega
 generalize ({ tmps:=vs.toArray ++ Array.replicate (Tryz.f41.ntmps - vs.toArray.size) undef,defers:=[] }:Act) = a0 at F0 ⊢
 obtain ⟨sA,xA,tA,hA,nA⟩:=eA hC
 obtain ⟨sB,xB,tB,hB,nB⟩:=eB hC
 refine qOP hc qCw okA xA F0 (fun _ a1 w1 I1 m1 f1 F1=>?_) (fun h=>absurd rfl h)
 have T1:qe0 w1 I1 m1 tmB a1:=qEu F1.tm tA
 have H1:HeapAt w1 I1 m1 hpA:=hA ▸ F1.hp
 have N1:∀ i,64 <= i -> m1 i = none:=nA ▸ F1.nx
 rw [hA] at f1
 have D1:a1.defers = []:=F1.df
 have S1:42 <= a1.tmps.size:=F1.sz
 have r2:Rel w1 I1 (.ref 0 0 0) m1 (a1.tmps.getD 2 undef):=T1 2
 have r4:Rel w1 I1 (.ref 32 0 0) m1 (a1.tmps.getD 4 undef):=T1 4
 have r5:Rel w1 I1 (.ref 48 0 0) m1 (a1.tmps.getD 5 undef):=T1 5
 rw [qV8]
 apply wp_seq
 apply wp_region
 obtain ⟨L2,m2,v2⟩:∃ L,m1 0 = some L /\ a1.tmps.getD 2 undef = .pointer (some (ad L.blk (L.base + 0 * L.sz + 0))):=id r2
 obtain ⟨L4,m4,v4⟩:∃ L,m1 32 = some L /\ a1.tmps.getD 4 undef = .pointer (some (ad L.blk (L.base + 0 * L.sz + 0))):=id r4
 obtain ⟨L5,m5,v5⟩:∃ L,m1 48 = some L /\ a1.tmps.getD 5 undef = .pointer (some (ad L.blk (L.base + 0 * L.sz + 0))):=id r5
 generalize ad L2.blk (L2.base + 0 * L2.sz + 0) = A2 at v2
 generalize ad L4.blk (L4.base + 0 * L4.sz + 0) = A4 at v4
 generalize ad L5.blk (L5.base + 0 * L5.sz + 0) = A5 at v5
 have h8:8 < a1.tmps.size:=by omega
 rw [Array.getD_eq_getD_getElem?] at v2 v4 v5
 simp only [q1W,List.size_toArray,List.length_cons,List.length_nil,Nat.zero_add,Nat.reduceAdd]
 simp [wpOps,go_sem,List.range,List.range.loop,h8,v2,v4,v5,D1]
 refine .inl (.inl ?_)
 let d:Deferred:={ target:=.fn (.func 67) #[.pointer (some A5),.pointer (some A4),.pointer (some A2)],args:=#[] }
 let _inst:Dfs:=⟨[d]⟩
 have hT2:∀ v,qe0 w1 I1 m1 tmB { tmps:=a1.tmps.setIfInBounds 8 v,defers:=[d] }:=by
  intro v t
  rcases qhn tmB t with ⟨p,hp,hpt,h2⟩ | h2
  ·have:=T1 t
   have hne:8 ≠ t:=by
    simp only [tmB,List.mem_cons,List.not_mem_nil,or_false] at hp
    rcases hp with rfl | rfl | rfl | rfl <;> simp only at hpt <;> omega
   show Rel w1 I1 _ m1 ((a1.tmps.setIfInBounds 8 v).getD t undef)
   rw [Array.getD_eq_getD_getElem?,Array.getElem?_setIfInBounds_ne hne,<- Array.getD_eq_getD_getElem?]
   exact this
  ·rw [h2]; trivial
 have hF2:∀ v,Fits w1 I1 m1 stB.tm stB.hp stB.nx 42 { tmps:=a1.tmps.setIfInBounds 8 v,defers:=[d] }:=fun v=>⟨hT2 v,H1,N1,by simpa using S1,rfl⟩
 have r2':Rel w1 I1 (.ref 0 0 0) m1 (.pointer (some A2)):=by rw [<- v2,<- Array.getD_eq_getD_getElem?]; exact r2
 have r4':Rel w1 I1 (.ref 32 0 0) m1 (.pointer (some A4)):=by rw [<- v4,<- Array.getD_eq_getD_getElem?]; exact r4
 have r5':Rel w1 I1 (.ref 48 0 0) m1 (.pointer (some A5)):=by rw [<- v5,<- Array.getD_eq_getD_getElem?]; exact r5
 have hi:∀ w:World,(invoke (.fn (.func 67) #[.pointer (some A5),.pointer (some A4),.pointer (some A2)]) #[]).run Tryz.prog w = .ok (.enter 67 #[.pointer (some A5),.pointer (some A4),.pointer (some A2)]) w:=fun w=>by simp [go_sem]
 refine qb2 hc qCw cB [] [] (icO 42 cB) okB _ _ _ xB w1 I1 m1 _ _ (hF2 _) fun e a3 w3 E=>?_
 obtain ⟨I3,m3,f3,rfl,F3⟩:=E
 have hd3:a3.defers = [d]:=F3.df
 have H3:HeapAt w3 I3 m3 hpB:=hB ▸ F3.hp
 have N3:∀ i,720 <= i -> m3 i = none:=nB ▸ F3.nx
 rw [hB] at f3
 have up:∀ (i:Nat) (v:Value),i < 64 -> Rel w1 I1 (.ref i 0 0) m1 v -> Rel w3 I3 (.ref i 0 0) m3 v:=fun i v hi h=>by
  simp only [Rel] at h ⊢
  obtain ⟨L,hL,hv⟩:=h
  exact ⟨L,f3.names i L hi hL,hv⟩
 simp only [bodyPostD,hd3]
 refine leaves_cons (by simp) (hi w3) ?_
 refine (qFo hc hC H3 N3 (up 48 _ (by omega) r5') (up 32 _ (by omega) r4') (up 0 _ (by omega) r2')).mono ?_
 rintro e u' w4 ⟨rfl,rfl,I4,m4,f4,H4,N4⟩
 have T4:qe0 w4 I4 m4 [(4,.ref 32 0 0),(5,.ref 48 0 0)] a3:=by
  intro t
  have up4:∀ (i:Nat) (v:Value),i < 64 -> Rel w3 I3 (.ref i 0 0) m3 v -> Rel w4 I4 (.ref i 0 0) m4 v:=fun i v hi h=>by
   simp only [Rel] at h ⊢
   obtain ⟨L,hL,hv⟩:=h
   exact ⟨L,f4.names i L hi hL,hv⟩
  rcases qhn [(4,.ref 32 0 0),(5,.ref 48 0 0)] t with ⟨p,hp,hpt,h2⟩ | h2
  ·rw [h2]
   simp only [List.mem_cons,List.not_mem_nil,or_false] at hp
   have:=F3.tm t
   rcases hp with rfl | rfl <;> subst hpt
   ·rw [tB.1] at this; exact up4 32 _ (by omega) this
   ·rw [tB.2] at this; exact up4 48 _ (by omega) this
  ·rw [h2]; trivial
 obtain ⟨u,hu,hru⟩:=qTq T4 H4 N4 q49
 simp only [settle,Leaves]
 exact ⟨u,hu,finish hm' ((f1.trans f3).trans f4) H4 hru⟩
end Go.Proofs.H35

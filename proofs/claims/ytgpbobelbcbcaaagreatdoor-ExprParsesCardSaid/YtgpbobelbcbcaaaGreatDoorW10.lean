/- expr.Parse, which defers and recovers: what is said of it is true, if it is true what is said of its callees. -/
import Derived.Test.YtgpbobelbcbcaaaGreatDoorIP10
import Derived.Test.YtgpbobelbcbcaaaGreatDoorProg
import Derived.KernelRfl
import Derived.Defers
import Derived.Recover
set_option linter.unusedVariables false
set_option linter.unusedSimpArgs false
set_option linter.unnecessarySimpa false
namespace Go.Eng
set_option linter.unusedSectionVars false
variable [Globs]
theorem qjy:∀ (tm:Env) (t:Nat),(∃ p ∈ tm,p.1 = t /\ qbO tm t = p.2) \/ qbO tm t = .junk
 | [],_=>.inr rfl
 | (i,v) :: tm,t=>by
  by_cases h:t = i
  ·subst h
   exact .inl ⟨(t,v),by simp,rfl,by simp [qbO]⟩
  ·have e:qbO ((i,v) :: tm) t = qbO tm t:=by simp [qbO,h]
   rw [e]
   rcases qjy tm t with ⟨p,hp,h1,h2⟩ | h
   ·exact .inl ⟨p,by simp [hp],h1,h2⟩
   ·exact .inr h
theorem qIY {w:World} {I:Imm} {m:Names} {tm tm':Env} {a:Act} (F:qhV w I m tm a) (h:∀ p ∈ tm',qbO tm p.1 = p.2):qhV w I m tm' a:=by
 intro t
 rcases qjy tm' t with ⟨p,hp,rfl,h2⟩ | h2
 ·rw [h2,<- h p hp]; exact F _
 ·rw [h2]; trivial
theorem qxH [Dfs] {P:Program} {IP:Prog} {call:qa7} {loop:qgM} {hint:Nat -> Nat} (hcall:qef P call) (hloop:qo7 P loop) {c rest:Code} {n:Nat} {ks ks':List (List Nat)} {ic:ICode} (hc:qjG P hint n c ks = some (ic,ks')) {s s1:St} {x:X}
  (hx:qdc IP call loop ic s = some (x,s1)) {w:World} {I:Imm} {m:Names} {a:Act} {Q:Exit -> Act -> World -> Prop} (F:Fits w I m s.tm s.hp s.nx n a)
  (hn:x = .normal -> ∀ a' w' I' m',Fr s.k w w' I I' m m' s.hp s1.hp -> Fits w' I' m' s1.tm s1.hp s1.nx n a' -> rest.wp P Q a' w')
  (ho:x ≠ .normal -> ∀ e a' w',Eng.Ends w I m s.hp s.k n x s1 e a' w' -> Q e a' w'):(Code.seq c rest).wp P Q a w:=by
 refine wp_seq (qcm hcall hloop c ks ks' ic hc s x s1 hx w I m a _ F fun e a' w' E=>?_)
 cases x with
 | normal=>
  obtain ⟨I',m',f,rfl,F'⟩:=E
  exact hn rfl a' w' I' m' f F'
 | exit j=>obtain ⟨I',m',f,rfl,F'⟩:=E; exact ho (by simp) _ _ _ ⟨I',m',f,rfl,F'⟩
 | ret=>obtain ⟨I',m',f,rfl,F'⟩:=E; exact ho (by simp) _ _ _ ⟨I',m',f,rfl,F'⟩
 | pan v=>obtain ⟨I',m',f,hd,H',ht,u,rfl,hu⟩:=E; exact ho (by simp) _ _ _ ⟨I',m',f,hd,H',ht,u,rfl,hu⟩
end Go.Eng
namespace Go.Proofs.H10
open Go Go.Eng Go.Tk Go.Proofs
set_option maxRecDepth 100000
def sq1:Code -> Code
 | .seq a _=>a
 | c=>c
def sq2:Code -> Code
 | .seq _ b=>b
 | c=>c
def qv2 (f:Func):Code:=f.body.getD .skip
noncomputable def cA:Code:=sq1 (qv2 Tryz.f10)
noncomputable def cX:Code:=sq1 (sq2 (qv2 Tryz.f10))
noncomputable def cP:Code:=sq1 (sq2 (sq2 (qv2 Tryz.f10)))
noncomputable def cD:Code:=sq1 (sq2 (sq2 (sq2 (qv2 Tryz.f10))))
noncomputable def cB:Code:=sq2 (sq2 (sq2 (sq2 (qv2 Tryz.f10))))
noncomputable def cC:Code:=sq2 (qv2 Tryz.f28)
theorem qUl:Tryz.f10.body = some (.seq cA (.seq cX (.seq cP (.seq cD cB)))):=by kernel_rfl
theorem qUm:Tryz.f28.body = some (.seq (sq1 (qv2 Tryz.f28)) cC):=by kernel_rfl
noncomputable def icO (n:Nat) (c:Code):ICode:=match qjG Tryz.prog (fun _=>4) n c [] with
 | some (x,_)=>x
 | none=>.skip
theorem okA:qjG Tryz.prog (fun _=>4) 38 cA [] = some (icO 38 cA,[]):=by kernel_rfl
theorem okX:qjG Tryz.prog (fun _=>4) 38 cX [] = some (icO 38 cX,[]):=by kernel_rfl
theorem okP:qjG Tryz.prog (fun _=>4) 38 cP [] = some (icO 38 cP,[]):=by kernel_rfl
theorem okB:qjG Tryz.prog (fun _=>4) 38 cB [] = some (icO 38 cB,[]):=by kernel_rfl
theorem okC:qjG Tryz.prog (fun _=>4) 20 cC [] = some (icO 20 cC,[]):=by kernel_rfl
def qWn:List (Nat × Option (Bool × Nat)):=[(4,some (true,4)),(5,some (false,1)),(6,some (false,1))]
theorem q0d:qtd Tryz.prog Tryz.f10.results.toList = some qWn:=by kernel_rfl
abbrev KT:=Nat × Option (List AV) × List AV × Heap × Nat × Nat
def kx:X -> Nat
 | .normal=>0
 | .ret=>1
 | .exit _=>2
 | .pan _=>3
def kA (x:X) (s:St):Option KT:=some (kx x,qhd s qWn,[qbO s.tm 0,qbO s.tm 1,qbO s.tm 4,qbO s.tm 5,qbO s.tm 6,qbO s.tm 7],s.hp,s.nx,s.k)
def noK {R:Type}:qgL R:=fun _ _ _ _=>none
def qXY {R:Type}:qvN R:=fun _ _ _ _=>none
noncomputable def pre:ICode:=.seq (icO 38 cA) (.seq (icO 38 cX) (icO 38 cP))
def cK (b1:List AV -> Int -> Bool) (r1:Res) (h1:Heap) (b2:AV -> Bool) (r2:Int) (R:Type):qgL R:=fun f a h K=>match f,a,h with
 | 29,[.ref 0 0 0],[(0,.box [.view 3 es,.int .i64 k] false)]=>br (b1 es k) (K r1 h1) none
 | 17,[v],[]=>br (b2 v) (K (.ret (.int .i64 r2)) []) none
 | _,_,_=>none
abbrev KB:=Nat × AV × Option (List AV) × List AV × Heap × Nat × Nat
def kB (x:X) (s:St):Option KB:=some (kx x,(match x with | .pan v=>v | _=>.junk),qhd s qWn,[qbO s.tm 4,qbO s.tm 5,qbO s.tm 6],s.hp,s.nx,s.k)
def zB:Blk:=.box [.int .i64 0,.int .i64 0,.str [],.nils ⟨4,.nil⟩] false
def stB (es:List AV) (k:Int):St:=⟨[(0,.view 3 es),(1,.int .i64 k),(4,.ref 0 0 0),(5,.ref 16 0 0),(6,.ref 32 0 0),(7,.ref 224 0 0)],[(224,.box [.view 3 es,.int .i64 k] false),(32,.box [.int .i64 0] false),(16,.box [.int .i64 0] false),(0,zB)],256,64⟩
def kC (x:X) (s:St):Option (Nat × Heap × Nat × Nat):=some (kx x,s.hp,s.nx,s.k)
def exO:AV:=.agg [.int .i64 0,.int .i64 0,.str [],.nils ⟨4,.nil⟩]
def V0 (es:List AV) (k:Int):Option Bool:=br (decide (k < 0)) (some true) (some (decide (k > (es.length:Int))))
theorem qzD (es:List AV) (k:Int):qgJ (R:=KT) IP (fun _=>noK) qXY pre ⟨[(0,.view 3 es),(1,.int .i64 k)],[],0,64⟩ kA =
  br (sm (V0 es k)) (br (gv (V0 es k)) (some (1,some [exO,.int .i64 k,.int .i64 2],[.view 3 es,.int .i64 k,.ref 0 0 0,.ref 16 0 0,.ref 32 0 0,.junk],[(32,.box [.int .i64 2] false),(16,.box [.int .i64 k] false),(0,zB)],256,64))
   (some (0,some [exO,.int .i64 0,.int .i64 0],[.view 3 es,.int .i64 k,.ref 0 0 0,.ref 16 0 0,.ref 32 0 0,.ref 224 0 0],[(224,.box [.view 3 es,.int .i64 k] false),(32,.box [.int .i64 0] false),(16,.box [.int .i64 0] false),(0,zB)],256,64))) none:=by kernel_rfl
theorem qW4 (es:List AV) (k:Int) (b1:List AV -> Int -> Bool) (b2:AV -> Bool) (o n:Int) (st:List UInt8) (q:Nat) (xs:List AV) (q0:Nat) (es0:List AV) (k' f:Int) :
  qgJ (R:=KB) IP (cK b1 (.ret (.agg [.int .i64 o,.int .i64 n,.str st,.view q xs])) [(0,.box [.view q0 es0,.int .i64 k'] false)] b2 f) qXY (icO 38 cB) (stB es k) kB =
  br (b1 es k) (br (b2 (.agg [.int .i64 o,.int .i64 n,.str st,.view q xs])) (br (f != 0)
   (some (1,.junk,some [exO,.int .i64 k,.int .i64 f],[.ref 0 0 0,.ref 16 0 0,.ref 32 0 0],[(32,.box [.int .i64 f] false),(16,.box [.int .i64 k] false),(0,zB),(224,.box [.view q0 es0,.int .i64 k'] false)],480,64))
   (some (1,.junk,some [.agg [.int .i64 o,.int .i64 n,.str st,.view q xs],.int .i64 k',.int .i64 0],[.ref 0 0 0,.ref 16 0 0,.ref 32 0 0],[(32,.box [.int .i64 0] false),(16,.box [.int .i64 k'] false),(0,.box [.int .i64 o,.int .i64 n,.str st,.view q xs] false),(224,.box [.view q0 es0,.int .i64 k'] false)],512,64))) none) none:=by kernel_rfl
def hpP (q0:Nat) (es0:List AV) (k0:Int):Eng.Heap:=[(224,.box [.view q0 es0,.int .i64 k0] false),(32,.box [.int .i64 0] false),(16,.box [.int .i64 0] false),(0,zB)]
theorem qW6 (es:List AV) (k:Int) (b1:List AV -> Int -> Bool) (b2:AV -> Bool) (q0:Nat) (es0:List AV) (k' k0 f:Int) :
  qgJ (R:=KB) IP (cK b1 (.pan (.iface 53 (.agg [.int .i64 k']))) [(0,.box [.view q0 es0,.int .i64 k0] false)] b2 f) qXY (icO 38 cB) (stB es k) kB =
  br (b1 es k) (some (3,.iface 53 (.agg [.int .i64 k']),some [exO,.int .i64 0,.int .i64 0],[.ref 0 0 0,.ref 16 0 0,.ref 32 0 0],hpP q0 es0 k0,304,64)) none:=by kernel_rfl
def hpM:Eng.Heap:=[(32,.box [.int .i64 0] false),(16,.box [.int .i64 0] false),(0,zB)]
def hpC (k':Int):Eng.Heap:=[(32,.box [.int .i64 2] false),(16,.box [.int .i64 k'] false),(0,zB),(624,.box [.int .i64 k'] false)]
theorem qW5 (k':Int):qgJ (R:=Nat × Eng.Heap × Nat × Nat) IP (fun _=>noK) qXY (icO 20 cC) ⟨[(0,.ref 0 0 0),(1,.ref 16 0 0),(2,.ref 32 0 0),(3,.iface 53 (.agg [.int .i64 k']))],hpM,512,64⟩ kC = some (0,hpC k',800,64):=by kernel_rfl
theorem qGz {R:Type} {call:qa7}:qlY call (noK (R:=R)):=fun _ _ _ _ _ h=>by cases h
theorem qnu [Dfs]:qo7 Tryz.prog (fun _ _ _=>none):=fun _ _ _ _ _ h=>by cases h
theorem qUr {call:qa7} {b1:List AV -> Int -> Bool} {r1:Res} {h1:Eng.Heap} {b2:AV -> Bool} {r2:Int} (q1:∀ es k,b1 es k = true -> call 29 [.ref 0 0 0] [(0,.box [.view 3 es,.int .i64 k] false)] = some (r1,h1)) (q2:∀ v,b2 v = true -> call 17 [v] [] = some (.ret (.int .i64 r2),[])) (R:Type):qlY call (cK b1 r1 h1 b2 r2 R):=by
 intro f a h K ρ hs
 unfold cK at hs
 split at hs
 ·obtain ⟨hb,hs⟩:=qen hs
  exact ⟨_,_,q1 _ _ hb,hs⟩
 ·obtain ⟨hb,hs⟩:=qen hs
  exact ⟨_,_,q2 _ hb,hs⟩
 ·cases hs
theorem qFz {x:X}:(kx x = 0 -> x = .normal) /\ (kx x = 1 -> x = .ret):=by cases x <;> simp [kx]
theorem qxZ {call:qa7} {loop:qgM} {a b:ICode} {s s':St} {x:X} (h:qdc IP call loop (.seq a b) s = some (x,s')):∃ y s1,qdc IP call loop a s = some (y,s1) /\ ((y = .normal /\ qdc IP call loop b s1 = some (x,s')) \/ (y ≠ .normal /\ y = x /\ s1 = s')):=by
 simp only [qdc] at h
 split at h
 ·rename_i s1 h1
  exact ⟨_,_,h1,.inl ⟨rfl,h⟩⟩
 ·rename_i r hr
  exact ⟨x,s',h,.inr ⟨fun he=>by subst he; exact hr _ h,rfl,rfl⟩⟩
theorem qDO [Dfs] {w:World} {I:Imm} {m:Names} {h:Eng.Heap} {k n:Nat} {x:X} {s:St} {e:Exit} {a:Act} {w':World} {next:Act -> World -> Prop} {Q:Exit -> Act -> World -> Prop} (E:Eng.Ends w I m h k n x s e a w') (hx:x ≠ .normal) (hq:Q e a w'):Exit.then next Q e a w':=by
 cases x with
 | normal=>exact absurd rfl hx
 | exit j=>obtain ⟨_,_,_,rfl,_⟩:=E; exact hq
 | ret=>obtain ⟨_,_,_,rfl,_⟩:=E; exact hq
 | pan v=>obtain ⟨_,_,_,_,_,_,_,rfl,_⟩:=E; exact hq
theorem qQz {call:qa7} (hc:qef Tryz.prog call) {s s':St} {x:X} (hx:qdc IP call (fun _ _ _=>none) pre s = some (x,s')) {w:World} {I:Imm} {m:Names} {a:Act} {Q:Exit -> Act -> World -> Prop} {rest:Code} (F:Fits w I m s.tm s.hp s.nx 38 a)
  (hQ:∀ e a' w',Eng.Ends w I m s.hp s.k 38 x s' e a' w' -> Exit.then (rest.wp Tryz.prog Q) Q e a' w'):(Code.seq cA (.seq cX (.seq cP rest))).wp Tryz.prog Q a w:=by
 have hk:=qD2 (IP:=IP) (call:=call) (loop:=fun _ _ _=>none) (fun _ _ _ _ _ h=>by cases h)
 have q:∀ {e a' w'},x ≠ .normal -> Eng.Ends w I m s.hp s.k 38 x s' e a' w' -> Q e a' w':=by
  intro e a' w' hne E
  have h2:=hQ e a' w' E
  cases x with
  | normal=>exact absurd rfl hne
  | exit j=>obtain ⟨_,_,_,rfl,_⟩:=E; exact h2
  | ret=>obtain ⟨_,_,_,rfl,_⟩:=E; exact h2
  | pan v=>obtain ⟨_,_,_,_,_,_,_,rfl,_⟩:=E; exact h2
 obtain ⟨y,s1,h1,h2⟩:=qxZ hx
 refine qxH hc qnu okA h1 F (fun hy a1 w1 I1 m1 f1 F1=>?_) fun hy e a1 w1 E1=>?_
 ·rcases h2 with ⟨_,h2⟩ | ⟨h2,_⟩
  ·obtain ⟨z,s2,h3,h4⟩:=qxZ h2
   have hk1:s1.k = s.k:=hk _ _ _ _ h1
   refine qxH hc qnu okX h3 F1 (fun hz a2 w2 I2 m2 f2 F2=>?_) fun hz e a2 w2 E2=>?_
   ·rcases h4 with ⟨_,h4⟩ | ⟨h4,_⟩
    ·have hk2:s2.k = s1.k:=hk _ _ _ _ h3
     refine qxH hc qnu okP h4 F2 (fun hz3 a3 w3 I3 m3 f3 F3=>?_) fun hz3 e a3 w3 E3=>?_
     ·rw [hk1] at f2
      rw [hk2,hk1] at f3
      have E:Eng.Ends w I m s.hp s.k 38 .normal s' .normal a3 w3:=⟨I3,m3,(f1.trans f2).trans f3,rfl,F3⟩
      subst hz3
      exact hQ .normal a3 w3 E
     ·rw [hk2,hk1] at E3
      rw [hk1] at f2
      exact q hz3 (E3.after (f1.trans f2))
    ·exact absurd hz h4
   ·rcases h4 with ⟨h4,_⟩ | ⟨_,rfl,rfl⟩
    ·exact absurd h4 hz
    ·rw [hk1] at E2
     exact q hz (E2.after f1)
  ·exact absurd hy h2
 ·rcases h2 with ⟨h2,_⟩ | ⟨_,rfl,rfl⟩
  ·exact absurd h2 hy
  ·exact q hy E1
theorem qKw {k:Nat} {w w':World} {I I':Imm} {m m' m1:Names} {h h' h1:Eng.Heap} (f:Fr k w w' I I' m m' h h') (hn:∀ i L,i < k -> m1 i = some L -> m i = some L) (ho:∀ b,Owns m h b -> Owns m1 h1 b):Fr k w w' I I' m1 m' h1 h':=
 ⟨f.stays,f.imm,fun i L hi hL=>f.names i L hi (hn i L hi hL),fun b hb hno=>f.frame b hb fun h=>hno (ho b h),fun b o hi=>(f.newI b o hi).imp id fun h=>h.imp (ho b) id,fun b hb=>(f.owns b hb).imp (ho b) id⟩
theorem qzV (p q r:Addr) (w:World) :
  CallsD Tryz.prog 28 #[.pointer (some p),.pointer (some q),.pointer (some r)] .returning w fun e u' w'=>e = .returned (.tuple #[]) /\ u' = .returning /\ w' = w:=by
 refine callsD_of_wpS Tryz.func28 rfl fun c₀ cs hu=>?_
 apply wpS_seq
 apply wpS_region
 simp [wpOpsS,go_sem,recoverD,hu,Tryz.ntmps28,Exit.thenS]
 apply wpS_seq
 apply wpS_region
 simp [wpOpsS,go_sem,Exit.thenS]
 refine wpS_cond (t:=false) (by simp [Act.eval,Array.replicate]) ?_
 simp only [Bool.false_eq_true,if_false]
 refine wpS_of_wp (wp_skip ?_)
 cases c₀
 simp_all [bodyPostS,results,Tryz.results28]
theorem qQU {w:World} {I:Imm} {m m':Names} {h h':Eng.Heap} (H:HeapAt w I m h) (hs:∀ i b,qad h' i = some b -> qad h i = some b /\ m' i = m i /\ ∃ cs fz,b = .box cs fz /\ idsA.idsL cs = []):HeapAt w I m' h':=by
 have one:∀ (L:Eng.Loc) (cs:List AV) (fz:Bool),idsA.idsL cs = [] -> BlkAt w I m L (.box cs fz) -> BlkAt w I m' L (.box cs fz):=by
  intro L cs fz hc hb
  obtain ⟨h1,h2,C,e,h3,h4,h5,h6⟩:=hb
  refine ⟨h1,h2,C,e,h3,h4,fun i c hi=>?_,h6⟩
  obtain ⟨v,hv,hr⟩:=h5 i c hi
  refine ⟨v,hv,qeB c ?_ hr⟩
  have:∀ (l:List AV) (i:Nat) (c:AV),idsA.idsL l = [] -> l[i]? = some c -> idsA c = []:=by
   intro l
   induction l with
   | nil=>intro i c _ h; simp at h
   | cons x l ih=>
    intro i c hl h
    simp only [idsA.idsL,List.append_eq_nil_iff] at hl
    cases i with
    | zero=>simp at h; subst h; exact hl.1
    | succ i=>exact ih i c hl.2 (by simpa using h)
  exact this cs i c hc hi
 refine ⟨fun i b hi=>?_,fun i j a b L L' hi hj=>?_,H.old,H.glob⟩
 ·obtain ⟨h1,h2,cs,fz,rfl,hc⟩:=hs i b hi
  obtain ⟨L,hL,hat⟩:=H.at_ i _ h1
  exact ⟨L,by rw [h2]; exact hL,one L cs fz hc hat⟩
 ·obtain ⟨h1,h2,_⟩:=hs i a hi
  obtain ⟨h3,h4,_⟩:=hs j b hj
  rw [h2,h4]
  exact H.apart i j a b L L' h1 h3
theorem qv8 {w:World} {I:Imm} {m:Names} {q0:Nat} {es0:List AV} {k0 k:Int} (H:HeapAt w I m (hpP q0 es0 k0)) {v0 v1 v2:Value} (r0:Rel w I (.ref 0 0 0) m v0) (r1:Rel w I (.ref 16 0 0) m v1) (r2:Rel w I (.ref 32 0 0) m v2) :
  CallsD Tryz.prog 28 #[v0,v1,v2] (.panicking [{ v:=.iface 53 (.agg #[.int .i64 k]),recovered:=false }]) w fun e u' w'=>e = .returned (.tuple #[]) /\ u' = .panicking [{ v:=.iface 53 (.agg #[.int .i64 k]),recovered:=true }] /\
   ∃ I' m',Fr 64 w w' I I' m m' (hpP q0 es0 k0) (hpC k) /\ HeapAt w' I' m' (hpC k) /\ ∀ i,800 <= i -> m' i = none:=by
 let mM:Names:=fun i=>if i < 64 then m i else none
 have HM:HeapAt w I mM hpM:=qQU H fun i b hi=>by
  simp only [hpM,qad] at hi
  split at hi
  ·rename_i e; subst e; cases hi; exact ⟨rfl,rfl,_,_,rfl,rfl⟩
  ·split at hi
   ·rename_i e; subst e; cases hi; exact ⟨rfl,rfl,_,_,rfl,rfl⟩
   ·split at hi
    ·rename_i e; subst e; cases hi; exact ⟨rfl,rfl,_,_,rfl,rfl⟩
    ·cases hi
 have hw:∀ b,Owns mM hpM b -> Owns m (hpP q0 es0 k0) b:=by
  rintro b ⟨i,x,L,hi,hL,hb⟩
  simp only [hpM,qad] at hi
  have hm:∀ j,j < 64 -> mM j = m j:=fun j hj=>by simp [mM,hj]
  split at hi
  ·rename_i e; subst e; exact ⟨32,_,L,rfl,by rw [<- hm 32 (by omega)]; exact hL,hb⟩
  ·split at hi
   ·rename_i e; subst e; exact ⟨16,_,L,rfl,by rw [<- hm 16 (by omega)]; exact hL,hb⟩
   ·split at hi
    ·rename_i e; subst e; exact ⟨0,_,L,rfl,by rw [<- hm 0 (by omega)]; exact hL,hb⟩
    ·cases hi
 obtain ⟨x,s',hx,hk⟩:=qbY (call:=fun _ _ _=>none) (loop:=fun _ _ _=>none) (fun R=>qGz) (qc6 _) (qW5 k)
 simp only [kC,Option.some.injEq,Prod.mk.injEq] at hk
 obtain ⟨hk1,hk2,hk3,_⟩:=hk
 have hxn:=qFz.1 hk1
 subst hxn
 have hcN:qef Tryz.prog (fun _ _ _=>none):=fun _ _ _ _ _ h=>by cases h
 refine callsD_of_wpS Tryz.func28 qUm fun c₀ cs hu=>?_
 apply wpS_seq
 apply wpS_region
 simp [wpOpsS,go_sem,recoverD,hu,Tryz.ntmps28,Exit.thenS]
 refine wpS_of_wp ?_
 refine qcm hcN qnu cC [] [] (icO 20 cC) okC _ _ _ hx w I mM _ _ ⟨?_,HM,?_,?_,rfl⟩ ?_
 ·intro t
  have e0:∀ i,i < 64 -> mM i = m i:=fun i hi=>by simp [mM,hi]
  have g:∀ (i:Nat) (v:Value),i < 64 -> Rel w I (.ref i 0 0) m v -> Rel w I (.ref i 0 0) mM v:=fun i v hi h=>by
   simp only [Rel] at h ⊢
   rw [e0 i hi]; exact h
  rcases qjy [(0,.ref 0 0 0),(1,.ref 16 0 0),(2,.ref 32 0 0),(3,.iface 53 (.agg [.int .i64 k]))] t with ⟨p,hp,rfl,h2⟩ | h2
  ·rw [h2]
   simp only [List.mem_cons,List.not_mem_nil,or_false] at hp
   rcases hp with rfl | rfl | rfl | rfl
   ·refine (?_:Rel w I (.ref 0 0 0) mM v0) |> fun h=>by simpa using h
    exact g 0 _ (by omega) r0
   ·refine (?_:Rel w I (.ref 16 0 0) mM v1) |> fun h=>by simpa using h
    exact g 16 _ (by omega) r1
   ·refine (?_:Rel w I (.ref 32 0 0) mM v2) |> fun h=>by simpa using h
    exact g 32 _ (by omega) r2
   ·have h:Rel w I (.iface 53 (.agg [.int .i64 k])) mM (.iface 53 (.agg #[.int .i64 k])):=by
     simp only [Rel,qaM]
     exact ⟨_,rfl,_,rfl,_,_,rfl,rfl,rfl⟩
    simpa using h
  ·rw [h2]; trivial
 ·intro i hi
  have:¬ i < 64:=by simp only at hi; omega
  simp [mM,this]
 ·simp
 ·rintro e a' w' ⟨I',m',f,rfl,F'⟩
  rw [hk2] at f
  have F2:=F'.hp
  rw [hk2] at F2
  refine ⟨F'.df,.panicking [{ v:=.iface 53 (.agg #[.int .i64 k]),recovered:=true }],by cases c₀; simp_all,.tuple #[],by simp [results,Tryz.results28],rfl,rfl,I',m',qKw f (fun i L hi hL=>by simp [mM,hi]; exact hL) hw,F2,by have:=F'.nx; rw [hk3] at this; exact this⟩
theorem finish {w:World} {I:Imm} {m:Names} (hm:∀ i,m i = none) {w2:World} {I2:Imm} {m2:Names} {hp:Eng.Heap} {k:Nat} (f:Fr k w w2 I I2 m m2 [] hp) (H2:HeapAt w2 I2 m2 hp) {u:Value} {v:AV} (hu:Rel w2 I2 v m2 u) :
  qJL w I m [] (.ret v) [] (.returned u) w2:=
 ⟨I2,m2,Aft.mk f.stays f.imm (fun i L hL=>by rw [hm i] at hL; cases hL) (H2.sub' (fun i b hi=>by cases (show none = some b from hi))) f.frame f.newI (fun b h=>by obtain ⟨i,x,L,hi,_⟩:=h; cases (show none = some x from hi)),u,rfl,hu⟩
theorem qIy {w:World} {I:Imm} {m:Names} {tm:Env} {hp:Eng.Heap} {nx k:Nat} {a:Act} (T:qhV w I m tm a) (H:HeapAt w I m hp) (hn:∀ i,nx <= i -> m i = none) {vs:List AV} (hv:qhd ⟨tm,hp,nx,k⟩ qWn = some vs) :
  ∃ u,(results Tryz.f10 a.tmps).run Tryz.prog w = .ok u w /\ Rel w I (Eng.one vs) m u:=
 qgr (a:={ tmps:=a.tmps,defers:=[] }) (s:=⟨tm,hp,nx,k⟩) (n:=0) (nx:=nx) ⟨T,H,hn,Nat.zero_le _,rfl⟩ q0d hv
theorem qSB {w:World} {I:Imm} {m:Names} {u:Value} {k f:Int} (h:Rel w I (.tup [exO,.int .i64 k,.int .i64 f]) m u):Rel w I (.tup [exZ,.int .i64 k,.int .i64 f]) m u:=by
 simp only [exO,exZ,Rel,qaM,qnt] at h ⊢
 obtain ⟨vs,rfl,_,_,rfl,⟨ws,rfl,_,_,rfl,rfl,_,_,rfl,rfl,_,_,rfl,rfl,_,_,rfl,rfl,rfl⟩,_,_,rfl,rfl,_,_,rfl,rfl,rfl⟩:=h
 exact ⟨_,rfl,_,_,rfl,⟨_,rfl,_,_,rfl,rfl,_,_,rfl,rfl,_,_,rfl,rfl,_,_,rfl,⟨_,_,rfl,by simp,by simp,by simp⟩,rfl⟩,_,_,rfl,rfl,_,_,rfl,rfl,rfl⟩
def q1l:Array Oper:=#[{ dst:=some 23,op:=.makeFunc (.func 28) #[] #[.tmp 4,.tmp 5,.tmp 6],type:=1,pos := "expr.go:274", after:=#[],guard:=none },
  { dst:=none,op:=.defer { callee:=.value (.tmp 23),args:=#[],argTypes:=#[] },type:=0,pos := "expr.go:274", after:=#[{ on:=0,ground:=.data }],guard:=none }]
theorem qYN:cD = .region 4 q1l false:=by kernel_rfl
theorem qKZ:qNf Tryz.prog 10 (qnR 29 17 53):=by
 intro call hc args h r h' hg w I m vs H hm hr
 have hg:qzj 29 17 53 call args h = some (r,h'):=hg
 obtain ⟨es,k,rfl,rfl,hcase⟩:=qnQ hg
 refine .inl ⟨⟨_,Tryz.func10,by kernel_rfl,by kernel_rfl⟩,?_⟩
 refine calls_of_wp_defers Tryz.func10 qUl ?_
 have hrl:=qaV hr
 have hm':∀ i,m i = none:=fun i=>hm i (Nat.zero_le _)
 have F0:Fits w I m [(0,.view 3 es),(1,.int .i64 k)] [] 0 38 { tmps:=vs.toArray ++ Array.replicate (Tryz.f10.ntmps - vs.toArray.size) undef,defers:=[] }:=by
  refine ⟨fun t=>?_,H,fun i _=>hm' i,?_,rfl⟩
  ·show Rel w I (qbO (params 0 [.view 3 es,.int .i64 k]) t) m _
   rw [qiG]
   simp only [Nat.zero_le,if_true,Nat.sub_zero]
   cases hq:([AV.view 3 es,.int .i64 k]:List AV)[t]? with
   | none=>simp [Rel]
   | some x=>
    obtain ⟨v,hv,hrel⟩:=qbP hr t x hq
    have hlt:t < vs.length:=(List.getElem?_eq_some_iff.1 hv).1
    have:(vs.toArray ++ Array.replicate (Tryz.f10.ntmps - vs.toArray.size) undef).getD t undef = v:=by
     rw [Array.getD_eq_getD_getElem?,Array.getElem?_append_left (by simpa using hlt)]
     simp [hv]
    rw [this]; exact hrel
  ·simp only [Array.size_append,List.size_toArray,Array.size_replicate,Tryz.ntmps10]
   omega
 generalize ({ tmps:=vs.toArray ++ Array.replicate (Tryz.f10.ntmps - vs.toArray.size) undef,defers:=[] }:Act) = a0 at F0 ⊢
 have hL0:qo7 Tryz.prog (fun _ _ _=>none):=qnu
 by_cases hk:k < 0 \/ (es.length:Int) < k
 ·
  have hr0:(r,h') = qHy exZ k 2:=by
   rcases hcase with ⟨_,h⟩ | ⟨h,_⟩
   ·exact h
   ·exact absurd hk h
  cases hr0
  have hV:V0 es k = some true:=by
   unfold V0
   by_cases h0:k < 0
   ·rw [decide_eq_true h0]; rfl
   ·rw [decide_eq_false h0]
    have:k > (es.length:Int):=by omega
    rw [decide_eq_true this]; rfl
  have ht:=qzD es k
  rw [hV] at ht
  obtain ⟨x,s',hx,hkk⟩:=qbY (call:=call) (loop:=fun _ _ _=>none) (fun R=>qGz) (qc6 _) ht
  simp only [kA,Option.some.injEq,Prod.mk.injEq] at hkk
  obtain ⟨q1,q2,q3,q4,q5,q6⟩:=hkk
  have hxr:=qFz.2 q1
  subst hxr
  refine qQz hc hx F0 fun e a' w' E=>?_
  refine qDO E (by simp) ?_
  obtain ⟨I',m',f,rfl,F'⟩:=E
  obtain ⟨u,hu,hru⟩:=qIy (k:=s'.k) F'.tm F'.hp F'.nx q2
  have hd:a'.defers = []:=F'.df
  simp only [bodyPostD,hd,Leaves]
  exact ⟨u,hu,finish hm' f F'.hp (qSB hru)⟩
 ·have hcase:_:=hcase.resolve_left fun h=>hk h.1
  replace hcase:=hcase.2
  have hV:V0 es k = some false:=by
   unfold V0
   rw [decide_eq_false (fun h=>hk (.inl h)),decide_eq_false (fun h=>hk (.inr h))]; rfl
  have ht:=qzD es k
  rw [hV] at ht
  obtain ⟨x,s',hx,hkk⟩:=qbY (call:=call) (loop:=fun _ _ _=>none) (fun R=>qGz) (qc6 _) ht
  simp only [kA,Option.some.injEq,Prod.mk.injEq,List.cons.injEq,and_true] at hkk
  obtain ⟨q1,q2,⟨t0,t1,t4,t5,t6,t7⟩,q4,q5,q6⟩:=hkk
  have hxr:=qFz.1 q1
  subst hxr
  refine qQz hc hx F0 fun e a1 w1 E=>?_
  obtain ⟨I1,m1,f1,rfl,F1⟩:=E
  show (cD.seq cB).wp _ _ _ _
  have T1:qhV w1 I1 m1 (stB es k).tm a1:=qIY F1.tm fun p hp=>by
   simp only [stB,List.mem_cons,List.not_mem_nil,or_false] at hp
   rcases hp with rfl | rfl | rfl | rfl | rfl | rfl <;> assumption
  have H1:HeapAt w1 I1 m1 (stB es k).hp:=by have:=F1.hp; rw [q4] at this; exact this
  have N1:∀ i,256 <= i -> m1 i = none:=by have:=F1.nx; rw [q5] at this; exact this
  have D1:a1.defers = []:=F1.df
  have S1:38 <= a1.tmps.size:=F1.sz
  rw [q4] at f1
  have r4:Rel w1 I1 (.ref 0 0 0) m1 (a1.tmps.getD 4 undef):=T1 4
  have r5:Rel w1 I1 (.ref 16 0 0) m1 (a1.tmps.getD 5 undef):=T1 5
  have r6:Rel w1 I1 (.ref 32 0 0) m1 (a1.tmps.getD 6 undef):=T1 6
  rw [qYN]
  apply wp_seq
  apply wp_region
  obtain ⟨L4,m4,v4⟩:∃ L,m1 0 = some L /\ a1.tmps.getD 4 undef = .pointer (some (ad L.blk (L.base + 0 * L.sz + 0))):=id r4
  obtain ⟨L5,m5,v5⟩:∃ L,m1 16 = some L /\ a1.tmps.getD 5 undef = .pointer (some (ad L.blk (L.base + 0 * L.sz + 0))):=id r5
  obtain ⟨L6,m6,v6⟩:∃ L,m1 32 = some L /\ a1.tmps.getD 6 undef = .pointer (some (ad L.blk (L.base + 0 * L.sz + 0))):=id r6
  generalize ad L4.blk (L4.base + 0 * L4.sz + 0) = A4 at v4
  generalize ad L5.blk (L5.base + 0 * L5.sz + 0) = A5 at v5
  generalize ad L6.blk (L6.base + 0 * L6.sz + 0) = A6 at v6
  have h23:23 < a1.tmps.size:=by omega
  rw [Array.getD_eq_getD_getElem?] at v4 v5 v6
  simp only [q1l,List.size_toArray,List.length_cons,List.length_nil,Nat.zero_add,Nat.reduceAdd]
  simp [wpOps,go_sem,List.range,List.range.loop,h23,v4,v5,v6,D1]
  refine .inl (.inl ?_)
  let d:Deferred:={ target:=.fn (.func 28) #[.pointer (some A4),.pointer (some A5),.pointer (some A6)],args:=#[] }
  let _inst:Dfs:=⟨[d]⟩
  have hT2:∀ v,qhV w1 I1 m1 (stB es k).tm { tmps:=a1.tmps.setIfInBounds 23 v,defers:=[d] }:=by
   intro v t
   rcases qjy (stB es k).tm t with ⟨p,hp,hpt,h2⟩ | h2
   ·have:=T1 t
    have hne:23 ≠ t:=by
     simp only [stB,List.mem_cons,List.not_mem_nil,or_false] at hp
     rcases hp with rfl | rfl | rfl | rfl | rfl | rfl <;> simp only at hpt <;> omega
    show Rel w1 I1 _ m1 ((a1.tmps.setIfInBounds 23 v).getD t undef)
    rw [Array.getD_eq_getD_getElem?,Array.getElem?_setIfInBounds_ne hne,<- Array.getD_eq_getD_getElem?]
    exact this
   ·rw [h2]; trivial
  have hF2:∀ v,Fits w1 I1 m1 (stB es k).tm (stB es k).hp (stB es k).nx 38 { tmps:=a1.tmps.setIfInBounds 23 v,defers:=[d] }:=fun v=>⟨hT2 v,H1,N1,by simpa using S1,rfl⟩
  have r4':Rel w1 I1 (.ref 0 0 0) m1 (.pointer (some A4)):=by rw [<- v4,<- Array.getD_eq_getD_getElem?]; exact r4
  have r5':Rel w1 I1 (.ref 16 0 0) m1 (.pointer (some A5)):=by rw [<- v5,<- Array.getD_eq_getD_getElem?]; exact r5
  have r6':Rel w1 I1 (.ref 32 0 0) m1 (.pointer (some A6)):=by rw [<- v6,<- Array.getD_eq_getD_getElem?]; exact r6
  have hi:∀ w:World,(invoke (.fn (.func 28) #[.pointer (some A4),.pointer (some A5),.pointer (some A6)]) #[]).run Tryz.prog w = .ok (.enter 28 #[.pointer (some A4),.pointer (some A5),.pointer (some A6)]) w:=fun w=>by simp [go_sem]
  rcases hcase with ⟨o,n,st,q,xs,q0,es0,k',f,c1,c2,hr0⟩ | ⟨k',q0,es0,k0,c1,hr0⟩
  ·let b1:List AV -> Int -> Bool:=fun es' k''=>@decide (es' = es /\ k'' = k) (Classical.propDecidable _)
   let b2:AV -> Bool:=fun v=>@decide (v = .agg [.int .i64 o,.int .i64 n,.str st,.view q xs]) (Classical.propDecidable _)
   have hb1:b1 es k = true:=@decide_eq_true _ (Classical.propDecidable _) ⟨rfl,rfl⟩
   have hb2:b2 (.agg [.int .i64 o,.int .i64 n,.str st,.view q xs]) = true:=@decide_eq_true _ (Classical.propDecidable _) rfl
   have tB:=qW4 es k b1 b2 o n st q xs q0 es0 k' f
   rw [hb1,hb2] at tB
   have hcK:=qUr (call:=call) (b1:=b1) (r1:=.ret (.agg [.int .i64 o,.int .i64 n,.str st,.view q xs])) (h1:=[(0,.box [.view q0 es0,.int .i64 k'] false)]) (b2:=b2) (r2:=f)
    (fun es' k'' h=>by
     obtain ⟨rfl,rfl⟩:=@of_decide_eq_true _ (Classical.propDecidable _) h
     exact c1) (fun v h=>by
     obtain rfl:=@of_decide_eq_true _ (Classical.propDecidable _) h
     exact c2)
   have fin:∀ (x:X) (s2:St),qdc IP call (fun _ _ _=>none) (icO 38 cB) (stB es k) = some (x,s2) -> x = .ret -> ∀ (e:AV) (k2 f2:Int),qhd s2 qWn = some [e,.int .i64 k2,.int .i64 f2] ->
     (∀ {w:World} {I:Imm} {m:Names} {u:Value},Rel w I (.tup [e,.int .i64 k2,.int .i64 f2]) m u -> ∃ v,r = .ret v /\ h' = [] /\ Rel w I v m u) -> ∀ v,Code.wp Tryz.prog cB (bodyPostD Tryz.prog Tryz.f10 (qJL w I m [] r h')) { tmps:=a1.tmps.setIfInBounds 23 v,defers:=[d] } w1:=by
    intro x s2 hx2 hxr e k2 f2 hres hrel v
    subst hxr
    refine qcm hc qnu cB [] [] (icO 38 cB) okB _ _ _ hx2 w1 I1 m1 _ _ (hF2 v) fun e a3 w3 E=>?_
    obtain ⟨I3,m3,f3,rfl,F3⟩:=E
    have hd3:a3.defers = [d]:=F3.df
    obtain ⟨u,hu,hru⟩:=qIy (k:=s2.k) F3.tm F3.hp F3.nx hres
    simp only [bodyPostD,hd3]
    refine leaves_cons (by simp) (hi w3) ?_
    refine (qzV _ _ _ w3).mono ?_
    rintro e u' w4 ⟨rfl,rfl,rfl⟩
    simp only [settle,Leaves]
    obtain ⟨v',rfl,rfl,hv'⟩:=hrel hru
    exact ⟨u,hu,finish hm' (f1.trans f3) F3.hp hv'⟩
   by_cases hf:f = 0
   ·subst hf
    rw [if_pos rfl] at hr0
    cases hr0
    obtain ⟨x,s2,hx2,hk2⟩:=qbY (call:=call) (loop:=fun _ _ _=>none) (fun R=>hcK R) (qc6 _) tB
    simp only [kB,Option.some.injEq,Prod.mk.injEq] at hk2
    obtain ⟨p1,p2,p3,_⟩:=hk2
    exact fin x s2 hx2 (qFz.2 p1) _ _ _ p3 (fun h=>⟨_,rfl,rfl,h⟩) _
   ·rw [if_neg hf] at hr0
    cases hr0
    have hfb:(f != 0) = true:=by simpa using hf
    rw [hfb] at tB
    obtain ⟨x,s2,hx2,hk2⟩:=qbY (call:=call) (loop:=fun _ _ _=>none) (fun R=>hcK R) (qc6 _) tB
    simp only [kB,Option.some.injEq,Prod.mk.injEq] at hk2
    obtain ⟨p1,p2,p3,_⟩:=hk2
    exact fin x s2 hx2 (qFz.2 p1) _ _ _ p3 (fun h=>⟨_,rfl,rfl,qSB h⟩) _
  ·cases hr0
   let b1:List AV -> Int -> Bool:=fun es' k''=>@decide (es' = es /\ k'' = k) (Classical.propDecidable _)
   have hb1:b1 es k = true:=@decide_eq_true _ (Classical.propDecidable _) ⟨rfl,rfl⟩
   have tB:=qW6 es k b1 (fun _=>false) q0 es0 k' k0 0
   rw [hb1] at tB
   have hcK:=qUr (call:=call) (b1:=b1) (r1:=.pan (.iface 53 (.agg [.int .i64 k']))) (h1:=[(0,.box [.view q0 es0,.int .i64 k0] false)]) (b2:=fun _=>false) (r2:=0)
    (fun es' k'' h=>by
     obtain ⟨rfl,rfl⟩:=@of_decide_eq_true _ (Classical.propDecidable _) h
     exact c1) (fun v h=>by cases h)
   obtain ⟨x,s2,hx2,hk2⟩:=qbY (call:=call) (loop:=fun _ _ _=>none) (fun R=>hcK R) (qc6 _) tB
   simp only [kB,Option.some.injEq,Prod.mk.injEq,List.cons.injEq,and_true] at hk2
   obtain ⟨p1,p2,p3,⟨g4,g5,g6⟩,p5,p6,p7⟩:=hk2
   cases x with
   | normal=>cases p1
   | ret=>cases p1
   | exit j=>cases p1
   | pan v=>
    simp only at p2
    subst p2
    refine qcm hc qnu cB [] [] (icO 38 cB) okB _ _ _ hx2 w1 I1 m1 _ _ (hF2 _) fun e a3 w3 E=>?_
    obtain ⟨I3,m3,f3,hd3,H3,T3,u,rfl,hu⟩:=E
    have hd3:a3.defers = [d]:=hd3
    have hu':u = .iface 53 (.agg #[.int .i64 k']):=by
     simp only [Rel,qaM] at hu
     obtain ⟨y,rfl,ws,rfl,_,_,rfl,rfl,rfl⟩:=hu
     rfl
    subst hu'
    rw [p5] at H3 f3
    have up:∀ (i:Nat) (v:Value),i < 64 -> Rel w1 I1 (.ref i 0 0) m1 v -> Rel w3 I3 (.ref i 0 0) m3 v:=fun i v hi h=>by
     simp only [Rel] at h ⊢
     obtain ⟨L,hL,hv⟩:=h
     exact ⟨L,f3.names i L hi hL,hv⟩
    simp only [bodyPostD,hd3]
    refine leaves_cons (by simp) (hi w3) ?_
    refine (qv8 (k:=k') H3 (up 0 _ (by omega) r4') (up 16 _ (by omega) r5') (up 32 _ (by omega) r6')).mono ?_
    rintro e u' w4 ⟨rfl,rfl,I4,m4,f4,H4,N4⟩
    have T4:qhV w4 I4 m4 [(4,.ref 0 0 0),(5,.ref 16 0 0),(6,.ref 32 0 0)] a3:=by
     intro t
     have up4:∀ (i:Nat) (v:Value),i < 64 -> Rel w3 I3 (.ref i 0 0) m3 v -> Rel w4 I4 (.ref i 0 0) m4 v:=fun i v hi h=>by
      simp only [Rel] at h ⊢
      obtain ⟨L,hL,hv⟩:=h
      exact ⟨L,f4.names i L hi hL,hv⟩
     rcases qjy [(4,.ref 0 0 0),(5,.ref 16 0 0),(6,.ref 32 0 0)] t with ⟨p,hp,hpt,h2⟩ | h2
     ·rw [h2]
      simp only [List.mem_cons,List.not_mem_nil,or_false] at hp
      have:=T3 t
      rcases hp with rfl | rfl | rfl <;> subst hpt
      ·rw [g4] at this; exact up4 0 _ (by omega) this
      ·rw [g5] at this; exact up4 16 _ (by omega) this
      ·rw [g6] at this; exact up4 32 _ (by omega) this
     ·rw [h2]; trivial
    obtain ⟨u,hu,hru⟩:=qIy (k:=64) (nx:=800) T4 H4 N4 (vs:=[exO,.int .i64 k',.int .i64 2]) (by kernel_rfl)
    simp only [settle,List.dropWhile,Leaves]
    exact ⟨u,hu,finish hm' ((f1.trans f3).trans f4) H4 (qSB hru)⟩
end Go.Proofs.H10

/- A machine of plain values, and that what it says holds of the program. -/
import Derived.Test.YtbieppilagmdjaaGreatDoorE3
import Derived.Below
import Derived.Shelf.Strings.Fields
import Derived.Shelf.Strings.Count
import Derived.Shelf.Strings.Search1
import Derived.Shelf.Strconv.ParseIntPublic10
import Derived.Shelf.Strconv.AtoiAll
import Derived.Shelf.Strconv.Itoa4
import Derived.Stop.LaidErr
import Derived.Lib.LaidTab
import Derived.Laws.Externs
import Derived.Shelf.Spec.BitsCarry
import Derived.Shelf.Bits.Mul64
import Derived.Shelf.Small.Bits
set_option linter.unusedVariables false
set_option linter.unusedSimpArgs false
set_option linter.unnecessarySimpa false
namespace Go.Eng
set_option linter.unusedSectionVars false
variable [Globs]
theorem qgJ {w w':World} {I:Imm} (ho:∀ b o,I b o -> b < w.heap.size) (hb:RowKit.Below w.heap.size w w'):Stays w w' I where
 size:=hb.size
 row:=fun b C e h=>⟨C,by rw [hb.block b (Array.getElem?_eq_some_iff.1 h).1]; exact h,rfl⟩
 imm:=fun b o hi=>by simp only [World.cell?,ad]; rw [hb.block b (ho b o hi)]
 out:=⟨hb.os,hb.output,hb.tape⟩
theorem qzd {w w':World} {I I':Imm} {m:Names} {h:Heap} (H:HeapAt w I m h) (hb:RowKit.Below w.heap.size w w') (hI:∀ b o,I b o -> I' b o) (hN:∀ b o,I' b o -> I b o \/ w.heap.size <= b /\ b < w'.heap.size):Aft w w' I I' m m h h where
 stays:=qgJ H.old hb
 imm:=hI
 names:=fun _ _ h=>h
 heap:={
  at_:=fun i b hi=>by
   obtain ⟨L,hL,hat⟩:=H.at_ i b hi
   refine ⟨L,hL,hat.keep (qgJ H.old hb) hI (fun _ _ h=>h) (hb.block _ hat.lt) fun o ho=>?_⟩
   rcases hN _ _ ho with h | h
   ·exact h
   ·have:=hat.lt; omega
  apart:=H.apart
  old:=fun b o hi=>by
   rcases hN b o hi with h | h
   ·exact Nat.lt_of_lt_of_le (H.old b o h) hb.size
   ·exact h.2
  glob:=H.glob.mono (qgJ H.old hb) hI }
 frame:=fun b hlt _=>hb.block b hlt
 newI:=fun b o hi=>(hN b o hi).imp id fun h=>.inr h.1
 owns:=fun _ h=>.inl h
theorem qb7 {w w':World} {I:Imm} {m:Names} {h:Heap} (H:HeapAt w I m h) (hb:RowKit.Below w.heap.size w w') {v:AV} {u:Value} (hu:Rel w' I v m u):Post w I m h (.ret v) h (.returned u) w':=
 ⟨I,m,qzd H hb (fun _ _ h=>h) fun _ _ h=>.inl h,u,rfl,hu⟩
def gOf (E:Ent):List AV -> Heap -> Option (Res × Heap):=fun a h=>((E a h).find? fun p=>p.1).map fun p=>p.2
theorem qmk {IP:Prog} {f:Nat} {E:Ent} (hF:IP.fn f = none) (hS:IP.spec f = some (gOf E)) (h1:∀ a h p q,p ∈ E a h -> q ∈ E a h -> p.1 = true -> q.1 = true -> p.2 = q.2):Snd IP f E:=by
 intro a h r h' hm
 refine qhE hF hS ?_
 unfold gOf
 cases hq:(E a h).find? fun p=>p.1 with
 | none=>exact absurd rfl (List.find?_eq_none.1 hq _ hm)
 | some q=>
  have hp:=List.find?_some hq
  rw [Option.map_some,h1 a h q _ (List.mem_of_find?_eq_some hq) hm hp rfl]
theorem qfK {P:Program} {f:Nat} {E:Ent} (hE:qc0 P f) (h1:∀ a h r h',(true,r,h') ∈ E a h -> ∀ (w:World) (I:Imm) (m:Names) (vs:List Value),HeapAt w I m h -> qaw w I a m vs -> Calls P f vs.toArray w (Post w I m h r h')):qdU P f (gOf E):=by
 intro a h r h' hg
 unfold gOf at hg
 rw [Option.map_eq_some_iff] at hg
 obtain ⟨⟨b,q⟩,hq,rfl⟩:=hg
 have hb:=List.find?_some hq
 have hm:=List.mem_of_find?_eq_some hq
 simp only at hb
 subst hb
 exact fun w I m vs H _ hr=>.inl ⟨hE,h1 a h r h' hm w I m vs H hr⟩
end Go.Eng
namespace Go.Eng
open Go.Shelf Go.Proofs
set_option linter.unusedSectionVars false
variable [Globs]
theorem qA7 {w:World} {I:Imm} (hg:GlobAt w I) {g:Nat} {cs:List AV} (h:Globs.g g = some cs) {i:Nat} {c:AV} (hc:cs[i]? = some c):∃ v,w.cell? (ad g i) = some v /\ Rel w I c m0 v:=by
 obtain ⟨_,_,v,hv,hr⟩:=qbr.1 (hg g cs h).1 i c hc
 rw [Nat.zero_add] at hv
 exact ⟨v,hv,hr⟩
theorem qh2 {E:Ent} (h:∀ a h,(E a h).length <= 1):∀ a h p q,p ∈ E a h -> q ∈ E a h -> p.1 = true -> q.1 = true -> p.2 = q.2:=by
 intro a b p q hp hq _ _
 have:=h a b
 match E a b,this,hp,hq with
 | [x],_,hp,hq=>rw [List.mem_singleton.1 hp,List.mem_singleton.1 hq]
end Go.Eng
namespace Go.Eng
open Go.Shelf Go.Proofs
set_option linter.unusedSectionVars false
variable [Globs]
def nOk:Lib.NumEnd Int -> Bool
 | .ok _=>true
 | _=>false
theorem quQ {P:Program} {w:World} {I:Imm} (hg:GlobAt w I) {g:Nat} {k:IntKind} {zs:List Int} {name:String} (hn:P.globalNamed name = some g) (h:Globs.g g = some (zs.map (.int k))):Lib.TabIs P w name k zs:=by
 obtain ⟨_,C,e,hC,hs⟩:=hg g _ h
 unfold Lib.TabIs World.var?
 simp only [hn,Option.bind_some,hC,Option.some.injEq]
 apply Array.ext
 ·simpa using hs
 ·intro i h1 h2
  have hi:i < zs.length:=by simpa using h2
  obtain ⟨v,hv,hr⟩:=qA7 hg h (i:=i) (c:=.int k zs[i]) (by simp [hi])
  simp only [Rel] at hr
  subst hr
  rw [qcb hC,Array.getElem?_eq_getElem h1,Option.some.injEq] at hv
  simpa using hv
theorem qls (w:World) (q:Nat) (os:Array Obj):RowKit.Below w.heap.size w (Sort.grow (w.drewN q) os):=
 ⟨rfl,rfl,rfl,by simp [Sort.grow,World.drewN],fun i hi=>by
  show ((w.drewN q).heap ++ os)[i]? = _
  rw [Array.getElem?_append_left (by show i < w.heap.size; omega)]
  rfl⟩
def qkk:Ent:=fun a h=>match a,h with
 | [.int .i64 n],[]=>[(decide (-9223372036854775808 <= n) && decide (n <= 9223372036854775807),.ret (.str (Lib.itoa n)),[])]
 | _,_=>[]
theorem qw0:∀ a h,(qkk a h).length <= 1:=by intro a h; unfold qkk; split <;> simp
theorem qw1 {P:Program} {ρ:Ren} (L:LaysM.n171 P ρ) (hE:qc0 P (ρ.f 171)) {g:Nat} (hgg:P.globalNamed "internal/strconv.uint64pow10" = some g) (h1:Globs.g g = some (Lib.pow10Tab.map (.int .u64))):qdU P (ρ.f 171) (gOf qkk):=by
 refine qfK hE fun a h r h' hm w I m vs H hr=>?_
 unfold qkk at hm
 split at hm
 ·rename_i n
  simp only [List.mem_singleton,Prod.mk.injEq,eq_comm (a:=true),Bool.and_eq_true,decide_eq_true_eq] at hm
  obtain ⟨⟨g0,g1⟩,rfl,rfl⟩:=hm
  simp only [qaw,Rel] at hr
  obtain ⟨_,_,rfl,rfl,rfl⟩:=hr
  refine (Any.strconv_Itoa L n g0 g1 w (quQ H.glob hgg h1)).mono ?_
  rintro e w' ⟨rfl,k,os,rfl⟩
  refine qb7 H ?_ (by simp [Rel])
  exact qls _ _ _
 ·cases hm
end Go.Eng
namespace Go.Eng
open Go.Shelf
set_option linter.unusedSectionVars false
theorem qvg {P:Program} {W:World} {n:String} {d:DataW Unit} {r:List (String × DataW Unit)} (h:laidMet P ((n,d) :: r) W) {g:Nat} (hg:P.globalNamed n = some g) {cs:Array Value} (hv:W.var? P n = some cs) (hne:0 < cs.size):∃ e,W.heap[g]? = some (.cells cs e (0,0)):=by
 obtain ⟨ps,⟨g0,t0,cs0,f0,p0,q0,hg0,ht0,hv0,hd0,_,e0⟩,_,hrows⟩:=h
 obtain rfl:=Option.some.inj (hg.symm.trans hg0)
 obtain rfl:=Option.some.inj (hv.symm.trans hv0)
 subst e0
 obtain ⟨c,t,hc⟩:=(hrows g 0 (by
  simp only [MemPlace.row,List.mem_append]
  exact .inl (.inl (by simp; omega)))).1
 unfold World.var? at hv
 rw [hg,Option.bind_some,hc] at hv
 cases hv
 exact ⟨t,hc⟩
def qpk (W:World) (I:Imm) (g:Nat) (cs:List AV):Prop:=∃ (C:Array Value) (e:TypeId),W.heap[g]? = some (Obj.cells C e (0,0)) /\ C.size = cs.length /\ ∀ (i:Nat) (c:AV),cs[i]? = some c -> qaR c = true /\ ∃ v,C[i]? = some v /\ Rel W I c m0 v
theorem qsK {P:Program} {W:World} {I:Imm} {n:String} {k:IntKind} {zs:List Int} {r:List (String × DataW Unit)} (h:laidMet P ((n,Lib.tabData k zs) :: r) W) {g:Nat} {t e:TypeId} {m:Nat}
  (hg:P.globalNamed n = some g) (hty:(P.globals[g]?).map (·.type) = some t) (ht:P.underlying t = some (.array m e)) (he:P.underlying e = some (.int k)) (hce:P.cellsOf e = 1) (hct:P.cellsOf t = m) (hz:0 < zs.length):qpk W I g (zs.map (.int k)):=by
 have hv:=Lib.tabIs_of_head hg hty ht he hce hct h
 unfold Lib.TabIs at hv
 obtain ⟨e',hC⟩:=qvg h hg hv (by simpa using hz)
 refine ⟨_,e',hC,by simp,fun i c hc=>?_⟩
 rw [List.getElem?_map,Option.map_eq_some_iff] at hc
 obtain ⟨z,hz,rfl⟩:=hc
 exact ⟨rfl,.int k z,by simp [hz],by simp [Rel]⟩
theorem qNM [Globs] {W:World} {I0:Imm} (h:∀ g cs,Globs.g g = some cs -> qpk W (fun b o=>I0 b o \/ ∃ cs,Globs.g b = some cs /\ o < cs.length) g cs):GlobAt W (fun b o=>I0 b o \/ ∃ cs,Globs.g b = some cs /\ o < cs.length):=by
 intro g cs hg
 obtain ⟨C,e,hC,hsz,hall⟩:=h g cs hg
 refine ⟨qbr.2 fun i c hc=>?_,C,e,hC,hsz⟩
 obtain ⟨h1,v,hv,hr⟩:=hall i c hc
 refine ⟨.inr ⟨cs,hg,by rw [Nat.zero_add]; exact (List.getElem?_eq_some_iff.1 hc).1⟩,h1,v,?_,hr⟩
 rw [Nat.zero_add]
 exact (qcb hC).trans hv
theorem qNN [Globs] {W:World} {I0 I:Imm} (h:∀ g cs,Globs.g g = some cs -> qpk W I g cs) (h0:∀ b o,I0 b o -> b < W.heap.size):∀ b o,(I0 b o \/ ∃ cs,Globs.g b = some cs /\ o < cs.length) -> b < W.heap.size:=by
 rintro b o (hb | ⟨cs,hg,_⟩)
 ·exact h0 b o hb
 ·obtain ⟨C,e,hC,_⟩:=h b cs hg
  exact (Array.getElem?_eq_some_iff.1 hC).1
end Go.Eng
namespace Go.Eng
open Go.Proofs
set_option linter.unusedSectionVars false
variable [Globs]
def qeg (x:Int):Bool:=decide (0 <= x) && decide (x < 18446744073709551616)
def qjz:Ent:=fun a h=>match a,h with
 | [.int .u64 x,.int .u64 y,.int .u64 c],[]=>[(qeg x && qeg y && (decide (0 <= c) && decide (c <= 1)),.ret (.tup [.int .u64 ((x + y + c) % 18446744073709551616),.int .u64 ((x + y + c) / 18446744073709551616)]),[])]
 | _,_=>[]
theorem qwe:∀ a h,(qjz a h).length <= 1:=by intro a h; unfold qjz; split <;> simp
def qk2:Ent:=fun a h=>match a,h with
 | [.int .u64 x,.int .u64 y,.int .u64 c],[]=>[(qeg x && qeg y && (decide (0 <= c) && decide (c <= 1)),.ret (.tup [.int .u64 ((x - y - c) % 18446744073709551616),.int .u64 (if x < y + c then 1 else 0)]),[])]
 | _,_=>[]
theorem qxy:∀ a h,(qk2 a h).length <= 1:=by intro a h; unfold qk2; split <;> simp
structure ExtIs (P:Program) (f:Nat) (e:Array Value -> Sem Value):Prop where
 is:∃ fn,P.funcs[f]? = some fn /\ (fn.name == "runtime.NumGoroutine") = false /\ fn.body.isNone = true /\ Extern.findNext fn = none /\ Extern.find fn = some e
theorem ExtIs.run {P:Program} {f:Nat} {e:Array Value -> Sem Value} (h:ExtIs P f e) (args:Array Value) (w:World):(callFunc f args).run P w = ((e args).run P w).andThen fun v w'=>.ok (.value v) w':=by
 obtain ⟨fn,h1,h2,h3,h4,h5⟩:=h.is
 exact run_callFunc_extern h1 h2 h3 h4 h5 args w
theorem qwf {P:Program} {f:Nat} (hE:ExtIs P f add64Entry):qdU P f (gOf qjz):=by
 intro a h r h' hg w I m vs H hnm hr
 unfold gOf at hg
 rw [Option.map_eq_some_iff] at hg
 obtain ⟨⟨b,q⟩,hq,rfl⟩:=hg
 have hb:=List.find?_some hq
 have hm:=List.mem_of_find?_eq_some hq
 simp only at hb
 subst hb
 unfold qjz at hm
 split at hm
 ·rename_i x y c
  simp only [List.mem_singleton,Prod.mk.injEq,eq_comm (a:=true),Bool.and_eq_true,decide_eq_true_eq,qeg] at hm
  obtain ⟨⟨⟨⟨x0,x1⟩,y0,y1⟩,c0,c1⟩,rfl,rfl⟩:=hm
  simp only [qaw,Rel] at hr
  obtain ⟨_,_,rfl,rfl,_,_,rfl,rfl,_,_,rfl,rfl,rfl⟩:=hr
  refine .inr ⟨.tuple #[.int .u64 ((x + y + c) % 18446744073709551616),.int .u64 ((x + y + c) / 18446744073709551616)],?_,?_⟩
  ·rw [hE.run,run_add64 x y c x0 y0 c0 c1]
   rfl
  ·refine qb7 H (RowKit.Below.refl _ _) ?_
   simp only [Rel,qaw]
   exact ⟨_,rfl,_,_,rfl,rfl,_,_,rfl,rfl,rfl⟩
 ·cases hm
theorem qxz {P:Program} {f:Nat} (hE:ExtIs P f sub64Entry):qdU P f (gOf qk2):=by
 intro a h r h' hg w I m vs H hnm hr
 unfold gOf at hg
 rw [Option.map_eq_some_iff] at hg
 obtain ⟨⟨b,q⟩,hq,rfl⟩:=hg
 have hb:=List.find?_some hq
 have hm:=List.mem_of_find?_eq_some hq
 simp only at hb
 subst hb
 unfold qk2 at hm
 split at hm
 ·rename_i x y c
  simp only [List.mem_singleton,Prod.mk.injEq,eq_comm (a:=true),Bool.and_eq_true,decide_eq_true_eq,qeg] at hm
  obtain ⟨⟨⟨⟨x0,x1⟩,y0,y1⟩,c0,c1⟩,rfl,rfl⟩:=hm
  simp only [qaw,Rel] at hr
  obtain ⟨_,_,rfl,rfl,_,_,rfl,rfl,_,_,rfl,rfl,rfl⟩:=hr
  obtain ⟨x,rfl⟩:∃ n:Nat,x = (n:Int):=⟨x.toNat,by omega⟩
  obtain ⟨y,rfl⟩:∃ n:Nat,y = (n:Int):=⟨y.toNat,by omega⟩
  obtain ⟨c,rfl⟩:∃ n:Nat,c = (n:Int):=⟨c.toNat,by omega⟩
  refine .inr ⟨.tuple #[.int .u64 (((x:Int) - y - c) % 18446744073709551616),.int .u64 (if (x:Int) < y + c then 1 else 0)],?_,?_⟩
  ·rw [hE.run,run_sub64 x y c (by omega)]
   have e1:(((x + 18446744073709551616 - y - c) % 18446744073709551616:Nat):Int) = ((x:Int) - y - c) % 18446744073709551616:=by omega
   have e2:((if x < y + c then 1 else 0:Nat):Int) = (if (x:Int) < y + c then 1 else 0):=by
    by_cases h:x < y + c
    ·rw [if_pos h,if_pos (by omega)]; rfl
    ·rw [if_neg h,if_neg (by omega)]; rfl
   rw [e1,e2]
   rfl
  ·refine qb7 H (RowKit.Below.refl _ _) ?_
   simp only [Rel,qaw]
   exact ⟨_,rfl,_,_,rfl,rfl,_,_,rfl,rfl,rfl⟩
 ·cases hm
end Go.Eng
namespace Go.Eng
open Go.Shelf Go.Proofs
set_option linter.unusedSectionVars false
variable [Globs]
def qkw:Ent:=fun a h=>match a,h with
 | [.int .u64 x,.int .u64 y],[]=>[(qeg x && qeg y,.ret (.tup [.int .u64 (x * y / 18446744073709551616),.int .u64 (x * y % 18446744073709551616)]),[])]
 | _,_=>[]
theorem qxd:∀ a h,(qkw a h).length <= 1:=by intro a h; unfold qkw; split <;> simp
def qsR:Ent:=fun a h=>match a,h with
 | [.int .u64 x],[]=>[(qeg x,.ret (.int .i64 (64 - (Lib.bitLen x.toNat:Int))),[])]
 | _,_=>[]
theorem qCd:∀ a h,(qsR a h).length <= 1:=by intro a h; unfold qsR; split <;> simp
theorem qxe {P:Program} {ρ:Ren} (L:Lays.n264 P ρ) (hE:qc0 P (ρ.f 264)):qdU P (ρ.f 264) (gOf qkw):=by
 refine qfK hE fun a h r h' hm w I m vs H hr=>?_
 unfold qkw at hm
 split at hm
 ·rename_i x y
  simp only [List.mem_singleton,Prod.mk.injEq,eq_comm (a:=true),Bool.and_eq_true,decide_eq_true_eq,qeg] at hm
  obtain ⟨⟨⟨x0,x1⟩,y0,y1⟩,rfl,rfl⟩:=hm
  simp only [qaw,Rel] at hr
  obtain ⟨_,_,rfl,rfl,_,_,rfl,rfl,rfl⟩:=hr
  obtain ⟨x,rfl⟩:∃ n:Nat,x = (n:Int):=⟨x.toNat,by omega⟩
  obtain ⟨y,rfl⟩:∃ n:Nat,y = (n:Int):=⟨y.toNat,by omega⟩
  refine (Any.bits_Mul64 L x y (by omega) (by omega) w).mono ?_
  rintro e w' ⟨rfl,rfl⟩
  refine qb7 H (RowKit.Below.refl _ _) ?_
  simp only [Rel,qaw]
  exact ⟨_,rfl,_,_,rfl,by simp,_,_,rfl,by simp,rfl⟩
 ·cases hm
theorem qCe {P:Program} {ρ:Ren} (L:Lays.n134 P ρ) (hE:qc0 P (ρ.f 134)):qdU P (ρ.f 134) (gOf qsR):=by
 refine qfK hE fun a h r h' hm w I m vs H hr=>?_
 unfold qsR at hm
 split at hm
 ·rename_i x
  simp only [List.mem_singleton,Prod.mk.injEq,eq_comm (a:=true),Bool.and_eq_true,decide_eq_true_eq,qeg] at hm
  obtain ⟨⟨x0,x1⟩,rfl,rfl⟩:=hm
  simp only [qaw,Rel] at hr
  obtain ⟨_,_,rfl,rfl,rfl⟩:=hr
  refine (Any.bits_LeadingZeros64 L x w x0 (by omega)).mono ?_
  rintro e w' ⟨rfl,rfl⟩
  exact qb7 H (RowKit.Below.refl _ _) (by simp [Rel])
 ·cases hm
end Go.Eng
namespace Go.Eng
open Go.Shelf
theorem qmH {V:Type} {f g:Int × Int -> V} {cs:List V}:∀ (zs:List (Int × Int)) (i:Nat),(∀ j z,zs[j]? = some z -> (cs.drop (2 * (i + j))).take 2 = [f z,g z]) -> cs.length = 2 * (i + zs.length) -> cs.drop (2 * i) = zs.flatMap fun z=>[f z,g z]
 | [],i,_,hl=>by
  rw [List.drop_eq_nil_of_le (by simp at hl; omega)]; rfl
 | z :: zs,i,h,hl=>by
  have h0:=h 0 z rfl
  rw [Nat.add_zero] at h0
  have ih:=qmH (f:=f) (g:=g) (cs:=cs) zs (i + 1) (fun j y hy=>by
   have:=h (j + 1) y (by simpa using hy)
   rwa [show i + (j + 1) = i + 1 + j by omega] at this) (by simp at hl; omega)
  rw [<- List.take_append_drop 2 (cs.drop (2 * i)),h0,List.drop_drop,show 2 * i + 2 = 2 * (i + 1) by omega,ih]
  rfl
theorem qlu {H:Type} {enc:TypeId × Value -> H} {P:Program} {w:World} {base:Nat} {sp:Nat -> Bool} {held:Bool} {fuel:Nat} {t e ti:TypeId} {n:Nat} {k:IntKind} {f1 f2:Field} {cs:List Value} {zs:List (Int × Int)} {p:List MemPlace}
  (ht:P.underlying t = some (.array n e)) (he:P.underlying e = some (.struct #[f1,f2])) (h1:f1.type = ti) (h2:f2.type = ti) (o1:f1.offset = 0) (o2:f2.offset = 1) (hi:P.underlying ti = some (.int k)) (hci:P.cellsOf ti = 1) (hce:P.cellsOf e = 2) (hct:P.cellsOf t = n * 2)
  (h:DataW.trod enc P w base sp held fuel t cs = some (.agg (zs.map fun z=>.agg [.lit (.int k z.1),.lit (.int k z.2)]),p)):cs = zs.flatMap fun z=>[Value.int k z.1,Value.int k z.2]:=by
 cases fuel with
 | zero=>simp [DataW.trod] at h
 | succ fuel=>
  simp only [DataW.trod,ht,hce,hct] at h
  split at h
  ·rename_i hl
   obtain ⟨xs,hm,hx⟩:=Option.map_eq_some_iff.1 h
   have hxs:xs.map (·.1) = zs.map fun z=>(DataW.agg [.lit (.int k z.1),.lit (.int k z.2)]:DataW H):=by
    have:=congrArg Prod.fst hx
    simpa using this
   have hxl:xs.length = n:=by simpa using Lib.mapM_length hm
   have hzl:zs.length = n:=by
    have:=congrArg List.length hxs
    simp at this
    omega
   refine qmH (f:=fun z=>Value.int k z.1) (g:=fun z=>Value.int k z.2) (cs:=cs) zs 0 (fun j z hz=>?_) (by omega)
   have hj:j < n:=by
    have:=(List.getElem?_eq_some_iff.1 hz).1
    omega
   obtain ⟨b,hb,hf⟩:=Lib.mapM_at hm j j (by simp [hj])
   obtain ⟨ys,m,_,rfl,hlen,hys,hall⟩:=DataW.trod_struct he hf
   have a1:=hall 0 f1 rfl
   have a2:=hall 1 f2 rfl
   rw [h1,o1,hci] at a1
   rw [h2,o2,hci] at a2
   obtain ⟨ya,yb,rfl⟩:∃ a b,ys = [a,b]:=by
    match ys,hys with
    | [a,b],_=>exact ⟨a,b,rfl⟩
   obtain ⟨x,c1,d1,_⟩:=DataW.trod_int hi a1
   obtain ⟨y,c2,d2,_⟩:=DataW.trod_int hi a2
   have e2:(xs.map (·.1))[j]? = some (DataW.agg ([ya,yb].map (·.1)):DataW H):=by simp [hb]
   rw [hxs,d1,d2] at e2
   simp only [List.getElem?_map,hz,Option.map_some,Option.some.injEq,DataW.agg.injEq,List.map_cons,List.map_nil,List.cons.injEq,DataW.lit.injEq,Lit.int.injEq,true_and,and_true] at e2
   rw [Nat.zero_add,Nat.mul_comm 2 j]
   generalize hq:(cs.drop (j * 2)).take 2 = q at c1 c2 hlen ⊢
   rw [hce] at hlen
   match q,hlen with
   | [a,b],_=>
    simp at c1 c2
    rw [c1,c2,e2.1,e2.2]
  ·cases h
theorem qnq {P:Program} {W:World} {I:Imm} {n:String} {k:IntKind} {zs:List (Int × Int)} {r:List (String × DataW Unit)} (h:laidMet P ((n,.agg (zs.map fun z=>.agg [.lit (.int k z.1),.lit (.int k z.2)])) :: r) W) {g:Nat} {t e ti:TypeId} {m:Nat} {f1 f2:Field}
  (hg:P.globalNamed n = some g) (hty:(P.globals[g]?).map (·.type) = some t) (ht:P.underlying t = some (.array m e)) (he:P.underlying e = some (.struct #[f1,f2])) (h1:f1.type = ti) (h2:f2.type = ti) (o1:f1.offset = 0) (o2:f2.offset = 1) (hi:P.underlying ti = some (.int k)) (hci:P.cellsOf ti = 1) (hce:P.cellsOf e = 2) (hct:P.cellsOf t = m * 2) (hz:0 < zs.length) :
  qpk W I g ((zs.flatMap fun z=>[z.1,z.2]).map (.int k)):=by
 have hv:W.var? P n = some ((zs.flatMap fun z=>[z.1,z.2]).map fun z=>Value.int k z).toArray:=by
  obtain ⟨ps,⟨g',t',cs,fuel,p,q,hg',ht',hvar,hd,_,_⟩,_⟩:=h
  obtain rfl:=Option.some.inj (hg.symm.trans hg')
  obtain rfl:=Option.some.inj (hty.symm.trans ht')
  have e1:=qlu ht he h1 h2 o1 o2 hi hci hce hct hd
  have e2:((zs.flatMap fun z=>[z.1,z.2]).map fun z=>Value.int k z) = zs.flatMap fun z=>[Value.int k z.1,Value.int k z.2]:=by rw [List.map_flatMap]; rfl
  rw [hvar,e2,<- e1]
 have hsz:0 < ((zs.flatMap fun z=>[z.1,z.2]).map fun z=>Value.int k z).toArray.size:=by
  match zs,hz with
  | z :: zs,_=>simp
 obtain ⟨e',hC⟩:=qvg h hg hv hsz
 refine ⟨_,e',hC,by simp,fun i c hc=>?_⟩
 rw [List.getElem?_map,Option.map_eq_some_iff] at hc
 obtain ⟨z,hz,rfl⟩:=hc
 exact ⟨rfl,.int k z,by simp only [List.getElem?_toArray,List.getElem?_map,hz,Option.map_some],by simp [Rel]⟩
end Go.Eng

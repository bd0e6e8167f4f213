/- A machine of plain values, and that what it says holds of the program. -/
import Derived.Test.YthljpgljbpdmjaaGreatDoorE3
import Derived.Below
import Derived.Shelf.Strings.Fields
import Derived.Shelf.Strings.Count
import Derived.Shelf.Strings.Search1
import Derived.Shelf.Strconv.ParseIntPublic10
import Derived.Shelf.Strconv.AtoiAll
import Derived.Shelf.Strconv.Itoa4
import Derived.Test.YthljpgljbpdmjaaGreatDoorE2
import Derived.Stop.LaidErr
import Derived.Lib.LaidTab
import Derived.Laws.Externs
import Derived.Shelf.Spec.BitsCarry
import Derived.Shelf.Bits.Mul64
import Derived.Shelf.Small.Bits
set_option linter.unusedVariables false
set_option linter.unusedSimpArgs false
set_option linter.unnecessarySimpa false
namespace Go.Eng
set_option linter.unusedSectionVars false
variable [Globs]
theorem qiq {w w':World} {I:Imm} (ho:∀ b o,I b o -> b < w.heap.size) (hb:RowKit.Below w.heap.size w w'):Stays w w' I where
 size:=hb.size
 row:=fun b C e h=>⟨C,by rw [hb.block b (Array.getElem?_eq_some_iff.1 h).1]; exact h,rfl⟩
 imm:=fun b o hi=>by simp only [World.cell?,ad]; rw [hb.block b (ho b o hi)]
 out:=⟨hb.os,hb.output,hb.tape⟩
theorem qvK {w w':World} {I I':Imm} {m:Names} {h:qam} (H:HeapAt w I m h) (hb:RowKit.Below w.heap.size w w') (hI:∀ b o,I b o -> I' b o) (hN:∀ b o,I' b o -> I b o \/ w.heap.size <= b /\ b < w'.heap.size):Aft w w' I I' m m h h where
 stays:=qiq H.old hb
 imm:=hI
 names:=fun _ _ h=>h
 heap:={
  at_:=fun i b hi=>by
   obtain ⟨L,hL,hat⟩:=H.at_ i b hi
   refine ⟨L,hL,hat.keep (qiq H.old hb) hI (fun _ _ h=>h) (hb.block _ hat.lt) fun o ho=>?_⟩
   rcases hN _ _ ho with h | h
   ·exact h
   ·have:=hat.lt; omega
  apart:=H.apart
  old:=fun b o hi=>by
   rcases hN b o hi with h | h
   ·exact Nat.lt_of_lt_of_le (H.old b o h) hb.size
   ·exact h.2
  glob:=H.glob.mono (qiq H.old hb) hI }
 frame:=fun b hlt _=>hb.block b hlt
 newI:=fun b o hi=>(hN b o hi).imp id fun h=>.inr h.1
 owns:=fun _ h=>.inl h
theorem qbu {w w':World} {I:Imm} {m:Names} {h:qam} (H:HeapAt w I m h) (hb:RowKit.Below w.heap.size w w') {v:AV} {u:Value} (hu:Rel w' I v m u):qQN w I m h (.ret v) h (.returned u) w':=
 ⟨I,m,qvK H hb (fun _ _ h=>h) fun _ _ h=>.inl h,u,rfl,hu⟩
theorem qA1:∀ l:List (List UInt8),flat (l.map .str) = l.map .str
 | []=>rfl
 | s :: l=>by
  have:=qA1 l
  simp only [flat,List.map_cons,List.flatMap_cons,qad] at this ⊢
  rw [this]; rfl
theorem qNy {w:World} {I:Imm} {m:Names} {h:qam} (H:HeapAt w I m h) (l:List (List UInt8)) (e:TypeId) :
  qQN w I m h (.ret (.view 1 (l.map .str))) h (.returned (.slice (some ⟨w.heap.size,0,none⟩) l.length l.length)) (w.alloc (.cells (l.map fun s=>Value.string ⟨s.toArray⟩).toArray e)):=by
 refine ⟨fun b o=>I b o \/ b = w.heap.size,m,qvK H ((RowKit.Below.refl _ w).alloc (Nat.le_refl _) _) (fun _ _=>.inl) (fun b o hi=>hi.imp id fun h=>by simp; omega),_,rfl,?_⟩
 simp only [Rel]
 refine ⟨some (ad w.heap.size 0),l.length,by simp [ad],by simp,.inr ⟨w.heap.size,0,rfl,?_⟩,by simp⟩
 rw [qgZ]
 refine ⟨fun x hx=>?_,fun i c hc=>⟨.inr rfl,?_⟩⟩
 ·obtain ⟨s,_,rfl⟩:=List.mem_map.1 hx
  rfl
 ·rw [qA1,List.getElem?_map,Option.map_eq_some_iff] at hc
  obtain ⟨s,hs,rfl⟩:=hc
  refine ⟨rfl,.string ⟨s.toArray⟩,?_,by simp [Rel]⟩
  rw [qdy (heap_alloc_new w _)]
  simp [hs]
def gOf (E:Ent):List AV -> qam -> Option (Res × qam):=fun a h=>((E a h).find? fun p=>p.1).map fun p=>p.2
theorem qhA {IP:Prog} {f:Nat} {E:Ent} (hF:IP.fn f = none) (hS:IP.spec f = some (gOf E)) (h1:∀ a h p q,p ∈ E a h -> q ∈ E a h -> p.1 = true -> q.1 = true -> p.2 = q.2):Snd IP f E:=by
 intro a h r h' hm
 refine qrE hF hS ?_
 unfold gOf
 cases hq:(E a h).find? fun p=>p.1 with
 | none=>exact absurd rfl (List.find?_eq_none.1 hq _ hm)
 | some q=>
  have hp:=List.find?_some hq
  rw [Option.map_some,h1 a h q _ (List.mem_of_find?_eq_some hq) hm hp rfl]
theorem qee {P:Program} {f:Nat} {E:Ent} (hE:qbt P f) (h1:∀ a h r h',(true,r,h') ∈ E a h -> ∀ (w:World) (I:Imm) (m:Names) (vs:List Value),HeapAt w I m h -> qaC w I a m vs -> Calls P f vs.toArray w (qQN w I m h r h')):qeb P f (gOf E):=by
 intro a h r h' hg
 unfold gOf at hg
 rw [Option.map_eq_some_iff] at hg
 obtain ⟨⟨b,q⟩,hq,rfl⟩:=hg
 have hb:=List.find?_some hq
 have hm:=List.mem_of_find?_eq_some hq
 simp only at hb
 subst hb
 exact fun w I m vs H _ hr=>.inl ⟨hE,h1 a h r h' hm w I m vs H hr⟩
end Go.Eng
namespace Go.Eng
open Go.Shelf Go.Proofs
set_option linter.unusedSectionVars false
variable [Globs]
theorem qoK {w:World} {I:Imm} (hg:GlobAt w I) {g:Nat} {cs:List AV} (h:Globs.g g = some cs) {i:Nat} {c:AV} (hc:cs[i]? = some c):∃ v,w.cell? (ad g i) = some v /\ Rel w I c m0 v:=by
 obtain ⟨_,_,v,hv,hr⟩:=qby.1 (hg g cs h).1 i c hc
 rw [Nat.zero_add] at hv
 exact ⟨v,hv,hr⟩
def qtx:List AV:=Lib.asciiSpaceTab.map (.int .u8)
def qh9:Ent:=fun a h=>match a,h with
 | [.str s],[]=>[(s.all (fun b=>decide (b.toNat < 128)) && decide (s.length < 4294967281),.ret (.view 1 ((Lib.fields s).map .str)),[])]
 | _,_=>[]
theorem qzT {P:Program} {ρ:Ren} (L:Lays.n157 P ρ) (hi9:(P.info? (ρ.t 9)).map (fun i=>(i.zero,i.size,i.bytes)) = some (some (.string ByteArray.empty),1,16)) (hE:qbt P (ρ.f 157))
  (hg:Globs.g (ρ.g 0) = some qtx):qeb P (ρ.f 157) (gOf qh9):=by
 refine qee hE fun a h r h' hm w I m vs H hr=>?_
 unfold qh9 at hm
 split at hm
 ·rename_i s
  simp only [List.mem_singleton,Prod.mk.injEq,eq_comm (a:=true),Bool.and_eq_true,List.all_eq_true,decide_eq_true_eq] at hm
  obtain ⟨⟨hs,hl⟩,rfl,rfl⟩:=hm
  simp only [qaC,Rel] at hr
  obtain ⟨_,_,rfl,rfl,rfl⟩:=hr
  refine (Any.strings_Fields_core L hi9 ⟨s.toArray⟩ w (by simpa [ByteArray.size] using hl) (fun j b hb=>hs b (List.mem_of_getElem? (by simpa using hb))) fun c hc=>?_).mono ?_
  ·obtain ⟨v,hv,hr⟩:=qoK H.glob hg (i:=c) (c:=.int .u8 (if Lib.isSp (UInt8.ofNat c) then 1 else 0)) (by
    unfold qtx
    rw [List.getElem?_map,List.getElem?_eq_getElem (by rw [Lib.asciiSpaceTab_length]; exact hc),Option.map_some,<- Lib.asciiSpaceTab_at c hc]
    simp [Lib.asciiSpaceTab_length,hc])
   simp only [Rel] at hr
   subst hr
   exact hv
  ·rintro e w' ⟨rfl,rfl⟩
   exact qNy H _ _
 ·cases hm
def qnx:Ent:=fun a h=>match a,h with
 | [.str s,.str [c]],[]=>[(true,.ret (.int .i64 (Lib.countByte s c)),[])]
 | _,_=>[]
theorem qCV {P:Program} {ρ:Ren} (L:Lays.n138 P ρ) (hE:qbt P (ρ.f 138)):qeb P (ρ.f 138) (gOf qnx):=by
 refine qee hE fun a h r h' hm w I m vs H hr=>?_
 unfold qnx at hm
 split at hm
 ·rename_i s c
  simp only [List.mem_singleton,Prod.mk.injEq,true_and] at hm
  obtain ⟨rfl,rfl⟩:=hm
  simp only [qaC,Rel] at hr
  obtain ⟨_,_,rfl,rfl,_,_,rfl,rfl,rfl⟩:=hr
  refine (Any.strings_Count_one L ⟨s.toArray⟩ c w).mono ?_
  rintro e w' ⟨rfl,rfl⟩
  exact qbu H (RowKit.Below.refl _ _) (by simp [Rel])
 ·cases hm
def qZH:Ent:=fun a h=>match a,h with
 | [.str s,.int .u8 c],[]=>[(true,.ret (.int .i64 (Lib.indexByte s c.toNat.toUInt8)),[])]
 | _,_=>[]
theorem qRF {P:Program} {ρ:Ren} (L:Lays.n217 P ρ) (hE:qbt P (ρ.f 217)):qeb P (ρ.f 217) (gOf qZH):=by
 refine qee hE fun a h r h' hm w I m vs H hr=>?_
 unfold qZH at hm
 split at hm
 ·rename_i s c
  simp only [List.mem_singleton,Prod.mk.injEq,true_and] at hm
  obtain ⟨rfl,rfl⟩:=hm
  simp only [qaC,Rel] at hr
  obtain ⟨_,_,rfl,rfl,_,_,rfl,rfl,rfl⟩:=hr
  refine (Any.stringslite_IndexByte L ⟨s.toArray⟩ c w).mono ?_
  rintro e w' ⟨rfl,rfl⟩
  exact qbu H (RowKit.Below.refl _ _) (by simp [Rel])
 ·cases hm
theorem qgz {E:Ent} (h:∀ a h,(E a h).length <= 1):∀ a h p q,p ∈ E a h -> q ∈ E a h -> p.1 = true -> q.1 = true -> p.2 = q.2:=by
 intro a b p q hp hq _ _
 have:=h a b
 match E a b,this,hp,hq with
 | [x],_,hp,hq=>rw [List.mem_singleton.1 hp,List.mem_singleton.1 hq]
theorem qzS:∀ a h,(qh9 a h).length <= 1:=by intro a h; unfold qh9; split <;> simp
theorem qCU:∀ a h,(qnx a h).length <= 1:=by intro a h; unfold qnx; split <;> simp
theorem qRE:∀ a h,(qZH a h).length <= 1:=by intro a h; unfold qZH; split <;> simp
end Go.Eng
namespace Go.Eng
open Go.Shelf Go.Proofs
set_option linter.unusedSectionVars false
variable [Globs]
def nOk:Lib.NumEnd Int -> Bool
 | .ok _=>true
 | _=>false
def q3w:Lib.NumEnd Int -> Int
 | .ok v=>v
 | _=>0
def qhB:Lib.NumEnd Int -> Bool
 | .range=>true
 | _=>false
def qda (x:Lib.NumEnd Int):Bool:=!nOk x && !qhB x
def qI9 (t:TypeId):AV:=.iface t (.ptr [])
def qQQ (t:TypeId) (x:Lib.NumEnd Int) (sat:Int) (b:Bool):List (Bool × Res × qam):=
 [(b && nOk x,.ret (.tup [.int .i64 (q3w x),.nili]),[]),(b && qhB x,.ret (.tup [.int .i64 sat,qI9 t]),[]),(b && qda x,.ret (.tup [.int .i64 0,qI9 t]),[])]
def pOk (s:List UInt8):Bool:=decide (s.length <= 281474976710656)
def qlc (t:TypeId):Ent:=fun a h=>match a,h with
 | [.str s,.int .i64 10,.int .i64 64],[]=>qQQ t (Lib.parseIntB 64 s) (Lib.intSat 64 s) (pOk s)
 | _,_=>[]
def qvP (t:TypeId):Ent:=fun a h=>match a,h with
 | [.str s],[]=>qQQ t (Lib.atoiAll s) (Lib.atoiSat s) (pOk s)
 | _,_=>[]
theorem qCf {t:TypeId} {x:Lib.NumEnd Int} {sat:Int} {b:Bool} {p q:Bool × Res × qam} (hp:p ∈ qQQ t x sat b) (hq:q ∈ qQQ t x sat b) (h1:p.1 = true) (h2:q.1 = true):p.2 = q.2:=by
 cases x <;> cases b <;> simp [qQQ,nOk,qhB,qda] at hp hq <;> (rcases hp with rfl | rfl | rfl <;> rcases hq with rfl | rfl | rfl <;> simp_all)
theorem qFu {t:TypeId}:∀ a h p q,p ∈ qlc t a h -> q ∈ qlc t a h -> p.1 = true -> q.1 = true -> p.2 = q.2:=by
 intro a h p q hp hq
 unfold qlc at hp hq
 split at hp
 ·exact qCf hp hq
 ·cases hp
theorem qIL {t:TypeId}:∀ a h p q,p ∈ qvP t a h -> q ∈ qvP t a h -> p.1 = true -> q.1 = true -> p.2 = q.2:=by
 intro a h p q hp hq
 unfold qvP at hp hq
 split at hp
 ·exact qCf hp hq
 ·cases hp
theorem qyI {w w':World} {e:TypeId} (h:w' = w \/ ∃ t,w' = Lib.bytesWorld w e t):RowKit.Below w.heap.size w w':=by
 rcases h with rfl | ⟨t,rfl⟩
 ·exact RowKit.Below.refl _ _
 ·exact Lib.bytesWorld_below _ _ _
theorem qPg {w:World} {I:Imm} {m:Names} {t N:Nat}:Rel w I (qI9 t) m (.iface t (.pointer (some ⟨N,0,none⟩))):=by
 simp only [qI9,Rel]
 exact ⟨_,rfl,N,0,rfl,by simp [qyv]⟩
theorem qCg {P:Program} {w:World} {I:Imm} {m:Names} {h:qam} (H:HeapAt w I m h) {f:Nat} {vs:Array Value} {t e:TypeId} {x:Lib.NumEnd Int} {sat:Int} {b:Bool} {r:Res} {h':qam} (hh:h = []) (hm:(true,r,h') ∈ qQQ t x sat b)
  (h1:b = true -> ∀ v,x = .ok v -> Calls P f vs w fun e' w'=>e' = .returned (.tuple #[.int .i64 v,.nilIface]) /\ (w' = w \/ ∃ t,w' = Lib.bytesWorld w e t))
  (h2:b = true -> x = .range -> Calls P f vs w fun e' w'=>∃ N,e' = .returned (.tuple #[.int .i64 sat,.iface t (.pointer (some ⟨N,0,none⟩))]) /\ RowKit.Below w.heap.size w w')
  (h3:b = true -> qda x = true -> Calls P f vs w fun e' w'=>∃ N,e' = .returned (.tuple #[.int .i64 0,.iface t (.pointer (some ⟨N,0,none⟩))]) /\ RowKit.Below w.heap.size w w'):Calls P f vs w (qQN w I m h r h'):=by
 subst hh
 have hb:b = true:=by
  cases b
  ·simp [qQQ] at hm
  ·rfl
 subst hb
 rcases x with v | _ | _
 ·simp [qQQ,nOk,qhB,qda,q3w] at hm
  obtain ⟨rfl,rfl⟩:=hm
  refine (h1 rfl v rfl).mono ?_
  rintro e w' ⟨rfl,hw⟩
  exact qbu H (qyI hw) (by simp only [Rel,qaC]; exact ⟨_,rfl,_,_,rfl,rfl,_,_,rfl,rfl,rfl⟩)
 ·simp [qQQ,nOk,qhB,qda] at hm
  obtain ⟨rfl,rfl⟩:=hm
  refine (h3 rfl rfl).mono ?_
  rintro e w' ⟨N,rfl,hw⟩
  refine qbu H hw ?_
  have:=qPg (w:=w') (I:=I) (m:=m) (t:=t) (N:=N)
  simp only [Rel,qaC]
  exact ⟨_,rfl,_,_,rfl,rfl,_,_,rfl,this,rfl⟩
 ·simp [qQQ,nOk,qhB,qda] at hm
  obtain ⟨rfl,rfl⟩:=hm
  refine (h2 rfl rfl).mono ?_
  rintro e w' ⟨N,rfl,hw⟩
  refine qbu H hw ?_
  have:=qPg (w:=w') (I:=I) (m:=m) (t:=t) (N:=N)
  simp only [Rel,qaC]
  exact ⟨_,rfl,_,_,rfl,rfl,_,_,rfl,this,rfl⟩
theorem qlv {w:World} {I:Imm} (hg:GlobAt w I) {g:Nat} {te:TypeId} {x:AV} (h:Globs.g g = some [.iface te x]):∃ ev,w.cell? ⟨g,0,none⟩ = some ev /\ (ev = .nilIface \/ ∃ te pe,ev = .iface te pe):=by
 obtain ⟨v,hv,hr⟩:=qoK hg h (i:=0) (c:=.iface te x) rfl
 simp only [Rel] at hr
 obtain ⟨y,rfl,_⟩:=hr
 exact ⟨_,hv,.inr ⟨_,_,rfl⟩⟩
theorem qVd {x y:Lib.NumEnd Int} (hx:qda x = true) (hy:qda y = true):x = y:=by
 rcases x with _ | _ | _ <;> rcases y with _ | _ | _ <;> first | rfl | (simp [qda,nOk,qhB] at hx; done) | (simp [qda,nOk,qhB] at hy; done)
theorem qFv {P:Program} {ρ:Ren} (L:LaysC.n174 P ρ) (hE:qbt P (ρ.f 174)) {t1 t2:TypeId} {x1 x2:AV} (h1:Globs.g (ρ.g 15) = some [.iface t1 x1]) (h2:Globs.g (ρ.g 16) = some [.iface t2 x2]):qeb P (ρ.f 174) (gOf (qlc (ρ.t 168))):=by
 refine qee hE fun a h r h' hm w I m vs H hr=>?_
 unfold qlc at hm
 split at hm
 ·rename_i s
  simp only [qaC,Rel] at hr
  obtain ⟨_,_,rfl,rfl,_,_,rfl,rfl,_,_,rfl,rfl,rfl⟩:=hr
  obtain ⟨e1,c1,d1⟩:=qlv H.glob h1
  obtain ⟨e2,c2,d2⟩:=qlv H.glob h2
  refine qCg (e:=ρ.t 5) H rfl hm (fun hb v hv=>?_) (fun hb hv=>?_) (fun hb hv=>?_) <;> simp only [pOk,decide_eq_true_eq] at hb
  ·exact Any.strconv_ParseInt_10_at64_ok L ⟨s.toArray⟩ (by simp [ByteArray.size]; omega) v (by simpa using hv) w
  ·refine (Any.strconv_ParseInt_10_at64_range L ⟨s.toArray⟩ (by simpa [ByteArray.size] using hb) (by simpa using hv) e2 w c2 d2).mono ?_
   rintro e w' ⟨N,rfl,_,_,hw⟩
   exact ⟨N,rfl,hw⟩
  ·refine (Any.strconv_ParseInt_10_at64_syntax L ⟨s.toArray⟩ (by simpa [ByteArray.size] using hb) (qVd (by simpa using hv) rfl) e1 w c1 d1).mono ?_
   rintro e w' ⟨N,rfl,_,_,hw⟩
   exact ⟨N,rfl,hw⟩
 ·cases hm
theorem qIM {P:Program} {ρ:Ren} (L:LaysC.n172 P ρ) (hE:qbt P (ρ.f 172)) {t1 t2:TypeId} {x1 x2:AV} (h1:Globs.g (ρ.g 15) = some [.iface t1 x1]) (h2:Globs.g (ρ.g 16) = some [.iface t2 x2]):qeb P (ρ.f 172) (gOf (qvP (ρ.t 168))):=by
 refine qee hE fun a h r h' hm w I m vs H hr=>?_
 unfold qvP at hm
 split at hm
 ·rename_i s
  simp only [qaC,Rel] at hr
  obtain ⟨_,_,rfl,rfl,rfl⟩:=hr
  obtain ⟨e1,c1,d1⟩:=qlv H.glob h1
  obtain ⟨e2,c2,d2⟩:=qlv H.glob h2
  refine qCg (e:=ρ.t 5) H rfl hm (fun hb v hv=>?_) (fun hb hv=>?_) (fun hb hv=>?_) <;> simp only [pOk,decide_eq_true_eq] at hb
  ·exact Any.strconv_Atoi_ok L ⟨s.toArray⟩ (by simp [ByteArray.size]; omega) v (by simpa using hv) w
  ·refine (Any.strconv_Atoi_range L ⟨s.toArray⟩ (by simpa [ByteArray.size] using hb) (by simpa using hv) e2 w c2 d2).mono ?_
   rintro e w' ⟨N,rfl,_,_,hw⟩
   exact ⟨N,rfl,hw⟩
  ·refine (Any.strconv_Atoi_syntax L ⟨s.toArray⟩ (by simpa [ByteArray.size] using hb) (qVd (by simpa using hv) rfl) e1 w c1 d1).mono ?_
   rintro e w' ⟨N,rfl,_,_,hw⟩
   exact ⟨N,rfl,hw⟩
 ·cases hm
theorem qRC {P:Program} {w:World} {I:Imm} (hg:GlobAt w I) {g:Nat} {k:IntKind} {zs:List Int} {name:String} (hn:P.globalNamed name = some g) (h:Globs.g g = some (zs.map (.int k))):Lib.TabIs P w name k zs:=by
 obtain ⟨_,C,e,hC,hs⟩:=hg g _ h
 unfold Lib.TabIs World.var?
 simp only [hn,Option.bind_some,hC,Option.some.injEq]
 apply Array.ext
 ·simpa using hs
 ·intro i h1 h2
  have hi:i < zs.length:=by simpa using h2
  obtain ⟨v,hv,hr⟩:=qoK hg h (i:=i) (c:=.int k zs[i]) (by simp [hi])
  simp only [Rel] at hr
  subst hr
  rw [qdy hC,Array.getElem?_eq_getElem h1,Option.some.injEq] at hv
  simpa using hv
theorem qre (w:World) (q:Nat) (os:Array Obj):RowKit.Below w.heap.size w (Sort.grow (w.drewN q) os):=
 ⟨rfl,rfl,rfl,by simp [Sort.grow,World.drewN],fun i hi=>by
  show ((w.drewN q).heap ++ os)[i]? = _
  rw [Array.getElem?_append_left (by show i < w.heap.size; omega)]
  rfl⟩
def qoQ:Ent:=fun a h=>match a,h with
 | [.int .i64 n],[]=>[(decide (-9223372036854775808 <= n) && decide (n <= 9223372036854775807),.ret (.str (Lib.itoa n)),[])]
 | _,_=>[]
theorem qEW:∀ a h,(qoQ a h).length <= 1:=by intro a h; unfold qoQ; split <;> simp
theorem qEX {P:Program} {ρ:Ren} (L:LaysM.n171 P ρ) (hE:qbt P (ρ.f 171)) {g:Nat} (hgg:P.globalNamed "internal/strconv.uint64pow10" = some g) (h1:Globs.g g = some (Lib.pow10Tab.map (.int .u64))):qeb P (ρ.f 171) (gOf qoQ):=by
 refine qee hE fun a h r h' hm w I m vs H hr=>?_
 unfold qoQ at hm
 split at hm
 ·rename_i n
  simp only [List.mem_singleton,Prod.mk.injEq,eq_comm (a:=true),Bool.and_eq_true,decide_eq_true_eq] at hm
  obtain ⟨⟨g0,g1⟩,rfl,rfl⟩:=hm
  simp only [qaC,Rel] at hr
  obtain ⟨_,_,rfl,rfl,rfl⟩:=hr
  refine (Any.strconv_Itoa L n g0 g1 w (qRC H.glob hgg h1)).mono ?_
  rintro e w' ⟨rfl,k,os,rfl⟩
  refine qbu H ?_ (by simp [Rel])
  exact qre _ _ _
 ·cases hm
end Go.Eng
namespace Go.Eng
open Go.Shelf
set_option linter.unusedSectionVars false
theorem qBH {P:Program} {W:World} {n:String} {d:DataW Unit} {r:List (String × DataW Unit)} (h:laidMet P ((n,d) :: r) W) {g:Nat} (hg:P.globalNamed n = some g) {cs:Array Value} (hv:W.var? P n = some cs) (hne:0 < cs.size):∃ e,W.heap[g]? = some (.cells cs e (0,0)):=by
 obtain ⟨ps,⟨g0,t0,cs0,f0,p0,q0,hg0,ht0,hv0,hd0,_,e0⟩,_,hrows⟩:=h
 obtain rfl:=Option.some.inj (hg.symm.trans hg0)
 obtain rfl:=Option.some.inj (hv.symm.trans hv0)
 subst e0
 obtain ⟨c,t,hc⟩:=(hrows g 0 (by
  simp only [MemPlace.row,List.mem_append]
  exact .inl (.inl (by simp; omega)))).1
 unfold World.var? at hv
 rw [hg,Option.bind_some,hc] at hv
 cases hv
 exact ⟨t,hc⟩
def qvF (W:World) (I:Imm) (g:Nat) (cs:List AV):Prop:=∃ (C:Array Value) (e:TypeId),W.heap[g]? = some (Obj.cells C e (0,0)) /\ C.size = cs.length /\ ∀ (i:Nat) (c:AV),cs[i]? = some c -> qaU c = true /\ ∃ v,C[i]? = some v /\ Rel W I c m0 v
theorem qoM {P:Program} {W:World} {I:Imm} {n:String} {k:IntKind} {zs:List Int} {r:List (String × DataW Unit)} (h:laidMet P ((n,Lib.tabData k zs) :: r) W) {g:Nat} {t e:TypeId} {m:Nat}
  (hg:P.globalNamed n = some g) (hty:(P.globals[g]?).map (·.type) = some t) (ht:P.underlying t = some (.array m e)) (he:P.underlying e = some (.int k)) (hce:P.cellsOf e = 1) (hct:P.cellsOf t = m) (hz:0 < zs.length):qvF W I g (zs.map (.int k)):=by
 have hv:=Lib.tabIs_of_head hg hty ht he hce hct h
 unfold Lib.TabIs at hv
 obtain ⟨e',hC⟩:=qBH h hg hv (by simpa using hz)
 refine ⟨_,e',hC,by simp,fun i c hc=>?_⟩
 rw [List.getElem?_map,Option.map_eq_some_iff] at hc
 obtain ⟨z,hz,rfl⟩:=hc
 exact ⟨rfl,.int k z,by simp [hz],by simp [Rel]⟩
theorem qoL {P:Program} {W:World} {I:Imm} {n nm:String} {text:List UInt8} {r:List (String × DataW Unit)} {g:Nat} {ti tp te ts:TypeId} {ms:Array (String × TypeId)} {f:Field}
  (h:laidMet P ((n,.iface nm (.ptr (.agg [.lit (.string text)]))) :: r) W)
  (hg:P.globalNamed n = some g) (ht:(P.globals[g]?).map (·.type) = some ti) (hi:P.underlying ti = some (.interface ms)) (hrow:∀ u,P.typeName? 3 u = some nm -> u = tp)
  (hp:P.underlying tp = some (.pointer te)) (he:P.underlying te = some (.struct #[f])) (hft:f.type = ts) (hfo:f.offset = 0) (hs:P.underlying ts = some .string) (hc:P.cellsOf te = 1) (hcs:P.cellsOf ts = 1):qvF W I g [qI9 tp]:=by
 obtain ⟨a,s,hv,hcell,_,_⟩:=laid_sentinel h hg ht hi hrow hp he hft hfo hs hc hcs
 obtain ⟨e',hC⟩:=qBH h hg hv (by simp)
 refine ⟨_,e',hC,by simp,fun i c hi=>?_⟩
 have hi0:i = 0 /\ c = qI9 tp:=by
  cases i with
  | zero=>simp at hi; exact ⟨rfl,hi.symm⟩
  | succ i=>simp at hi
 obtain ⟨rfl,rfl⟩:=hi0
 refine ⟨rfl,_,rfl,?_⟩
 obtain ⟨b,o,sp⟩:=a
 have hsp:sp = none:=by
  cases sp with
  | none=>rfl
  | some x=>
   simp only [World.cell?,Option.isSome_some,if_true] at hcell
   split at hcell <;> cases hcell
 subst hsp
 simp only [qI9,Rel]
 exact ⟨_,rfl,b,o,rfl,by simp [qyv]⟩
theorem qZD [Globs] {W:World} {I0:Imm} (h:∀ g cs,Globs.g g = some cs -> qvF W (fun b o=>I0 b o \/ ∃ cs,Globs.g b = some cs /\ o < cs.length) g cs):GlobAt W (fun b o=>I0 b o \/ ∃ cs,Globs.g b = some cs /\ o < cs.length):=by
 intro g cs hg
 obtain ⟨C,e,hC,hsz,hall⟩:=h g cs hg
 refine ⟨qby.2 fun i c hc=>?_,C,e,hC,hsz⟩
 obtain ⟨h1,v,hv,hr⟩:=hall i c hc
 refine ⟨.inr ⟨cs,hg,by rw [Nat.zero_add]; exact (List.getElem?_eq_some_iff.1 hc).1⟩,h1,v,?_,hr⟩
 rw [Nat.zero_add]
 exact (qdy hC).trans hv
theorem qZE [Globs] {W:World} {I0 I:Imm} (h:∀ g cs,Globs.g g = some cs -> qvF W I g cs) (h0:∀ b o,I0 b o -> b < W.heap.size):∀ b o,(I0 b o \/ ∃ cs,Globs.g b = some cs /\ o < cs.length) -> b < W.heap.size:=by
 rintro b o (hb | ⟨cs,hg,_⟩)
 ·exact h0 b o hb
 ·obtain ⟨C,e,hC,_⟩:=h b cs hg
  exact (Array.getElem?_eq_some_iff.1 hC).1
end Go.Eng
namespace Go.Eng
open Go.Proofs
set_option linter.unusedSectionVars false
variable [Globs]
def qeU (x:Int):Bool:=decide (0 <= x) && decide (x < 18446744073709551616)
def qnl:Ent:=fun a h=>match a,h with
 | [.int .u64 x,.int .u64 y,.int .u64 c],[]=>[(qeU x && qeU y && (decide (0 <= c) && decide (c <= 1)),.ret (.tup [.int .u64 ((x + y + c) % 18446744073709551616),.int .u64 ((x + y + c) / 18446744073709551616)]),[])]
 | _,_=>[]
theorem qCJ:∀ a h,(qnl a h).length <= 1:=by intro a h; unfold qnl; split <;> simp
def qqU:Ent:=fun a h=>match a,h with
 | [.int .u64 x,.int .u64 y,.int .u64 c],[]=>[(qeU x && qeU y && (decide (0 <= c) && decide (c <= 1)),.ret (.tup [.int .u64 ((x - y - c) % 18446744073709551616),.int .u64 (if x < y + c then 1 else 0)]),[])]
 | _,_=>[]
theorem qFC:∀ a h,(qqU a h).length <= 1:=by intro a h; unfold qqU; split <;> simp
structure ExtIs (P:Program) (f:Nat) (e:Array Value -> Sem Value):Prop where
 is:∃ fn,P.funcs[f]? = some fn /\ (fn.name == "runtime.NumGoroutine") = false /\ fn.body.isNone = true /\ Extern.findNext fn = none /\ Extern.find fn = some e
theorem ExtIs.run {P:Program} {f:Nat} {e:Array Value -> Sem Value} (h:ExtIs P f e) (args:Array Value) (w:World):(callFunc f args).run P w = ((e args).run P w).andThen fun v w'=>.ok (.value v) w':=by
 obtain ⟨fn,h1,h2,h3,h4,h5⟩:=h.is
 exact run_callFunc_extern h1 h2 h3 h4 h5 args w
theorem qCK {P:Program} {f:Nat} (hE:ExtIs P f add64Entry):qeb P f (gOf qnl):=by
 intro a h r h' hg w I m vs H hnm hr
 unfold gOf at hg
 rw [Option.map_eq_some_iff] at hg
 obtain ⟨⟨b,q⟩,hq,rfl⟩:=hg
 have hb:=List.find?_some hq
 have hm:=List.mem_of_find?_eq_some hq
 simp only at hb
 subst hb
 unfold qnl at hm
 split at hm
 ·rename_i x y c
  simp only [List.mem_singleton,Prod.mk.injEq,eq_comm (a:=true),Bool.and_eq_true,decide_eq_true_eq,qeU] at hm
  obtain ⟨⟨⟨⟨x0,x1⟩,y0,y1⟩,c0,c1⟩,rfl,rfl⟩:=hm
  simp only [qaC,Rel] at hr
  obtain ⟨_,_,rfl,rfl,_,_,rfl,rfl,_,_,rfl,rfl,rfl⟩:=hr
  refine .inr ⟨.tuple #[.int .u64 ((x + y + c) % 18446744073709551616),.int .u64 ((x + y + c) / 18446744073709551616)],?_,?_⟩
  ·rw [hE.run,run_add64 x y c x0 y0 c0 c1]
   rfl
  ·refine qbu H (RowKit.Below.refl _ _) ?_
   simp only [Rel,qaC]
   exact ⟨_,rfl,_,_,rfl,rfl,_,_,rfl,rfl,rfl⟩
 ·cases hm
theorem qFD {P:Program} {f:Nat} (hE:ExtIs P f sub64Entry):qeb P f (gOf qqU):=by
 intro a h r h' hg w I m vs H hnm hr
 unfold gOf at hg
 rw [Option.map_eq_some_iff] at hg
 obtain ⟨⟨b,q⟩,hq,rfl⟩:=hg
 have hb:=List.find?_some hq
 have hm:=List.mem_of_find?_eq_some hq
 simp only at hb
 subst hb
 unfold qqU at hm
 split at hm
 ·rename_i x y c
  simp only [List.mem_singleton,Prod.mk.injEq,eq_comm (a:=true),Bool.and_eq_true,decide_eq_true_eq,qeU] at hm
  obtain ⟨⟨⟨⟨x0,x1⟩,y0,y1⟩,c0,c1⟩,rfl,rfl⟩:=hm
  simp only [qaC,Rel] at hr
  obtain ⟨_,_,rfl,rfl,_,_,rfl,rfl,_,_,rfl,rfl,rfl⟩:=hr
  obtain ⟨x,rfl⟩:∃ n:Nat,x = (n:Int):=⟨x.toNat,by omega⟩
  obtain ⟨y,rfl⟩:∃ n:Nat,y = (n:Int):=⟨y.toNat,by omega⟩
  obtain ⟨c,rfl⟩:∃ n:Nat,c = (n:Int):=⟨c.toNat,by omega⟩
  refine .inr ⟨.tuple #[.int .u64 (((x:Int) - y - c) % 18446744073709551616),.int .u64 (if (x:Int) < y + c then 1 else 0)],?_,?_⟩
  ·rw [hE.run,run_sub64 x y c (by omega)]
   have e1:(((x + 18446744073709551616 - y - c) % 18446744073709551616:Nat):Int) = ((x:Int) - y - c) % 18446744073709551616:=by omega
   have e2:((if x < y + c then 1 else 0:Nat):Int) = (if (x:Int) < y + c then 1 else 0):=by
    by_cases h:x < y + c
    ·rw [if_pos h,if_pos (by omega)]; rfl
    ·rw [if_neg h,if_neg (by omega)]; rfl
   rw [e1,e2]
   rfl
  ·refine qbu H (RowKit.Below.refl _ _) ?_
   simp only [Rel,qaC]
   exact ⟨_,rfl,_,_,rfl,rfl,_,_,rfl,rfl,rfl⟩
 ·cases hm
end Go.Eng
namespace Go.Eng
open Go.Shelf Go.Proofs
set_option linter.unusedSectionVars false
variable [Globs]
def qpg:Ent:=fun a h=>match a,h with
 | [.int .u64 x,.int .u64 y],[]=>[(qeU x && qeU y,.ret (.tup [.int .u64 (x * y / 18446744073709551616),.int .u64 (x * y % 18446744073709551616)]),[])]
 | _,_=>[]
theorem qFp:∀ a h,(qpg a h).length <= 1:=by intro a h; unfold qpg; split <;> simp
def qAh:Ent:=fun a h=>match a,h with
 | [.int .u64 x],[]=>[(qeU x,.ret (.int .i64 (64 - (Lib.bitLen x.toNat:Int))),[])]
 | _,_=>[]
theorem qLy:∀ a h,(qAh a h).length <= 1:=by intro a h; unfold qAh; split <;> simp
theorem qFq {P:Program} {ρ:Ren} (L:Lays.n264 P ρ) (hE:qbt P (ρ.f 264)):qeb P (ρ.f 264) (gOf qpg):=by
 refine qee hE fun a h r h' hm w I m vs H hr=>?_
 unfold qpg at hm
 split at hm
 ·rename_i x y
  simp only [List.mem_singleton,Prod.mk.injEq,eq_comm (a:=true),Bool.and_eq_true,decide_eq_true_eq,qeU] at hm
  obtain ⟨⟨⟨x0,x1⟩,y0,y1⟩,rfl,rfl⟩:=hm
  simp only [qaC,Rel] at hr
  obtain ⟨_,_,rfl,rfl,_,_,rfl,rfl,rfl⟩:=hr
  obtain ⟨x,rfl⟩:∃ n:Nat,x = (n:Int):=⟨x.toNat,by omega⟩
  obtain ⟨y,rfl⟩:∃ n:Nat,y = (n:Int):=⟨y.toNat,by omega⟩
  refine (Any.bits_Mul64 L x y (by omega) (by omega) w).mono ?_
  rintro e w' ⟨rfl,rfl⟩
  refine qbu H (RowKit.Below.refl _ _) ?_
  simp only [Rel,qaC]
  exact ⟨_,rfl,_,_,rfl,by simp,_,_,rfl,by simp,rfl⟩
 ·cases hm
theorem qLz {P:Program} {ρ:Ren} (L:Lays.n134 P ρ) (hE:qbt P (ρ.f 134)):qeb P (ρ.f 134) (gOf qAh):=by
 refine qee hE fun a h r h' hm w I m vs H hr=>?_
 unfold qAh at hm
 split at hm
 ·rename_i x
  simp only [List.mem_singleton,Prod.mk.injEq,eq_comm (a:=true),Bool.and_eq_true,decide_eq_true_eq,qeU] at hm
  obtain ⟨⟨x0,x1⟩,rfl,rfl⟩:=hm
  simp only [qaC,Rel] at hr
  obtain ⟨_,_,rfl,rfl,rfl⟩:=hr
  refine (Any.bits_LeadingZeros64 L x w x0 (by omega)).mono ?_
  rintro e w' ⟨rfl,rfl⟩
  exact qbu H (RowKit.Below.refl _ _) (by simp [Rel])
 ·cases hm
end Go.Eng

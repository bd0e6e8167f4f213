/- A machine of plain values, and that what it says holds of the program. -/
import Derived.Test.YtgpbobelbcbcaaaGreatDoorE3
import Derived.Below
import Derived.Shelf.Strings.Fields
import Derived.Shelf.Strings.Count
import Derived.Shelf.Strings.Search1
import Derived.Shelf.Strconv.ParseIntPublic10
import Derived.Shelf.Strconv.AtoiAll
import Derived.Shelf.Strconv.Itoa4
import Derived.Stop.LaidErr
import Derived.Lib.LaidTab
import Derived.Shelf.Strings.Trim
import Derived.Lib.SlicesCompact
set_option linter.unusedVariables false
set_option linter.unusedSimpArgs false
set_option linter.unnecessarySimpa false
namespace Go.Eng
set_option linter.unusedSectionVars false
variable [Globs]
theorem qiD {w w':World} {I:Imm} (ho:∀ b o,I b o -> b < w.heap.size) (hb:RowKit.Below w.heap.size w w'):Stays w w' I where
 size:=hb.size
 row:=fun b C e h=>⟨C,by rw [hb.block b (Array.getElem?_eq_some_iff.1 h).1]; exact h,rfl⟩
 imm:=fun b o hi=>by simp only [World.cell?,ad]; rw [hb.block b (ho b o hi)]
 out:=⟨hb.os,hb.output,hb.tape⟩
theorem qs6 {w w':World} {I I':Imm} {m:Names} {h:Heap} (H:HeapAt w I m h) (hb:RowKit.Below w.heap.size w w') (hI:∀ b o,I b o -> I' b o) (hN:∀ b o,I' b o -> I b o \/ w.heap.size <= b /\ b < w'.heap.size):Aft w w' I I' m m h h where
 stays:=qiD H.old hb
 imm:=hI
 names:=fun _ _ h=>h
 heap:={
  at_:=fun i b hi=>by
   obtain ⟨L,hL,hat⟩:=H.at_ i b hi
   refine ⟨L,hL,hat.keep (qiD H.old hb) hI (fun _ _ h=>h) (hb.block _ hat.lt) fun o ho=>?_⟩
   rcases hN _ _ ho with h | h
   ·exact h
   ·have:=hat.lt; omega
  apart:=H.apart
  old:=fun b o hi=>by
   rcases hN b o hi with h | h
   ·exact Nat.lt_of_lt_of_le (H.old b o h) hb.size
   ·exact h.2
  glob:=H.glob.mono (qiD H.old hb) hI }
 frame:=fun b hlt _=>hb.block b hlt
 newI:=fun b o hi=>(hN b o hi).imp id fun h=>.inr h.1
 owns:=fun _ h=>.inl h
theorem qco {w w':World} {I:Imm} {m:Names} {h:Heap} (H:HeapAt w I m h) (hb:RowKit.Below w.heap.size w w') {v:AV} {u:Value} (hu:Rel w' I v m u):qJL w I m h (.ret v) h (.returned u) w':=
 ⟨I,m,qs6 H hb (fun _ _ h=>h) fun _ _ h=>.inl h,u,rfl,hu⟩
theorem qla:∀ l:List (List UInt8),flat (l.map .str) = l.map .str
 | []=>rfl
 | s :: l=>by
  have:=qla l
  simp only [flat,List.map_cons,List.flatMap_cons,qac] at this ⊢
  rw [this]; rfl
theorem qHD {w:World} {I:Imm} {m:Names} {h:Heap} (H:HeapAt w I m h) (l:List (List UInt8)) (e:TypeId) :
  qJL w I m h (.ret (.view 1 (l.map .str))) h (.returned (.slice (some ⟨w.heap.size,0,none⟩) l.length l.length)) (w.alloc (.cells (l.map fun s=>Value.string ⟨s.toArray⟩).toArray e)):=by
 refine ⟨fun b o=>I b o \/ b = w.heap.size,m,qs6 H ((RowKit.Below.refl _ w).alloc (Nat.le_refl _) _) (fun _ _=>.inl) (fun b o hi=>hi.imp id fun h=>by simp; omega),_,rfl,?_⟩
 simp only [Rel]
 refine ⟨some (ad w.heap.size 0),l.length,by simp [ad],by simp,.inr ⟨w.heap.size,0,rfl,?_⟩,by simp⟩
 rw [qhI]
 refine ⟨fun x hx=>?_,fun i c hc=>⟨.inr rfl,?_⟩⟩
 ·obtain ⟨s,_,rfl⟩:=List.mem_map.1 hx
  rfl
 ·rw [qla,List.getElem?_map,Option.map_eq_some_iff] at hc
  obtain ⟨s,hs,rfl⟩:=hc
  refine ⟨rfl,.string ⟨s.toArray⟩,?_,by simp [Rel]⟩
  rw [qdy (heap_alloc_new w _)]
  simp [hs]
def gOf (E:Ent):List AV -> Heap -> Option (Res × Heap):=fun a h=>((E a h).find? fun p=>p.1).map fun p=>p.2
theorem qiX {IP:Prog} {f:Nat} {E:Ent} (hF:IP.fn f = none) (hS:IP.spec f = some (gOf E)) (h1:∀ a h p q,p ∈ E a h -> q ∈ E a h -> p.1 = true -> q.1 = true -> p.2 = q.2):Snd IP f E:=by
 intro a h r h' hm
 refine qzU hF hS ?_
 unfold gOf
 cases hq:(E a h).find? fun p=>p.1 with
 | none=>exact absurd rfl (List.find?_eq_none.1 hq _ hm)
 | some q=>
  have hp:=List.find?_some hq
  rw [Option.map_some,h1 a h q _ (List.mem_of_find?_eq_some hq) hm hp rfl]
theorem qd7 {P:Program} {f:Nat} {E:Ent} (hE:qbR P f) (h1:∀ a h r h',(true,r,h') ∈ E a h -> ∀ (w:World) (I:Imm) (m:Names) (vs:List Value),HeapAt w I m h -> qaM w I a m vs -> Calls P f vs.toArray w (qJL w I m h r h')):qgD P f (gOf E):=by
 intro a h r h' hg
 unfold gOf at hg
 rw [Option.map_eq_some_iff] at hg
 obtain ⟨⟨b,q⟩,hq,rfl⟩:=hg
 have hb:=List.find?_some hq
 have hm:=List.mem_of_find?_eq_some hq
 simp only at hb
 subst hb
 exact fun w I m vs H _ hr=>.inl ⟨hE,h1 a h r h' hm w I m vs H hr⟩
end Go.Eng
namespace Go.Eng
open Go.Shelf Go.Proofs
set_option linter.unusedSectionVars false
variable [Globs]
theorem qm5 {w:World} {I:Imm} (hg:GlobAt w I) {g:Nat} {cs:List AV} (h:Globs.g g = some cs) {i:Nat} {c:AV} (hc:cs[i]? = some c):∃ v,w.cell? (ad g i) = some v /\ Rel w I c m0 v:=by
 obtain ⟨_,_,v,hv,hr⟩:=qb8.1 (hg g cs h).1 i c hc
 rw [Nat.zero_add] at hv
 exact ⟨v,hv,hr⟩
def qqN:List AV:=Lib.asciiSpaceTab.map (.int .u8)
def qim:Ent:=fun a h=>match a,h with
 | [.str s],[]=>[(s.all (fun b=>decide (b.toNat < 128)) && decide (s.length < 4294967281),.ret (.view 1 ((Lib.fields s).map .str)),[])]
 | _,_=>[]
theorem qwR {P:Program} {ρ:Ren} (L:Lays.n157 P ρ) (hi9:(P.info? (ρ.t 9)).map (fun i=>(i.zero,i.size,i.bytes)) = some (some (.string ByteArray.empty),1,16)) (hE:qbR P (ρ.f 157))
  (hg:Globs.g (ρ.g 0) = some qqN):qgD P (ρ.f 157) (gOf qim):=by
 refine qd7 hE fun a h r h' hm w I m vs H hr=>?_
 unfold qim at hm
 split at hm
 ·rename_i s
  simp only [List.mem_singleton,Prod.mk.injEq,eq_comm (a:=true),Bool.and_eq_true,List.all_eq_true,decide_eq_true_eq] at hm
  obtain ⟨⟨hs,hl⟩,rfl,rfl⟩:=hm
  simp only [qaM,Rel] at hr
  obtain ⟨_,_,rfl,rfl,rfl⟩:=hr
  refine (Any.strings_Fields_core L hi9 ⟨s.toArray⟩ w (by simpa [ByteArray.size] using hl) (fun j b hb=>hs b (List.mem_of_getElem? (by simpa using hb))) fun c hc=>?_).mono ?_
  ·obtain ⟨v,hv,hr⟩:=qm5 H.glob hg (i:=c) (c:=.int .u8 (if Lib.isSp (UInt8.ofNat c) then 1 else 0)) (by
    unfold qqN
    rw [List.getElem?_map,List.getElem?_eq_getElem (by rw [Lib.asciiSpaceTab_length]; exact hc),Option.map_some,<- Lib.asciiSpaceTab_at c hc]
    simp [Lib.asciiSpaceTab_length,hc])
   simp only [Rel] at hr
   subst hr
   exact hv
  ·rintro e w' ⟨rfl,rfl⟩
   exact qHD H _ _
 ·cases hm
def qmh:Ent:=fun a h=>match a,h with
 | [.str s,.str [c]],[]=>[(true,.ret (.int .i64 (Lib.countByte s c)),[])]
 | _,_=>[]
theorem qzX {P:Program} {ρ:Ren} (L:Lays.n138 P ρ) (hE:qbR P (ρ.f 138)):qgD P (ρ.f 138) (gOf qmh):=by
 refine qd7 hE fun a h r h' hm w I m vs H hr=>?_
 unfold qmh at hm
 split at hm
 ·rename_i s c
  simp only [List.mem_singleton,Prod.mk.injEq,true_and] at hm
  obtain ⟨rfl,rfl⟩:=hm
  simp only [qaM,Rel] at hr
  obtain ⟨_,_,rfl,rfl,_,_,rfl,rfl,rfl⟩:=hr
  refine (Any.strings_Count_one L ⟨s.toArray⟩ c w).mono ?_
  rintro e w' ⟨rfl,rfl⟩
  exact qco H (RowKit.Below.refl _ _) (by simp [Rel])
 ·cases hm
def qSb:Ent:=fun a h=>match a,h with
 | [.str s,.int .u8 c],[]=>[(true,.ret (.int .i64 (Lib.indexByte s c.toNat.toUInt8)),[])]
 | _,_=>[]
theorem qKD {P:Program} {ρ:Ren} (L:Lays.n217 P ρ) (hE:qbR P (ρ.f 217)):qgD P (ρ.f 217) (gOf qSb):=by
 refine qd7 hE fun a h r h' hm w I m vs H hr=>?_
 unfold qSb at hm
 split at hm
 ·rename_i s c
  simp only [List.mem_singleton,Prod.mk.injEq,true_and] at hm
  obtain ⟨rfl,rfl⟩:=hm
  simp only [qaM,Rel] at hr
  obtain ⟨_,_,rfl,rfl,_,_,rfl,rfl,rfl⟩:=hr
  refine (Any.stringslite_IndexByte L ⟨s.toArray⟩ c w).mono ?_
  rintro e w' ⟨rfl,rfl⟩
  exact qco H (RowKit.Below.refl _ _) (by simp [Rel])
 ·cases hm
theorem qiu {E:Ent} (h:∀ a h,(E a h).length <= 1):∀ a h p q,p ∈ E a h -> q ∈ E a h -> p.1 = true -> q.1 = true -> p.2 = q.2:=by
 intro a b p q hp hq _ _
 have:=h a b
 match E a b,this,hp,hq with
 | [x],_,hp,hq=>rw [List.mem_singleton.1 hp,List.mem_singleton.1 hq]
theorem qwQ:∀ a h,(qim a h).length <= 1:=by intro a h; unfold qim; split <;> simp
theorem qzW:∀ a h,(qmh a h).length <= 1:=by intro a h; unfold qmh; split <;> simp
theorem qKC:∀ a h,(qSb a h).length <= 1:=by intro a h; unfold qSb; split <;> simp
end Go.Eng
namespace Go.Eng
open Go.Shelf Go.Proofs
set_option linter.unusedSectionVars false
variable [Globs]
def nOk:Lib.NumEnd Int -> Bool
 | .ok _=>true
 | _=>false
def qJO:Lib.NumEnd Int -> Int
 | .ok v=>v
 | _=>0
def qg9:Lib.NumEnd Int -> Bool
 | .range=>true
 | _=>false
def qdu (x:Lib.NumEnd Int):Bool:=!nOk x && !qg9 x
def qDV (t:TypeId):AV:=.iface t (.ptr [])
def qJQ (t:TypeId) (x:Lib.NumEnd Int) (sat:Int) (b:Bool):List (Bool × Res × Heap):=
 [(b && nOk x,.ret (.tup [.int .i64 (qJO x),.nili]),[]),(b && qg9 x,.ret (.tup [.int .i64 sat,qDV t]),[]),(b && qdu x,.ret (.tup [.int .i64 0,qDV t]),[])]
def pOk (s:List UInt8):Bool:=decide (s.length <= 281474976710656)
def qkT (t:TypeId):Ent:=fun a h=>match a,h with
 | [.str s,.int .i64 10,.int .i64 64],[]=>qJQ t (Lib.parseIntB 64 s) (Lib.intSat 64 s) (pOk s)
 | _,_=>[]
def qs9 (t:TypeId):Ent:=fun a h=>match a,h with
 | [.str s],[]=>qJQ t (Lib.atoiAll s) (Lib.atoiSat s) (pOk s)
 | _,_=>[]
theorem qze {t:TypeId} {x:Lib.NumEnd Int} {sat:Int} {b:Bool} {p q:Bool × Res × Heap} (hp:p ∈ qJQ t x sat b) (hq:q ∈ qJQ t x sat b) (h1:p.1 = true) (h2:q.1 = true):p.2 = q.2:=by
 cases x <;> cases b <;> simp [qJQ,nOk,qg9,qdu] at hp hq <;> (rcases hp with rfl | rfl | rfl <;> rcases hq with rfl | rfl | rfl <;> simp_all)
theorem qBA {t:TypeId}:∀ a h p q,p ∈ qkT t a h -> q ∈ qkT t a h -> p.1 = true -> q.1 = true -> p.2 = q.2:=by
 intro a h p q hp hq
 unfold qkT at hp hq
 split at hp
 ·exact qze hp hq
 ·cases hp
theorem qDv {t:TypeId}:∀ a h p q,p ∈ qs9 t a h -> q ∈ qs9 t a h -> p.1 = true -> q.1 = true -> p.2 = q.2:=by
 intro a h p q hp hq
 unfold qs9 at hp hq
 split at hp
 ·exact qze hp hq
 ·cases hp
theorem qvZ {w w':World} {e:TypeId} (h:w' = w \/ ∃ t,w' = Lib.bytesWorld w e t):RowKit.Below w.heap.size w w':=by
 rcases h with rfl | ⟨t,rfl⟩
 ·exact RowKit.Below.refl _ _
 ·exact Lib.bytesWorld_below _ _ _
theorem qIv {w:World} {I:Imm} {m:Names} {t N:Nat}:Rel w I (qDV t) m (.iface t (.pointer (some ⟨N,0,none⟩))):=by
 simp only [qDV,Rel]
 exact ⟨_,rfl,N,0,rfl,by simp [qvQ]⟩
theorem qzf {P:Program} {w:World} {I:Imm} {m:Names} {h:Heap} (H:HeapAt w I m h) {f:Nat} {vs:Array Value} {t e:TypeId} {x:Lib.NumEnd Int} {sat:Int} {b:Bool} {r:Res} {h':Heap} (hh:h = []) (hm:(true,r,h') ∈ qJQ t x sat b)
  (h1:b = true -> ∀ v,x = .ok v -> Calls P f vs w fun e' w'=>e' = .returned (.tuple #[.int .i64 v,.nilIface]) /\ (w' = w \/ ∃ t,w' = Lib.bytesWorld w e t))
  (h2:b = true -> x = .range -> Calls P f vs w fun e' w'=>∃ N,e' = .returned (.tuple #[.int .i64 sat,.iface t (.pointer (some ⟨N,0,none⟩))]) /\ RowKit.Below w.heap.size w w')
  (h3:b = true -> qdu x = true -> Calls P f vs w fun e' w'=>∃ N,e' = .returned (.tuple #[.int .i64 0,.iface t (.pointer (some ⟨N,0,none⟩))]) /\ RowKit.Below w.heap.size w w'):Calls P f vs w (qJL w I m h r h'):=by
 subst hh
 have hb:b = true:=by
  cases b
  ·simp [qJQ] at hm
  ·rfl
 subst hb
 rcases x with v | _ | _
 ·simp [qJQ,nOk,qg9,qdu,qJO] at hm
  obtain ⟨rfl,rfl⟩:=hm
  refine (h1 rfl v rfl).mono ?_
  rintro e w' ⟨rfl,hw⟩
  exact qco H (qvZ hw) (by simp only [Rel,qaM]; exact ⟨_,rfl,_,_,rfl,rfl,_,_,rfl,rfl,rfl⟩)
 ·simp [qJQ,nOk,qg9,qdu] at hm
  obtain ⟨rfl,rfl⟩:=hm
  refine (h3 rfl rfl).mono ?_
  rintro e w' ⟨N,rfl,hw⟩
  refine qco H hw ?_
  have:=qIv (w:=w') (I:=I) (m:=m) (t:=t) (N:=N)
  simp only [Rel,qaM]
  exact ⟨_,rfl,_,_,rfl,rfl,_,_,rfl,this,rfl⟩
 ·simp [qJQ,nOk,qg9,qdu] at hm
  obtain ⟨rfl,rfl⟩:=hm
  refine (h2 rfl rfl).mono ?_
  rintro e w' ⟨N,rfl,hw⟩
  refine qco H hw ?_
  have:=qIv (w:=w') (I:=I) (m:=m) (t:=t) (N:=N)
  simp only [Rel,qaM]
  exact ⟨_,rfl,_,_,rfl,rfl,_,_,rfl,this,rfl⟩
theorem qlb {w:World} {I:Imm} (hg:GlobAt w I) {g:Nat} {te:TypeId} {x:AV} (h:Globs.g g = some [.iface te x]):∃ ev,w.cell? ⟨g,0,none⟩ = some ev /\ (ev = .nilIface \/ ∃ te pe,ev = .iface te pe):=by
 obtain ⟨v,hv,hr⟩:=qm5 hg h (i:=0) (c:=.iface te x) rfl
 simp only [Rel] at hr
 obtain ⟨y,rfl,_⟩:=hr
 exact ⟨_,hv,.inr ⟨_,_,rfl⟩⟩
theorem qOb {x y:Lib.NumEnd Int} (hx:qdu x = true) (hy:qdu y = true):x = y:=by
 rcases x with _ | _ | _ <;> rcases y with _ | _ | _ <;> first | rfl | (simp [qdu,nOk,qg9] at hx; done) | (simp [qdu,nOk,qg9] at hy; done)
theorem qBB {P:Program} {ρ:Ren} (L:LaysC.n174 P ρ) (hE:qbR P (ρ.f 174)) {t1 t2:TypeId} {x1 x2:AV} (h1:Globs.g (ρ.g 15) = some [.iface t1 x1]) (h2:Globs.g (ρ.g 16) = some [.iface t2 x2]):qgD P (ρ.f 174) (gOf (qkT (ρ.t 168))):=by
 refine qd7 hE fun a h r h' hm w I m vs H hr=>?_
 unfold qkT at hm
 split at hm
 ·rename_i s
  simp only [qaM,Rel] at hr
  obtain ⟨_,_,rfl,rfl,_,_,rfl,rfl,_,_,rfl,rfl,rfl⟩:=hr
  obtain ⟨e1,c1,d1⟩:=qlb H.glob h1
  obtain ⟨e2,c2,d2⟩:=qlb H.glob h2
  refine qzf (e:=ρ.t 5) H rfl hm (fun hb v hv=>?_) (fun hb hv=>?_) (fun hb hv=>?_) <;> simp only [pOk,decide_eq_true_eq] at hb
  ·exact Any.strconv_ParseInt_10_at64_ok L ⟨s.toArray⟩ (by simp [ByteArray.size]; omega) v (by simpa using hv) w
  ·refine (Any.strconv_ParseInt_10_at64_range L ⟨s.toArray⟩ (by simpa [ByteArray.size] using hb) (by simpa using hv) e2 w c2 d2).mono ?_
   rintro e w' ⟨N,rfl,_,_,hw⟩
   exact ⟨N,rfl,hw⟩
  ·refine (Any.strconv_ParseInt_10_at64_syntax L ⟨s.toArray⟩ (by simpa [ByteArray.size] using hb) (qOb (by simpa using hv) rfl) e1 w c1 d1).mono ?_
   rintro e w' ⟨N,rfl,_,_,hw⟩
   exact ⟨N,rfl,hw⟩
 ·cases hm
theorem qDw {P:Program} {ρ:Ren} (L:LaysC.n172 P ρ) (hE:qbR P (ρ.f 172)) {t1 t2:TypeId} {x1 x2:AV} (h1:Globs.g (ρ.g 15) = some [.iface t1 x1]) (h2:Globs.g (ρ.g 16) = some [.iface t2 x2]):qgD P (ρ.f 172) (gOf (qs9 (ρ.t 168))):=by
 refine qd7 hE fun a h r h' hm w I m vs H hr=>?_
 unfold qs9 at hm
 split at hm
 ·rename_i s
  simp only [qaM,Rel] at hr
  obtain ⟨_,_,rfl,rfl,rfl⟩:=hr
  obtain ⟨e1,c1,d1⟩:=qlb H.glob h1
  obtain ⟨e2,c2,d2⟩:=qlb H.glob h2
  refine qzf (e:=ρ.t 5) H rfl hm (fun hb v hv=>?_) (fun hb hv=>?_) (fun hb hv=>?_) <;> simp only [pOk,decide_eq_true_eq] at hb
  ·exact Any.strconv_Atoi_ok L ⟨s.toArray⟩ (by simp [ByteArray.size]; omega) v (by simpa using hv) w
  ·refine (Any.strconv_Atoi_range L ⟨s.toArray⟩ (by simpa [ByteArray.size] using hb) (by simpa using hv) e2 w c2 d2).mono ?_
   rintro e w' ⟨N,rfl,_,_,hw⟩
   exact ⟨N,rfl,hw⟩
  ·refine (Any.strconv_Atoi_syntax L ⟨s.toArray⟩ (by simpa [ByteArray.size] using hb) (qOb (by simpa using hv) rfl) e1 w c1 d1).mono ?_
   rintro e w' ⟨N,rfl,_,_,hw⟩
   exact ⟨N,rfl,hw⟩
 ·cases hm
theorem qKx {P:Program} {w:World} {I:Imm} (hg:GlobAt w I) {g:Nat} {k:IntKind} {zs:List Int} {name:String} (hn:P.globalNamed name = some g) (h:Globs.g g = some (zs.map (.int k))):Lib.TabIs P w name k zs:=by
 obtain ⟨_,C,e,hC,hs⟩:=hg g _ h
 unfold Lib.TabIs World.var?
 simp only [hn,Option.bind_some,hC,Option.some.injEq]
 apply Array.ext
 ·simpa using hs
 ·intro i h1 h2
  have hi:i < zs.length:=by simpa using h2
  obtain ⟨v,hv,hr⟩:=qm5 hg h (i:=i) (c:=.int k zs[i]) (by simp [hi])
  simp only [Rel] at hr
  subst hr
  rw [qdy hC,Array.getElem?_eq_getElem h1,Option.some.injEq] at hv
  simpa using hv
theorem qo0 (w:World) (q:Nat) (os:Array Obj):RowKit.Below w.heap.size w (Sort.grow (w.drewN q) os):=
 ⟨rfl,rfl,rfl,by simp [Sort.grow,World.drewN],fun i hi=>by
  show ((w.drewN q).heap ++ os)[i]? = _
  rw [Array.getElem?_append_left (by show i < w.heap.size; omega)]
  rfl⟩
def qnb:Ent:=fun a h=>match a,h with
 | [.int .i64 n],[]=>[(decide (-9223372036854775808 <= n) && decide (n <= 9223372036854775807),.ret (.str (Lib.itoa n)),[])]
 | _,_=>[]
theorem qA3:∀ a h,(qnb a h).length <= 1:=by intro a h; unfold qnb; split <;> simp
theorem qA4 {P:Program} {ρ:Ren} (L:LaysM.n171 P ρ) (hE:qbR P (ρ.f 171)) {g:Nat} (hgg:P.globalNamed "internal/strconv.uint64pow10" = some g) (h1:Globs.g g = some (Lib.pow10Tab.map (.int .u64))):qgD P (ρ.f 171) (gOf qnb):=by
 refine qd7 hE fun a h r h' hm w I m vs H hr=>?_
 unfold qnb at hm
 split at hm
 ·rename_i n
  simp only [List.mem_singleton,Prod.mk.injEq,eq_comm (a:=true),Bool.and_eq_true,decide_eq_true_eq] at hm
  obtain ⟨⟨g0,g1⟩,rfl,rfl⟩:=hm
  simp only [qaM,Rel] at hr
  obtain ⟨_,_,rfl,rfl,rfl⟩:=hr
  refine (Any.strconv_Itoa L n g0 g1 w (qKx H.glob hgg h1)).mono ?_
  rintro e w' ⟨rfl,k,os,rfl⟩
  refine qco H ?_ (by simp [Rel])
  exact qo0 _ _ _
 ·cases hm
end Go.Eng
namespace Go.Eng
open Go.Shelf
set_option linter.unusedSectionVars false
theorem qyL {P:Program} {W:World} {n:String} {d:DataW Unit} {r:List (String × DataW Unit)} (h:laidMet P ((n,d) :: r) W) {g:Nat} (hg:P.globalNamed n = some g) {cs:Array Value} (hv:W.var? P n = some cs) (hne:0 < cs.size):∃ e,W.heap[g]? = some (.cells cs e (0,0)):=by
 obtain ⟨ps,⟨g0,t0,cs0,f0,p0,q0,hg0,ht0,hv0,hd0,_,e0⟩,_,hrows⟩:=h
 obtain rfl:=Option.some.inj (hg.symm.trans hg0)
 obtain rfl:=Option.some.inj (hv.symm.trans hv0)
 subst e0
 obtain ⟨c,t,hc⟩:=(hrows g 0 (by
  simp only [MemPlace.row,List.mem_append]
  exact .inl (.inl (by simp; omega)))).1
 unfold World.var? at hv
 rw [hg,Option.bind_some,hc] at hv
 cases hv
 exact ⟨t,hc⟩
def qs2 (W:World) (I:Imm) (g:Nat) (cs:List AV):Prop:=∃ (C:Array Value) (e:TypeId),W.heap[g]? = some (Obj.cells C e (0,0)) /\ C.size = cs.length /\ ∀ (i:Nat) (c:AV),cs[i]? = some c -> qba c = true /\ ∃ v,C[i]? = some v /\ Rel W I c m0 v
theorem qm7 {P:Program} {W:World} {I:Imm} {n:String} {k:IntKind} {zs:List Int} {r:List (String × DataW Unit)} (h:laidMet P ((n,Lib.tabData k zs) :: r) W) {g:Nat} {t e:TypeId} {m:Nat}
  (hg:P.globalNamed n = some g) (hty:(P.globals[g]?).map (·.type) = some t) (ht:P.underlying t = some (.array m e)) (he:P.underlying e = some (.int k)) (hce:P.cellsOf e = 1) (hct:P.cellsOf t = m) (hz:0 < zs.length):qs2 W I g (zs.map (.int k)):=by
 have hv:=Lib.tabIs_of_head hg hty ht he hce hct h
 unfold Lib.TabIs at hv
 obtain ⟨e',hC⟩:=qyL h hg hv (by simpa using hz)
 refine ⟨_,e',hC,by simp,fun i c hc=>?_⟩
 rw [List.getElem?_map,Option.map_eq_some_iff] at hc
 obtain ⟨z,hz,rfl⟩:=hc
 exact ⟨rfl,.int k z,by simp [hz],by simp [Rel]⟩
theorem qm6 {P:Program} {W:World} {I:Imm} {n nm:String} {text:List UInt8} {r:List (String × DataW Unit)} {g:Nat} {ti tp te ts:TypeId} {ms:Array (String × TypeId)} {f:Field}
  (h:laidMet P ((n,.iface nm (.ptr (.agg [.lit (.string text)]))) :: r) W)
  (hg:P.globalNamed n = some g) (ht:(P.globals[g]?).map (·.type) = some ti) (hi:P.underlying ti = some (.interface ms)) (hrow:∀ u,P.typeName? 3 u = some nm -> u = tp)
  (hp:P.underlying tp = some (.pointer te)) (he:P.underlying te = some (.struct #[f])) (hft:f.type = ts) (hfo:f.offset = 0) (hs:P.underlying ts = some .string) (hc:P.cellsOf te = 1) (hcs:P.cellsOf ts = 1):qs2 W I g [qDV tp]:=by
 obtain ⟨a,s,hv,hcell,_,_⟩:=laid_sentinel h hg ht hi hrow hp he hft hfo hs hc hcs
 obtain ⟨e',hC⟩:=qyL h hg hv (by simp)
 refine ⟨_,e',hC,by simp,fun i c hi=>?_⟩
 have hi0:i = 0 /\ c = qDV tp:=by
  cases i with
  | zero=>simp at hi; exact ⟨rfl,hi.symm⟩
  | succ i=>simp at hi
 obtain ⟨rfl,rfl⟩:=hi0
 refine ⟨rfl,_,rfl,?_⟩
 obtain ⟨b,o,sp⟩:=a
 have hsp:sp = none:=by
  cases sp with
  | none=>rfl
  | some x=>
   simp only [World.cell?,Option.isSome_some,if_true] at hcell
   split at hcell <;> cases hcell
 subst hsp
 simp only [qDV,Rel]
 exact ⟨_,rfl,b,o,rfl,by simp [qvQ]⟩
theorem qR7 [Globs] {W:World} {I0:Imm} (h:∀ g cs,Globs.g g = some cs -> qs2 W (fun b o=>I0 b o \/ ∃ cs,Globs.g b = some cs /\ o < cs.length) g cs):GlobAt W (fun b o=>I0 b o \/ ∃ cs,Globs.g b = some cs /\ o < cs.length):=by
 intro g cs hg
 obtain ⟨C,e,hC,hsz,hall⟩:=h g cs hg
 refine ⟨qb8.2 fun i c hc=>?_,C,e,hC,hsz⟩
 obtain ⟨h1,v,hv,hr⟩:=hall i c hc
 refine ⟨.inr ⟨cs,hg,by rw [Nat.zero_add]; exact (List.getElem?_eq_some_iff.1 hc).1⟩,h1,v,?_,hr⟩
 rw [Nat.zero_add]
 exact (qdy hC).trans hv
theorem qR8 [Globs] {W:World} {I0 I:Imm} (h:∀ g cs,Globs.g g = some cs -> qs2 W I g cs) (h0:∀ b o,I0 b o -> b < W.heap.size):∀ b o,(I0 b o \/ ∃ cs,Globs.g b = some cs /\ o < cs.length) -> b < W.heap.size:=by
 rintro b o (hb | ⟨cs,hg,_⟩)
 ·exact h0 b o hb
 ·obtain ⟨C,e,hC,_⟩:=h b cs hg
  exact (Array.getElem?_eq_some_iff.1 hC).1
end Go.Eng
namespace Go.Eng
open Go.Shelf Go.Proofs
set_option linter.unusedSectionVars false
variable [Globs]
def qoP:Ent:=fun a h=>match a,h with
 | [.str s,.str [c]],[]=>[(decide (c.toNat < 128) && decide (s.length <= 9223372036854775807),.ret (.str (Lib.trimRightB s c)),[])]
 | _,_=>[]
theorem qBN:∀ a h,(qoP a h).length <= 1:=by intro a h; unfold qoP; split <;> simp
theorem qoQ {P:Program} {ρ:Ren} (L:Lays.n162 P ρ) (hE:qbR P (ρ.f 162)):qgD P (ρ.f 162) (gOf qoP):=by
 refine qd7 hE fun a h r h' hm w I m vs H hr=>?_
 unfold qoP at hm
 split at hm
 ·rename_i s c
  simp only [List.mem_singleton,Prod.mk.injEq,eq_comm (a:=true),Bool.and_eq_true,decide_eq_true_eq] at hm
  obtain ⟨⟨hc,hs⟩,rfl,rfl⟩:=hm
  simp only [qaM,Rel] at hr
  obtain ⟨_,_,rfl,rfl,_,_,rfl,rfl,rfl⟩:=hr
  refine (Any.strings_TrimRight_one L ⟨s.toArray⟩ c hc w (by simpa [ByteArray.size] using hs)).mono ?_
  rintro e w' ⟨rfl,rfl⟩
  exact qco H (RowKit.Below.refl _ _) (by simp [Rel])
 ·cases hm
end Go.Eng
namespace Go.Eng
set_option linter.unusedSectionVars false
def sOf:AV -> List UInt8
 | .str s=>s
 | _=>[]
def isS:AV -> Bool
 | .str _=>true
 | _=>false
def qfb (l:List (List UInt8)):List (List UInt8):=l.mergeSort fun x y=>decide (x <= y)
theorem qvb (l:List (List UInt8)):(qfb l).length = l.length:=by unfold qfb; exact List.length_mergeSort ..
theorem qvY:∀ {es:List AV},es.all isS = true -> es = (es.map sOf).map .str
 | [],_=>rfl
 | x :: es,h=>by
  rw [List.all_cons,Bool.and_eq_true] at h
  rw [List.map_cons,List.map_cons,<- qvY h.2]
  cases x <;> first | rfl | cases h.1
def qxm:Ent:=fun a h=>match a,h with
 | [.nils _],[]=>[(true,.ret (.tup []),[])]
 | [.own 0 0 none],[(0,.arr 1 es false)]=>[(es.all isS && (decide (es.length ≠ 0) && decide (es.length < 4611686018427387904)),.ret (.tup []),[(0,.arr 1 ((qfb (es.map sOf)).map .str) false)])]
 | _,_=>[]
theorem qID:∀ a h,(qxm a h).length <= 1:=by intro a h; unfold qxm; split <;> simp
def qwa:Ent:=fun a h=>match a,h with
 | [.nils q],[]=>[(true,.ret (.nils q),[])]
 | [.own 0 0 none],[(0,.arr 1 es false)]=>[(es.all isS && (decide (es.length ≠ 0) && decide (es.length < 4611686018427387904)),.ret (.own 0 0 (some (Lib.compact (es.map sOf)).length)),[(0,.arr 1 ((Lib.compact (es.map sOf) ++ List.replicate (es.length - (Lib.compact (es.map sOf)).length) []).map .str) false)])]
 | _,_=>[]
theorem qDD:∀ a h,(qwa a h).length <= 1:=by intro a h; unfold qwa; split <;> simp
theorem qwb (l:List (List UInt8)):(Lib.compact l).length <= l.length:=by
 unfold Lib.compact Lib.compactUpTo
 rw [List.length_map]
 exact Nat.le_trans (List.length_filter_le _ _) (by simp)
theorem qIT (ss:List (List UInt8)):(ss.map AV.str).map sOf = ss:=by
 rw [List.map_map]
 exact (List.map_congr_left (fun x _=>rfl)).trans (List.map_id _)
end Go.Eng

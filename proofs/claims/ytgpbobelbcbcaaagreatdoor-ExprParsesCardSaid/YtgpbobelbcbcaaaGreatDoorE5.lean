/- A machine of plain values, and that what it says holds of the program. -/
import Derived.Test.YtgpbobelbcbcaaaGreatDoorE4
import Derived.Shelf.Sort.Plain
import Derived.Shelf.Slices.In.SortNone
import Derived.Shelf.Slices.CompactS
set_option linter.unusedVariables false
set_option linter.unusedSimpArgs false
set_option linter.unnecessarySimpa false
namespace Go.Eng
open Go.Shelf Go.Proofs Go.Sort Go.RowKit
set_option linter.unusedSectionVars false
variable [Globs]
theorem qIF {w:World} {blk off:Nat} {d:Array (List UInt8)} {n:Nat} {os:Array Obj} {w':World} (hw:w' = grow (putRow encStr (Sort.ahead w n) blk off d) os) :
  w.heap.size <= w'.heap.size /\ (∀ b,b < w.heap.size -> b ≠ blk -> w'.heap[b]? = w.heap[b]?) /\ (w'.os = w.os /\ w'.output = w.output /\ w'.tape = w.tape) /\
   ∀ (C:Array Value) (e:TypeId),blk < w.heap.size -> w.heap[blk]? = some (Obj.cells C e (0,0)) -> w'.heap[blk]? = some (Obj.cells (putCells encStr off d C) e (0,0)):=by
 subst hw
 have hs:(putRow encStr (Sort.ahead w n) blk off d).heap.size = w.heap.size:=size_putRow ..
 refine ⟨by rw [size_grow,hs]; omega,fun b hb hne=>?_,⟨rfl,rfl,rfl⟩,fun C e hb hC=>?_⟩
 ·rw [heap_grow_old _ _ (by rw [hs]; exact hb)]
  simp only [putRow,mapBlock,Array.getElem?_modify,Sort.ahead]
  rw [if_neg (Ne.symm hne)]
 ·rw [heap_grow_old _ _ (by rw [hs]; exact hb)]
  simp only [putRow,mapBlock,Array.getElem?_modify,Sort.ahead,if_true,hC,Option.map_some,onCells]
theorem qGK {w:World} {I:Imm} {m:Names} {ss:List (List UInt8)} {v:Value} (H:HeapAt w I m [(0,.arr 1 (ss.map .str) false)]) (h0:ss.length ≠ 0) (hr:Rel w I (.own 0 0 none) m v) :
  ∃ (Lc:Loc) (cap:Nat),m 0 = some Lc /\ Lc.num = ss.length /\ v = .slice (some ⟨Lc.blk,Lc.base,none⟩) ss.length cap /\ ss.length <= cap /\ Lc.blk < w.heap.size /\ Holds encStr w Lc.blk Lc.base ss.toArray /\
   ∀ (w':World) (ts:List (List UInt8)) (n:Nat) (os:Array Obj),ts.length = ss.length -> w' = grow (putRow encStr (Sort.ahead w n) Lc.blk Lc.base ts.toArray) os ->
    Aft w w' I I m m [(0,.arr 1 (ss.map .str) false)] [(0,.arr 1 (ts.map .str) false)] /\ ∀ k,k <= ss.length -> Rel w' I (.own 0 0 (some k)) m (.slice (some ⟨Lc.blk,Lc.base,none⟩) k cap):=by
 simp only [Rel] at hr
 obtain ⟨Lc,hL,o,cap,C,e,rfl,hcap,hbase,hnum,hC,hsz⟩:=hr
 obtain ⟨L',hL',hn,hz,hcz,C',e',hC',hsz',hcell,hI⟩:=H.at_ 0 _ rfl
 rw [hL] at hL'; cases hL'
 rw [hC] at hC'; cases hC'
 rw [List.length_map] at hn
 have hlen:qgH Lc.num 0 none = ss.length:=by rw [qc5,Nat.sub_zero,hn]
 rw [hlen] at hcap ⊢
 have ho:o = Lc.base:=by
  have:=hbase (by omega)
  rw [this]; simp
 subst ho
 have hblk:Lc.blk < w.heap.size:=(Array.getElem?_eq_some_iff.1 hC).1
 simp only [Bool.false_eq_true,if_false] at hI
 rw [List.length_map,Nat.mul_one] at hsz'
 have hat:∀ (i:Nat) (hi:i < ss.length),C[Lc.base + i]? = some (.string ⟨ss[i].toArray⟩):=by
  intro i hi
  obtain ⟨v,hv,_,hrel⟩:=hcell i (.str ss[i]) (by rw [qla,List.getElem?_map,List.getElem?_eq_getElem hi]; rfl)
  simp only [Rel] at hrel
  rw [hv,hrel]
 have hH:Holds encStr w Lc.blk Lc.base ss.toArray:=by
  intro j hj
  have hj':j < ss.length:=by simpa using hj
  refine ⟨?_,?_⟩
  ·show w.cell? (ad Lc.blk (Lc.base + j)) = _
   rw [qdy hC,hat j hj',getElem!_pos _ j hj]
   simp [encStr]
  ·simp only [World.frozen?,hC]
   simp
 refine ⟨Lc,cap,hL,hn,rfl,hcap,hblk,hH,fun w' ts n os htl hw=>?_⟩
 obtain ⟨r1,r2,r3,r4⟩:=qIF hw
 have hrow:=r4 C _ hblk hC
 have hstay:Stays w w' I:=by
  refine ⟨r1,fun b D e hD=>?_,fun b o hi=>?_,r3⟩
  ·by_cases hb:b = Lc.blk
   ·subst hb
    rw [hC] at hD; cases hD
    exact ⟨_,hrow,by simp [putCells]⟩
   ·exact ⟨D,by rw [r2 b (Array.getElem?_eq_some_iff.1 hD).1 hb]; exact hD,rfl⟩
  ·have hb:b ≠ Lc.blk:=fun he=>by subst he; exact hI o hi
   simp only [World.cell?,ad]
   rw [r2 b (H.old b o hi) hb]
 refine ⟨⟨hstay,fun _ _ h=>h,fun _ _ h=>h,⟨fun i b hb=>?_,fun i j a b L L' ha hb _ _ _=>?_,fun b o hi=>Nat.lt_of_lt_of_le (H.old b o hi) r1,H.glob.mono hstay fun _ _ h=>h⟩,fun b hlt hno=>r2 b hlt fun he=>hno ⟨0,_,Lc,rfl,hL,he.symm⟩,fun _ _ h=>.inl h,fun b hb=>.inl ?_⟩,fun k hk=>?_⟩
 ·simp only [qad] at hb
  split at hb
  ·rename_i hi
   subst hi
   cases hb
   refine ⟨Lc,hL,by rw [List.length_map,htl]; exact hn,hz,fun x hx=>?_,_,_,hrow,by rw [List.length_map,htl]; simp [putCells]; omega,fun i c hc=>?_,by simpa using hI⟩
   ·obtain ⟨s,_,rfl⟩:=List.mem_map.1 hx
    rfl
   ·rw [qla,List.getElem?_map,Option.map_eq_some_iff] at hc
    obtain ⟨s,hs,rfl⟩:=hc
    have hi:i < ss.length:=by rw [<- htl]; exact (List.getElem?_eq_some_iff.1 hs).1
    refine ⟨.string ⟨s.toArray⟩,?_,rfl,by simp [Rel]⟩
    simp only [putCells,Array.getElem?_mapIdx,hat i hi,Option.map_some,List.size_toArray,htl]
    rw [if_pos ⟨by omega,by omega⟩,show Lc.base + i - Lc.base = i by omega,getElem!_pos _ i (by simpa [htl] using hi)]
    rw [List.getElem?_eq_getElem (by rw [htl]; exact hi)] at hs
    cases hs
    simp [encStr]
  ·cases hb
 ·simp only [qad] at ha hb
  split at ha
  ·split at hb
   ·omega
   ·cases hb
  ·cases ha
 ·obtain ⟨i,x,L2,hi,hL2,hbk⟩:=hb
  simp only [qad] at hi
  split at hi
  ·rename_i hi0
   subst hi0
   exact ⟨0,_,L2,rfl,hL2,hbk⟩
  ·cases hi
 ·simp only [Rel]
  exact ⟨Lc,hL,Lc.base,cap,_,_,rfl,by rw [qnl]; omega,fun _=>by simp,hnum,hrow,by simpa [putCells] using hsz⟩
theorem qIG {P:Program} {ρ:Ren} (L:Lays.n190 P ρ) (hE:qbR P (ρ.f 190)):qgD P (ρ.f 190) (gOf qxm):=by
 refine qd7 hE fun a h r h' hm w I m vs H hr=>?_
 unfold qxm at hm
 split at hm
 ·simp only [List.mem_singleton,Prod.mk.injEq,true_and] at hm
  obtain ⟨rfl,rfl⟩:=hm
  simp only [qaM,Rel] at hr
  obtain ⟨_,_,rfl,⟨b,cap,rfl,_⟩,rfl⟩:=hr
  refine (Any.slices_Sort_string_none L b cap w).mono ?_
  rintro e w' ⟨rfl,rfl⟩
  exact qco H (RowKit.Below.refl _ _) (by simp [Rel,qaM])
 ·rename_i es
  simp only [List.mem_singleton,Prod.mk.injEq,eq_comm (a:=true),Bool.and_eq_true,decide_eq_true_eq] at hm
  obtain ⟨⟨hs,h0,hlt⟩,rfl,rfl⟩:=hm
  obtain ⟨ss,hss⟩:∃ ss:List (List UInt8),es = ss.map .str:=⟨_,qvY hs⟩
  subst hss
  rw [qIT]
  rw [List.length_map] at h0 hlt
  simp only [qaM] at hr
  obtain ⟨v,_,rfl,hv,rfl⟩:=hr
  obtain ⟨Lc,cap,hL,hn,rfl,hcap,hblk,hH,hk⟩:=qGK H h0 hv
  refine (Any.slices_Sort_string L Lc.blk Lc.base cap ss w hH hblk hlt).mono ?_
  rintro e w' ⟨rfl,n,os,hw⟩
  exact ⟨I,m,(hk w' (qfb ss) n os (qvb ss) hw).1,_,rfl,by simp [Rel,qaM]⟩
 ·cases hm
theorem qDE {P:Program} {ρ:Ren} (L:Lays.n194 P ρ) (hE:qbR P (ρ.f 194)):qgD P (ρ.f 194) (gOf qwa):=by
 refine qd7 hE fun a h r h' hm w I m vs H hr=>?_
 unfold qwa at hm
 split at hm
 ·rename_i q
  simp only [List.mem_singleton,Prod.mk.injEq,true_and] at hm
  obtain ⟨rfl,rfl⟩:=hm
  simp only [qaM] at hr
  obtain ⟨v,_,rfl,hv,rfl⟩:=hr
  obtain ⟨b,cap,rfl,hx⟩:=by simpa only [Rel] using hv
  refine (Any.slices_Compact_string_empty L b cap w).mono ?_
  rintro e w' ⟨rfl,rfl⟩
  exact qco H (RowKit.Below.refl _ _) hv
 ·rename_i es
  simp only [List.mem_singleton,Prod.mk.injEq,eq_comm (a:=true),Bool.and_eq_true,decide_eq_true_eq] at hm
  obtain ⟨⟨hs,h0,hlt⟩,rfl,rfl⟩:=hm
  obtain ⟨ss,hss⟩:∃ ss:List (List UInt8),es = ss.map .str:=⟨_,qvY hs⟩
  subst hss
  rw [qIT]
  rw [List.length_map] at h0 hlt ⊢
  simp only [qaM] at hr
  obtain ⟨v,_,rfl,hv,rfl⟩:=hr
  obtain ⟨Lc,cap,hL,hn,rfl,hcap,hblk,hH,hk⟩:=qGK H h0 hv
  refine (Any.slices_Compact_string L Lc.blk Lc.base cap ss w hH (by omega) hcap).mono ?_
  rintro e w' ⟨rfl,n,hw⟩
  have hc:=qwb ss
  have hk':=hk w' (Lib.compact ss ++ List.replicate (ss.length - (Lib.compact ss).length) []) n #[] (by rw [List.length_append,List.length_replicate]; omega) (by rw [hw,grow_empty])
  exact ⟨I,m,hk'.1,_,rfl,hk'.2 _ hc⟩
 ·cases hm
end Go.Eng

/- wire.Pack, walked through the program's text: texts behind one another, each behind its length. -/
import Derived.WalkKit
import Derived.KernelRfl
import Derived.Lib.AppendStr
import Derived.Laws.IdiomStrings
import Derived.Shelf.Strconv.AppendIntPublic10
import Derived.Test.YtbieppilagmdjaaGreatDoorIr35
import Derived.Test.YtbieppilagmdjaaGreatDoorSh35
import Derived.Test.YtbieppilagmdjaaGreatDoorPkA
set_option linter.unusedVariables false
set_option linter.unusedSimpArgs false
set_option linter.unnecessarySimpa false
namespace Go.Proofs.H35
open Go Go.Eng Go.Tk Go.Proofs Go.RowKit Go.Shelf
set_option maxRecDepth 100000
theorem qSv:(Tryz.prog.info? 5).map (fun i=>(i.zero,i.size,i.bytes)) = some (some (.int .u8 0),1,1):=by kernel_rfl
theorem qgZ (a b:List UInt8):Lib.byteCells (a ++ b) = Lib.byteCells a ++ Lib.byteCells b:=by simp [Lib.byteCells]
theorem strCells_eq (s:List UInt8):Lib.strCells ⟨s.toArray⟩ = Lib.byteCells s:=by simp [Lib.strCells,Lib.byteCells]
theorem qGd (w:World) (v:Value) (T:TypeId):∀ (j:Nat) (u:Value),[v][j]? = some u -> (w.alloc (.cells #[v] T)).cell? ((⟨w.heap.size,0,none⟩:Addr).add j) = some u:=by
 intro j u hj
 cases j with
 | zero=>
  simp at hj; subst hj
  exact (qcb (heap_alloc_new w _)).trans rfl
 | succ j=>simp at hj
theorem qzB {wr:World} {B:Nat} {v:Value} {l:List UInt8} (hown:wr.ownsRow B 5 1 v l.length (Lib.byteCells l)):(convert 310 9 v).run Tryz.prog wr = .ok (.string ⟨l.toArray⟩) wr:=by
 rcases hown.2 with ⟨rfl,hx⟩ | ⟨g,cap,cur,rfl,_⟩
 ·have:l = []:=by
   cases l with
   | nil=>rfl
   | cons a l=>simp [Lib.byteCells] at hx
  subst this
  rw [run_convert_bytes_string wr 310 9 5 none 0 0 Tryz.underlying310 Tryz.underlying5 Tryz.underlying9]
  rfl
 ·exact run_convert_bytes_back wr 310 9 5 ⟨g,0,none⟩ cap l Tryz.underlying310 Tryz.underlying5 Tryz.underlying9 (fun j hj=>hown.cells (g:=g) rfl j _ (by simp [Lib.byteCells,hj]))
set_option maxHeartbeats 3200000 in
theorem qxm (l:List (List UInt8)) (p:Option Addr) (b o cap:Nat) (w:World) (hp:0 < l.length -> p = some ⟨b,o,none⟩ /\ b < w.heap.size)
  (hc:∀ (i:Nat) (h:i < l.length),w.cell? ⟨b,o + i,none⟩ = some (.string ⟨l[i].toArray⟩)) (hL:l.length <= 1000000) (hN:(qdl l).length <= 1000000)
  (htab:Lib.TabBelow Tryz.prog w.heap.size w "internal/strconv.uint64pow10" .u64 Lib.pow10Tab) :
  Calls Tryz.prog 189 #[.slice p l.length cap] w fun e w'=>e = .returned (.string ⟨(qdl l).toArray⟩) /\ Below w.heap.size w w':=by
 obtain ⟨i5,hi,hz0,hz1,hz2⟩:=info_parts qSv
 obtain ⟨B,hB⟩:∃ B,B = w.heap.size:=⟨_,rfl⟩
 rw [<- hB] at htab hp ⊢
 go_enter Tryz.func189,Tryz.ntmps189
 go_wp2
 go_loopw [3,8] (fun v i wr=>∃ k:Nat,k <= l.length /\ i = .int .i64 k /\ wr.ownsRow B 5 1 v (qdl (l.take k)).length (Lib.byteCells (qdl (l.take k))) /\ Below B w wr)
  (fun _ i _=>l.length - (RowKit.intOf i).toNat)
 case atStart=>exact ⟨0,Nat.zero_le _,rfl,World.ownsRow_nil _ _ _ _,Below.refl _ _⟩
 case round=>
  obtain ⟨k,hk,rfl,hown,hnx⟩:=hrel
  by_cases hlt:k < l.length
  ·obtain ⟨rfl,hb⟩:=hp (by omega)
   have hck:wr.cell? ⟨b,o + k,none⟩ = some (.string ⟨l[k].toArray⟩):=(hnx.cell (p:=⟨b,_,none⟩) hb).trans (hc k hlt)
   have hsz:=hnx.size
   have hlen:=qnK l (k + 1)
   have hstep:=qxl l hlt
   have hlen2:(qdl (l.take (k + 1))).length = (qdl (l.take k)).length + ((Lib.itoa (l[k].length:Int)).length + (1 + l[k].length)):=by rw [hstep]; simp; omega
   have hs5:(⟨l[k].toArray⟩:ByteArray).size = l[k].length:=rfl
   have hms:(qdl (l.take (k + 1))).length <= 1000000:=by omega
   go_wp2_with (first
    | (go_at_call 218; refine (Any.strconv_AppendInt_10 Tryz.laysM176 B _ (l[k].length:Int) (by omega) (by omega) _ _ _ hown (by omega) (by omega) (htab.on hnx)).mono ?_; rintro e w1 ⟨v1,rfl,hown1,hb1,_⟩)
    | (at_builtin; refine wpList_append_own _ rfl (.tmp 16) (.tmp 17) 310 rfl B 5 i5 (.int .u8 0) 1 1 Tryz.underlying310 hi hz0 hz1 hz2 rfl (by decide) _ _ _ rfl (hown1.alloc _) ⟨w1.heap.size,0,none⟩ 1 1 [.int .u8 58] rfl rfl (qGd _ _ _) (by intro u hu; simp at hu; subst hu; rfl) (by unfold maxLen; omega) (by omega) (by have:=hb1.size; simp; omega) ?_; intro v2 w2 hown2 hg2 _)
    | (at_builtin; refine Lib.wpList_append_own_string _ rfl (.tmp 19) (.tmp 20) 310 9 rfl B 5 i5 Tryz.underlying310 Tryz.underlying9 hi hz0 hz1 hz2 _ _ _ rfl hown2 ⟨l[k].toArray⟩ rfl (by rw [hs5]; unfold maxLen; omega) (by rw [hs5]; omega) (by have:=hb1.size; have:=hg2.size; simp at this; omega) ?_; intro v3 w3 hown3 hg3 _)
    | go_in)
   have hB3:Below B w w3:=(((hnx.trans hb1).alloc (by have:=hb1.size; omega) _).grown hg2 (by have:=hb1.size; simp; omega) (fun j hj=>(hown1.lt j hj).1)).grown hg3 (by have:=hb1.size; have:=hg2.size; simp at this; omega) (fun j hj=>(hown2.lt j hj).1)
   have hl3:(qdl (l.take k)).length + (Lib.itoa (l[k].length:Int)).length + 1 + (⟨l[k].toArray⟩:ByteArray).size = (qdl (l.take (k + 1))).length:=by rw [hs5,hlen2]; omega
   have hx3:Lib.byteCells (qdl (l.take k)) ++ Lib.byteCells (Lib.itoa (l[k].length:Int)) ++ [.int .u8 58] ++ Lib.strCells ⟨l[k].toArray⟩ = Lib.byteCells (qdl (l.take (k + 1))):=by
    rw [hstep,qgZ,qgZ,strCells_eq]
    simp [Lib.byteCells]
   rw [hl3,hx3] at hown3
   go_roundw
   case rel=>exact ⟨k + 1,by omega,by simp,hown3,hB3⟩
   case measure=>simp [RowKit.intOf]; omega
  ·obtain rfl:k = l.length:=by omega
   have hcv:=qzB hown
   rw [List.take_length] at hcv
   go_wp2
   go_ret
   exact ⟨rfl,hnx⟩
theorem qEs {P:Program} {w:World} {I:Imm} (hg:GlobAt w I) {g:Nat} {zs:List Int} {name:String} (hn:P.globalNamed name = some g) (h:Globs.g g = some (zs.map (.int .u64))):Lib.TabBelow P w.heap.size w name .u64 zs:=by
 intro w' hb
 have h0:=quQ (P:=P) hg hn h
 obtain ⟨_,C,e,hC,_⟩:=hg g _ h
 have hlt:g < w.heap.size:=(Array.getElem?_eq_some_iff.1 hC).1
 unfold Lib.TabIs World.var? at h0 ⊢
 simp only [hn,Option.bind_some] at h0 ⊢
 rw [hb.block g hlt]
 exact h0
theorem qDh:qdU Tryz.prog 189 (gOf qDg):=by
 refine qfK ⟨_,Tryz.func189,by kernel_rfl,by kernel_rfl⟩ fun a h r h' hm w I m vs H hr=>?_
 unfold qDg at hm
 split at hm
 ·rename_i es
  simp only [List.mem_singleton,Prod.mk.injEq,eq_comm (a:=true)] at hm
  obtain ⟨hb,rfl,rfl⟩:=hm
  simp only [qS8,Bool.and_eq_true,decide_eq_true_eq,List.all_eq_true] at hb
  obtain ⟨hs,hL,hN⟩:=hb
  simp only [qaw] at hr
  obtain ⟨v,_,rfl,hv,rfl⟩:=hr
  simp only [Rel] at hv
  obtain ⟨p,cap,rfl,hle,hE,_⟩:=hv
  have key:∃ b o,(0 < (es.map bsO).length -> p = some ⟨b,o,none⟩ /\ b < w.heap.size) /\ ∀ (i:Nat) (h:i < (es.map bsO).length),w.cell? ⟨b,o + i,none⟩ = some (.string ⟨(es.map bsO)[i].toArray⟩):=by
   rcases hE with h0 | ⟨b,o,rfl,hE⟩
   ·exact ⟨0,0,fun h=>by rw [List.length_map] at h; omega,fun i h=>by rw [List.length_map] at h; omega⟩
   ·have hA:=(qdx.1 hE).2
    have fl:flat es = es:=by
     have:∀ l:List AV,(∀ x ∈ l,qUV x = true) -> flat l = l:=by
      intro l
      induction l with
      | nil=>intro _; rfl
      | cons x l ih=>
       intro hx
       have e:qac x = [x]:=by
        have:=hx x (by simp)
        cases x <;> simp [qUV] at this
        rfl
       show qac x ++ flat l = x :: l
       rw [e,ih fun y hy=>hx y (by simp [hy])]; rfl
     exact this es hs
    rw [fl] at hA
    have cell:∀ (i:Nat) (h:i < es.length),∃ s,es[i] = .str s /\ w.cell? ⟨b,o + i,none⟩ = some (.string ⟨s.toArray⟩) /\ b < w.heap.size:=by
     intro i h
     obtain ⟨hI,_,v,hv,hr⟩:=hA i es[i] (List.getElem?_eq_getElem h)
     have h1:=hs es[i] (List.getElem_mem h)
     cases hq:es[i] <;> rw [hq] at h1 hr <;> simp [qUV] at h1
     rename_i s
     simp only [Rel] at hr
     subst hr
     exact ⟨s,rfl,hv,H.old _ _ hI⟩
    refine ⟨b,o,fun h=>⟨rfl,?_⟩,fun i h=>?_⟩
    ·rw [List.length_map] at h
     obtain ⟨_,_,_,h3⟩:=cell 0 h
     exact h3
    ·rw [List.length_map] at h
     obtain ⟨s,h1,h2,_⟩:=cell i h
     rw [h2,List.getElem_map,h1]; rfl
  obtain ⟨b,o,hp,hc⟩:=key
  have hlm:es.length = (es.map bsO).length:=by rw [List.length_map]
  rw [hlm]
  refine (qxm (es.map bsO) p b o cap w hp hc (by rw [List.length_map]; exact hL) hN (qEs H.glob (by kernel_rfl) (by kernel_rfl:Globs.g 3 = some (Lib.pow10Tab.map (.int .u64))))).mono ?_
  rintro e w' ⟨rfl,hB⟩
  exact qb7 H hB (by simp [Rel])
 ·cases hm
end Go.Proofs.H35

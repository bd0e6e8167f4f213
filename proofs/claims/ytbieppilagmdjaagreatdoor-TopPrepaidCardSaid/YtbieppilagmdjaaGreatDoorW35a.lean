/- balance.Of, walked through the program's text: a range over the movements. -/
import Derived.RangeFuncNested
import Derived.RangeFuncFrom
import Derived.RangeFuncBound
import Derived.RangeFuncCalls
import Derived.RangeFuncLeaves
import Derived.Shelf.Abstract
import Derived.Shelf.RegionOpen
import Derived.WalkKit
import Derived.OwnWalkIn
import Derived.TacticsInMore
import Derived.LoopNIn
import Derived.LoopIn
import Derived.KernelRfl
import Derived.Test.YtbieppilagmdjaaGreatDoorIr35
import Derived.Test.YtbieppilagmdjaaGreatDoorOfA
import Derived.Test.YtbieppilagmdjaaGreatDoorProg
set_option linter.unusedVariables false
set_option linter.unusedSimpArgs false
set_option linter.unnecessarySimpa false
namespace Go.Proofs.H35
open Go Go.Eng Go.Tk Go.Proofs Go.RowKit Go.Shelf
set_option maxRecDepth 100000
attribute [local go_sem] Oper.semAt_some
def LgsAt (n:Nat) (W:World) (v:Value) (l:List Leg):Prop:=∃ p b o cap,v = .slice p l.length cap /\ (0 < l.length -> p = some ⟨b,o,none⟩ /\ b < n) /\
 ∀ (i:Nat) (h:i < l.length),W.cell? ⟨b,o + i * 3,none⟩ = some (.int .i64 l[i].acc) /\ W.cell? ⟨b,o + i * 3 + 1,none⟩ = some (.int .i64 l[i].amt) /\ W.cell? ⟨b,o + i * 3 + 2,none⟩ = some (.string ⟨l[i].cur.toArray⟩)
def EnrAt (W:World) (b o:Nat) (x:Enr) (v:Value):Prop:=
 W.cell? ⟨b,o,none⟩ = some (.int .i64 x.id) /\ W.cell? ⟨b,o + 1,none⟩ = some (.int .i64 x.booked) /\ W.cell? ⟨b,o + 2,none⟩ = some (.int .i64 x.value) /\ W.cell? ⟨b,o + 3,none⟩ = some (.int .i64 x.kind) /\
 W.cell? ⟨b,o + 4,none⟩ = some (.int .i64 x.auth) /\ W.cell? ⟨b,o + 5,none⟩ = some (.int .i64 x.period) /\ W.cell? ⟨b,o + 6,none⟩ = some (.string ⟨x.key.toArray⟩) /\ W.cell? ⟨b,o + 7,none⟩ = some (.string ⟨x.text.toArray⟩) /\
 W.cell? ⟨b,o + 8,none⟩ = some v /\ W.cell? ⟨b,o + 9,none⟩ = some (.int .u64 x.chain)
def JrAt (n:Nat) (W:World) (v:Value) (l:List Enr):Prop:=∃ p b o cap,v = .slice p l.length cap /\ (0 < l.length -> p = some ⟨b,o,none⟩ /\ b < n) /\
 ∀ (i:Nat) (h:i < l.length),∃ lv,EnrAt W b (o + i * 10) l[i] lv /\ LgsAt n W lv l[i].legs
theorem LgsAt.below {n:Nat} {A B:World} (h:Below n A B) {v:Value} {l:List Leg} (H:LgsAt n A v l):LgsAt n B v l:=by
 obtain ⟨p,b,o,cap,hv,hp,hc⟩:=H
 refine ⟨p,b,o,cap,hv,hp,fun i hi=>?_⟩
 have hb:=(hp (by omega)).2
 obtain ⟨c0,c1,c2⟩:=hc i hi
 exact ⟨(h.cell (p:=⟨b,_,none⟩) hb).trans c0,(h.cell (p:=⟨b,_,none⟩) hb).trans c1,(h.cell (p:=⟨b,_,none⟩) hb).trans c2⟩
theorem EnrAt.below {n:Nat} {A B:World} (h:Below n A B) {b o:Nat} (hb:b < n) {x:Enr} {v:Value} (H:EnrAt A b o x v):EnrAt B b o x v:=by
 obtain ⟨c0,c1,c2,c3,c4,c5,c6,c7,c8,c9⟩:=H
 have k:∀ q,B.cell? ⟨b,q,none⟩ = A.cell? ⟨b,q,none⟩:=fun q=>h.cell (p:=⟨b,q,none⟩) hb
 exact ⟨(k _).trans c0,(k _).trans c1,(k _).trans c2,(k _).trans c3,(k _).trans c4,(k _).trans c5,(k _).trans c6,(k _).trans c7,(k _).trans c8,(k _).trans c9⟩
theorem JrAt.below {n:Nat} {A B:World} (h:Below n A B) {v:Value} {l:List Enr} (H:JrAt n A v l):JrAt n B v l:=by
 obtain ⟨p,b,o,cap,hv,hp,hc⟩:=H
 refine ⟨p,b,o,cap,hv,hp,fun i hi=>?_⟩
 obtain ⟨lv,h1,h2⟩:=hc i hi
 exact ⟨lv,h1.below h (hp (by omega)).2,h2.below h⟩
abbrev qWI (x:Value × Int):Array Value:=#[x.1,.int .i64 x.2]
def KpA (n:Nat) (Bn:Nat) (A B:World):Prop:=Below n A B /\ A.heap.size <= B.heap.size /\ ∀ q v,q.block ≠ Bn -> A.cell? q = some v -> B.cell? q = some v
abbrev qFd (l:List (Value × Int)):List Int:=l.map (·.2)
theorem qOR (n:Int):IntKind.wrap .i64 n = RowKit.wrap64 n:=by
 exact Go.IntWalk.i64_left n
theorem wrap_small {k:Nat} (h:k < 140737488355328):RowKit.wrap64 ((k:Int) + 1) = (k:Int) + 1:=by
 unfold RowKit.wrap64
 omega
theorem meas {n q:Nat} (h:q < n) (hn:n <= 140737488355328):n - (RowKit.intOf (.int .i64 (RowKit.wrap64 ((q:Int) + 1)))).toNat < n - (RowKit.intOf (.int .i64 (q:Int))).toNat:=by
 rw [wrap_small (by omega)]
 show n - ((q:Int) + 1).toNat < n - (q:Int).toNat
 omega
set_option maxHeartbeats 4000000 in
theorem qN3 (F:Fence) (n:Nat) (h111:F.fn 111) (hro:F.round = none) (hn:1 <= n) (l Bj Ba Bn n₀:Nat) (a:Int) (p:Option Addr) (b o cap:Nat) (L:List Enr) (hp:0 < L.length -> p = some ⟨b,o,none⟩ /\ b < n₀) (J Jx:List (Value × Int) -> World -> Prop)
  (hJ:∀ pre A B,J pre A -> Below A.heap.size A B -> J pre B)
  (hY:∀ pre x W,J pre W -> pre.length < (ams a L).length -> YieldAt F (n - 1) Tryz.prog l (qWI x) W fun e W'=>
   (e = .returned (.bool true) /\ J (pre ++ [x]) W' /\ KpA n₀ Bn W W') \/ (e = .returned (.bool false) /\ Jx (pre ++ [x]) W'))
  (W:World) (hn0:n₀ <= W.heap.size) (hBn:Bn < W.heap.size) (hBa:Ba ≠ Bn) (hj:W.cell? ⟨Bj,0,none⟩ = some (.slice p L.length cap)) (ha:W.cell? ⟨Ba,0,none⟩ = some (.int .i64 a)) (hc:∀ (i:Nat) (h:i < L.length),∃ lv,EnrAt W b (o + i * 10) L[i] lv /\ LgsAt n₀ W lv L[i].legs) (hL:L.length <= 140737488355328) (hLg:∀ (i:Nat) (h:i < L.length),L[i].legs.length <= 140737488355328) (h0:J [] W) :
  CallsIn F n Tryz.prog 111 #[.func (.yield l) #[] #[],.pointer (some ⟨Bj,0,none⟩),.pointer (some ⟨Ba,0,none⟩)] W fun e W'=>(∃ v,e = .returned v) /\
   ((∃ ys,qFd ys = ams a L /\ J ys W') \/ (∃ pre,True /\ Jx pre W')):=by
 refine callsIn_of_wp Tryz.func111 rfl h111 ?_ hro
 simp only [Tryz.ntmps111,List.size_toArray,List.length_cons,List.length_nil,Nat.reduceAdd,Nat.reduceSub,Array.replicate_succ,Array.replicate_zero,List.push_toArray,List.append_toArray,List.nil_append,List.cons_append]
 gi_wp2
 gi_loopw [10] (fun i wr=>∃ (k:Nat) (ys:List (Value × Int)),k <= L.length /\ i = .int .i64 k /\ qFd ys = ams a (L.take k) /\ J ys wr /\ Below n₀ W wr /\ W.heap.size <= wr.heap.size /\ wr.cell? ⟨Ba,0,none⟩ = some (.int .i64 a))
  (fun i _=>L.length - (RowKit.intOf i).toNat)
 case atStart=>exact ⟨0,[],Nat.zero_le _,rfl,rfl,h0,Below.refl _ _,Nat.le_refl _,ha⟩
 case round=>
  obtain ⟨k,ys,hk,rfl,hys,hJs,hB,hsz,haw⟩:=hrel
  obtain ⟨w1,rfl⟩:∃ w1,w1 = wr:=⟨_,rfl⟩
  by_cases hlt:k < L.length
  ·obtain ⟨rfl,hb⟩:=hp (by omega)
   obtain ⟨lv,he,hl⟩:=hc k hlt
   have he:=he.below hB hb
   have hl:=hl.below hB
   obtain ⟨lp,lb,lo,lcap,rfl,hlp,hlc⟩:=hl
   obtain ⟨c0,c1,c2,c3,c4,c5,c6,c7,c8,c9⟩:=he
   gi_wp2
   have hB1:Below w1.heap.size w1 (w1.alloc (Obj.cells #[.int .i64 L[k].id,.int .i64 L[k].booked,.int .i64 L[k].value,.int .i64 L[k].kind,.int .i64 L[k].auth,.int .i64 L[k].period,.string ⟨L[k].key.toArray⟩,.string ⟨L[k].text.toArray⟩,.slice lp L[k].legs.length lcap,.int .u64 L[k].chain] 99)):=(Below.refl _ _).alloc (Nat.le_refl _) _
   have hE1:EnrAt (w1.alloc (Obj.cells #[.int .i64 L[k].id,.int .i64 L[k].booked,.int .i64 L[k].value,.int .i64 L[k].kind,.int .i64 L[k].auth,.int .i64 L[k].period,.string ⟨L[k].key.toArray⟩,.string ⟨L[k].text.toArray⟩,.slice lp L[k].legs.length lcap,.int .u64 L[k].chain] 99)) w1.heap.size 0 L[k] (.slice lp L[k].legs.length lcap):=by
    refine ⟨?_,?_,?_,?_,?_,?_,?_,?_,?_,?_⟩ <;> exact (qcb (heap_alloc_new w1 _)).trans rfl
   have hba:Ba < w1.heap.size:=by
    simp only [World.cell?] at haw
    by_cases h:Ba < w1.heap.size
    ·exact h
    ·rw [Array.getElem?_eq_none (by omega)] at haw; cases haw
   gi_loopw [17] (fun i wr=>∃ (q:Nat) (zs:List (Value × Int)),q <= L[k].legs.length /\ i = .int .i64 q /\ qFd zs = ams a (L.take k) ++ amE a (L[k].legs.take q) /\ J zs wr /\ Below n₀ W wr /\ Below n₀ w1 wr /\ w1.heap.size < wr.heap.size /\ W.heap.size <= wr.heap.size /\ wr.cell? ⟨Ba,0,none⟩ = some (.int .i64 a) /\ EnrAt wr w1.heap.size 0 L[k] (.slice lp L[k].legs.length lcap))
    (fun i _=>L[k].legs.length - (RowKit.intOf i).toNat)
   case atStart=>exact ⟨0,ys,Nat.zero_le _,rfl,by simpa [amE] using hys,hJ _ _ _ hJs hB1,hB.trans (hB1.mono (by omega)),hB1.mono (by omega),by simp,Nat.le_trans hsz hB1.size,(hB1.cell (p:=⟨Ba,0,none⟩) hba).trans haw,hE1⟩
   case round=>
    obtain ⟨q,zs,hq,rfl,hzs,hJz,hB2,hw2,hw12,hsz2,ha2,hE2⟩:=hrel
    by_cases hlq:q < L[k].legs.length
    ·obtain ⟨rfl,hlb⟩:=hlp (by omega)
     obtain ⟨l0,l1,l2⟩:=hlc q hlq
     have d0:wr.cell? ⟨lb,lo + q * 3,none⟩ = some (.int .i64 L[k].legs[q].acc):=(hw2.cell (p:=⟨lb,_,none⟩) hlb).trans l0
     have d1:wr.cell? ⟨lb,lo + q * 3 + 1,none⟩ = some (.int .i64 L[k].legs[q].amt):=(hw2.cell (p:=⟨lb,_,none⟩) hlb).trans l1
     have d2:wr.cell? ⟨lb,lo + q * 3 + 2,none⟩ = some (.string ⟨L[k].legs[q].cur.toArray⟩):=(hw2.cell (p:=⟨lb,_,none⟩) hlb).trans l2
     clear l0 l1 l2
     have hB3:Below wr.heap.size wr (wr.alloc (Obj.cells #[.int .i64 L[k].legs[q].acc,.int .i64 L[k].legs[q].amt,.string ⟨L[k].legs[q].cur.toArray⟩] 95)):=(Below.refl _ _).alloc (Nat.le_refl _) _
     have ha3:=(hB3.cell (p:=⟨Ba,0,none⟩) (by show Ba < wr.heap.size; omega)).trans ha2
     have hE3:=hE2.below hB3 hw12
     have hJ3:=hJ _ _ _ hJz hB3
     simp only [EnrAt,Nat.zero_add] at hE3
     obtain ⟨e0,e1,e2,e3,e4,e5,e6,e7,e8,e9⟩:=hE3
     by_cases hca:L[k].legs[q].acc = a
     ·obtain ⟨fn,tmps,assign,body,hy,hR⟩:=hY zs (.agg #[.int .i64 L[k].id,.int .i64 L[k].booked,.int .i64 L[k].value,.int .i64 L[k].kind,.int .i64 L[k].auth,.int .i64 L[k].period,.string ⟨L[k].key.toArray⟩,.string ⟨L[k].text.toArray⟩,.slice (some ⟨lb,lo,none⟩) L[k].legs.length lcap,.int .u64 L[k].chain],L[k].legs[q].amt) _ hJ3 (by
       have:=qVW a hlt hlq hca
       rw [<- hzs] at this; simpa using this)
      dsimp only [qWI] at hy
      subst hca
      gi_wp2
      refine hR.mono ?_
      rintro e W3 (⟨rfl,hJ4,hk4,hk5,hk6⟩ | ⟨rfl,hJx⟩)
      ·gi_wp2
       go_roundw
       case rel=>
        have hz:w1.heap.size ≠ Bn:=by omega
        refine ⟨q + 1,_,by omega,by simp [wrap_small (k:=q) (Nat.lt_of_lt_of_le hlq (hLg k hlt))],?_,hJ4,(hB2.trans (hB3.mono (by omega))).trans hk4,(hw2.trans (hB3.mono (by omega))).trans hk4,by simp at hk5; omega,by simp at hk5; omega,hk6 ⟨Ba,0,none⟩ _ hBa ha3,?_⟩
        ·rw [qnb _ hlq,if_pos rfl]; simp [hzs]
        ·simp only [EnrAt,Nat.zero_add]
         exact ⟨hk6 _ _ hz e0,hk6 _ _ hz e1,hk6 _ _ hz e2,hk6 _ _ hz e3,hk6 _ _ hz e4,hk6 _ _ hz e5,hk6 _ _ hz e6,hk6 _ _ hz e7,hk6 _ _ hz e8,hk6 _ _ hz e9⟩
       case measure=>exact meas hlq (hLg k hlt)
      ·gi_wp2
       refine bodyPost_ret (results_none rfl _ _ _) rfl ?_
       exact ⟨⟨_,rfl⟩,.inr ⟨_,trivial,hJx⟩⟩
     ·gi_wp2
      refine ⟨fun _ h=>(by cases h),?_⟩
      gi_wp2
      go_roundw
      case rel=>
       refine ⟨q + 1,zs,by omega,by simp [wrap_small (k:=q) (Nat.lt_of_lt_of_le hlq (hLg k hlt))],by rw [qnb _ hlq,if_neg hca]; simpa using hzs,hJ3,hB2.trans (hB3.mono (by omega)),hw2.trans (hB3.mono (by omega)),by simp; omega,by simp; omega,ha3,?_⟩
       simp only [EnrAt,Nat.zero_add]
       exact ⟨e0,e1,e2,e3,e4,e5,e6,e7,e8,e9⟩
      case measure=>exact meas hlq (hLg k hlt)
    ·obtain rfl:q = L[k].legs.length:=by omega
     gi_wp2
     go_roundw
     case rel=>exact ⟨k + 1,zs,by omega,by simp [wrap_small (k:=k) (by omega)],by rw [quq a hlt]; simpa using hzs,hJz,hB2,hsz2,ha2⟩
     case measure=>show L.length - ((k:Int) + 1).toNat < L.length - (k:Int).toNat; omega
  ·obtain rfl:k = L.length:=by omega
   gi_wp2
   go_end0
   exact ⟨⟨_,rfl⟩,.inl ⟨_,by simpa using hys,hJs⟩⟩
theorem qhF (W:World) (v:Value) (t:TypeId):(W.alloc (.cells #[v] t)).cell? ⟨W.heap.size,0,none⟩ = some v /\ (W.alloc (.cells #[v] t)).frozen? ⟨W.heap.size,0,none⟩ = false:=
 ⟨(qcb (heap_alloc_new W _)).trans rfl,by unfold World.frozen?; rw [show (W.alloc (.cells #[v] t)).heap[(⟨W.heap.size,0,none⟩:Addr).block]? = _ from heap_alloc_new W _]; rfl⟩
theorem qdr {W:World} {a:Addr} {v:Value} (o:Obj) (h:W.cell? a = some v):(W.alloc o).cell? a = some v:=cell_kept h (World.grownBy_alloc W o none) (fun r e=>by cases e)
theorem qf6 {W:World} {a:Addr} {v:Value} (o:Obj) (h:W.cell? a = some v) (hf:W.frozen? a = false):(W.alloc o).frozen? a = false:=(frozen_kept h (World.grownBy_alloc W o none) (fun r e=>by cases e)).trans hf
theorem KpA.t {n Bn:Nat} {A B C:World} (h:KpA n Bn A B) (k:KpA n Bn B C):KpA n Bn A C:=
 ⟨h.1.trans k.1,Nat.le_trans h.2.1 k.2.1,fun q v hq hv=>k.2.2 q v hq (h.2.2 q v hq hv)⟩
theorem KpA.b {n Bn:Nat} {w:World} (hn:n <= w.heap.size) (W:World) (l:Nat) (o o':Obj) (hl:w.heap.size <= l) (ho:W.heap[l]? = some o) (hc:o.isCells = false) (hw:o.isWalk = false):KpA n Bn W (W.putObj l o'):=by
 have hb:Below n W (W.putObj l o'):=belowK_b (w:=w) hn W l o o' hl ho hc hw
 exact ⟨hb,hb.size,fun q v _ hv=>cell_kept hv (grownBy_putObj' _ l o') (fun r e=>by cases e; exact ⟨_,ho,hc⟩)⟩
theorem qGc (F:Fence) (n:Nat) (h111:F.fn 111) (hro:F.round = none) (hn:1 <= n) (Bj Ba Bn n₀:Nat) (a:Int) (sv:Value) (L:List Enr) (w:World) (hn0:n₀ <= w.heap.size) (hBj:Bj < w.heap.size) (hBa:Ba < w.heap.size) (hBn:Bn < w.heap.size) (hne:Ba ≠ Bn)
  (hj:w.cell? ⟨Bj,0,none⟩ = some sv) (ha:w.cell? ⟨Ba,0,none⟩ = some (.int .i64 a)) (hv:JrAt n₀ w sv L) (hL:L.length <= 140737488355328) (hLg:∀ (i:Nat) (h:i < L.length),L[i].legs.length <= 140737488355328) :
  SeqStopsK F n Tryz.prog 111 #[.pointer (some ⟨Bj,0,none⟩),.pointer (some ⟨Ba,0,none⟩)] qWI (KpA n₀ Bn) (fun ys=>qFd ys = ams a L) (fun _=>True) (ams a L).length w:=fun l J Jx W hW hJ _ hY h0=>by
 obtain ⟨p,b,o,cap,rfl,hp,hc⟩:=hv.below (hW.mono hn0)
 have hs:=hW.size
 exact qN3 F n h111 hro hn l Bj Ba Bn n₀ a p b o cap L hp J Jx
  (fun pre A B hs hb=>hJ pre A B none hs ⟨hb.os,hb.tape,hb.output,hb.size,fun k hk _=>hb.block k hk⟩ (fun r e=>by cases e))
  hY W (by omega) (by omega) hne ((hW.cell (p:=⟨Bj,0,none⟩) hBj).trans hj) ((hW.cell (p:=⟨Ba,0,none⟩) hBa).trans ha) hc hL hLg h0
theorem qq6 (F:Fence) (n:Nat) (h73:F.fn 73) (hro:F.round = none) (sv:Value) (a:Int) (w:World) (hsv:∃ p k cap,sv = .slice p k cap) :
  CallsIn F n Tryz.prog 73 #[sv,.int .i64 a] w fun e w'=>e = .returned (.func (.func 111) #[] #[.pointer (some ⟨w.heap.size,0,none⟩),.pointer (some ⟨w.heap.size + 1,0,none⟩)]) /\ w' = (w.alloc (.cells #[sv] 86)).alloc (.cells #[.int .i64 a] 3):=by
 obtain ⟨p,k,cap,rfl⟩:=hsv
 refine callsIn_of_wp Tryz.func73 rfl h73 ?_ hro
 simp only [Tryz.ntmps73,List.size_toArray,List.length_cons,List.length_nil,Nat.reduceAdd,Nat.reduceSub,Array.replicate_succ,Array.replicate_zero,List.push_toArray,List.append_toArray,List.nil_append,List.cons_append]
 gi_wp2
 go_ret
 exact ⟨by simp,rfl⟩
set_option maxHeartbeats 2000000 in
theorem qXg (F:Fence) (n:Nat) (h42:F.fn 42) (h73:F.fn 73) (h111:F.fn 111) (hro:F.round = none) (hn:3 <= n) (a:Int) (sv:Value) (L:List Enr) (w:World) (hv:JrAt w.heap.size w sv L) (hL:L.length <= 140737488355328) (hLg:∀ (i:Nat) (h:i < L.length),L[i].legs.length <= 140737488355328) :
  CallsIn F n Tryz.prog 42 #[sv,.int .i64 a] w fun e W'=>e = .returned (.int .i64 (qV4 L a)) /\ Below w.heap.size w W':=by
 have h1:1 <= n:=by omega
 have hsv:∃ p k cap,sv = .slice p k cap:=by obtain ⟨p,b,o,cap,h,_⟩:=hv; exact ⟨_,_,_,h⟩
 obtain ⟨p,k,cap,rfl⟩:=hsv
 refine callsIn_of_wp_marks Tryz.func42 rfl h42 ?_ hro
 simp only [Tryz.ntmps42,List.size_toArray,List.length_cons,List.length_nil,Nat.reduceAdd,Nat.reduceSub,Array.replicate_succ,Array.replicate_zero,List.push_toArray,List.append_toArray,List.nil_append,List.cons_append]
 gi_wp2_with (gi_at_call 73; refine (qq6 F (n - 1) h73 hro _ _ _ ⟨_,_,_,rfl⟩).mono ?_; rintro e w' ⟨rfl,rfl⟩)
 have hs0:=qhF w (.int .i64 0) 3
 have hs1:=qhF (w.alloc (.cells #[.int .i64 0] 3)) (.slice p k cap) 86
 have hs2:=qhF ((w.alloc (.cells #[.int .i64 0] 3)).alloc (.cells #[.slice p k cap] 86)) (.int .i64 a) 3
 simp only [World.size_alloc] at hs1 hs2
 have hB0:Below w.heap.size w (((w.alloc (.cells #[.int .i64 0] 3)).alloc (.cells #[.slice p k cap] 86)).alloc (.cells #[.int .i64 a] 3)):=(((Below.refl _ w).alloc (Nat.le_refl _) _).alloc (by simp) _).alloc (by simp; omega) _
 refine wpIn_rangeFunc_ownF hro h1 (gf:=111) (lb:=#[.pointer (some ⟨w.heap.size + 1,0,none⟩),.pointer (some ⟨w.heap.size + 1 + 1,0,none⟩)]) rfl h111 (enters_of Tryz.func111 (by kernel_rfl) rfl)
  (qGc F (n - 1) h111 hro (by omega) (w.heap.size + 1) (w.heap.size + 1 + 1) w.heap.size w.heap.size a _ L _ (by simp; omega) (by simp) (by simp) (by simp; omega) (by omega) (qdr _ hs1.1) hs2.1 (hv.below hB0) hL hLg) KpA.t (KpA.b (by simp; omega)) (Below.refl _ _) (fun _=>rfl)
  (fun pre W=>(W.cell? ⟨w.heap.size,0,none⟩ = some (.int .i64 (qOA (qFd pre))) /\ W.frozen? ⟨w.heap.size,0,none⟩ = false) /\ Below w.heap.size w W)
  (fun _ _ _=>False)
  (OwnFrom.and (Own.from (fun s A B row hs hg hr=>⟨cell_kept hs.1 hg hr,(frozen_kept hs.1 hg hr).trans hs.2⟩) _) (ownFrom_below (Nat.le_refl _) (by simp; omega)))
  (fun _ _ _ _ _ hs _ _=>hs)
  ⟨⟨qdr _ (qdr _ hs0.1),qf6 _ (qdr _ hs0.1) (qf6 _ hs0.1 hs0.2)⟩,hB0⟩
  (fun x=>{ tmps:=#[.slice p k cap,.int .i64 a,undef,undef,.int .i64 0,.pointer (some ⟨w.heap.size,0,none⟩),undef,.int .i64 x.2,.slice p k cap,.int .i64 a,.func (.func 111) #[] #[.pointer (some ⟨w.heap.size + 1,0,none⟩),.pointer (some ⟨w.heap.size + 1 + 1,0,none⟩)],x.1,.int .i64 x.2,undef,undef,undef,undef],defers:=[] }) ?assign ?body ?done ?stop
 case assign=>
  intro l x W K hK
  gi_wp2
  exact hK
 case body=>
  rintro l pre x W ⟨⟨hc,hf⟩,hB⟩ _
  gi_wp2
  refine ⟨KeepsOthers.setCell _ _ _,⟨(Below.refl w.heap.size W).setCell (p:=⟨w.heap.size,0,none⟩) (Nat.le_refl _) _,by simp,fun q v hq hv=>?_⟩,⟨?_,by rw [World.frozen?_setCell]; exact hf⟩,hB.setCell (p:=⟨w.heap.size,0,none⟩) (Nat.le_refl _) _⟩
  ·exact (World.cell?_of_block (Below.heap_setCell _ _ _ _ hq)).trans hv
  ·rw [show qFd (pre ++ [x]) = qFd pre ++ [x.2] from List.map_append,qEn,show IntKind.wrap .i64 (qOA (qFd pre) - x.2) = RowKit.wrap64 (qOA (qFd pre) - x.2) from qOR _]
   exact World.cell?_setCell_same' _ _ _ (by rw [hc]; rfl)
 case done=>
  rintro D ys W hD hys ⟨⟨hc,_⟩,hB⟩ hK
  gi_wp2
  refine ⟨by simp,.inl ⟨_,_,rfl,run_takeDeferred hK,?_⟩⟩
  refine ⟨_,results_tmp rfl _ _ _,?_,hB.trans (belowK_b (w:=w) (Nat.le_refl _) W D _ _ (by simp at hD; omega) hK rfl rfl)⟩
  rfl
 case stop=>
  rintro D c pre W _ _ h _
  exact h.elim
theorem qbE {w:World} {I:Imm} {cs:List AV} {b o i:Nat} {c:AV} (h:At w I cs b o) (hi:cs[i]? = some c):∃ v,w.cell? ⟨b,o + i,none⟩ = some v /\ Rel w I c m0 v:=by
 obtain ⟨_,_,v,hv,hr⟩:=h i c hi
 exact ⟨v,hv,hr⟩
theorem qJG {w:World} {I:Imm} {m:Names} {h:Heap} (H:HeapAt w I m h) {cs:List AV} {b o i:Nat} {c:AV} (ha:At w I cs b o) (hi:cs[i]? = some c):b < w.heap.size:=H.old _ _ (ha i c hi).1
theorem qsJ {α:Type} {av:α -> AV} {k:Nat} (hk:∀ x,(qac (av x)).length = k):∀ (l:List α) (i:Nat) (h:i < l.length) (j:Nat),j < k -> (flat (l.map av))[i * k + j]? = (qac (av l[i]))[j]?
 | [],i,h,j,hj=>by simp at h
 | x :: l,0,h,j,hj=>by
  show (qac (av x) ++ flat (l.map av))[0 * k + j]? = _
  rw [Nat.zero_mul,Nat.zero_add,List.getElem?_append_left (by rw [hk]; exact hj)]; rfl
 | x :: l,i + 1,h,j,hj=>by
  show (qac (av x) ++ flat (l.map av))[(i + 1) * k + j]? = _
  have e:(i + 1) * k + j = k + (i * k + j):=by rw [Nat.add_mul]; omega
  rw [e,List.getElem?_append_right (by rw [hk]; omega),hk,Nat.add_sub_cancel_left]
  exact qsJ hk l i (by simpa using h) j hj
theorem qNX {w:World} {I:Imm} {m m':Names} {h:Heap} (H:HeapAt w I m h) {l:List Leg} {v:Value} (hr:Rel w I (.view 3 (ELg l)) m' v):LgsAt w.heap.size w v l:=by
 simp only [Rel] at hr
 obtain ⟨p,cap,rfl,hle,hE,_⟩:=hr
 rw [List.length_map] at hE ⊢
 rcases hE with h0 | ⟨b,o,rfl,hE⟩
 ·exact ⟨p,0,0,cap,rfl,fun h=>by omega,fun i h=>by omega⟩
 ·have hA:=(qdx.1 hE).2
  have key:∀ (i:Nat) (h:i < l.length) (j:Nat),j < 3 -> (flat (ELg l))[i * 3 + j]? = (qac l[i].av)[j]?:=fun i h j hj=>qsJ (av:=Leg.av) (k:=3) (fun _=>rfl) l i h j hj
  refine ⟨_,b,o,cap,rfl,fun h=>⟨rfl,qJG H hA (key 0 h 0 (by omega))⟩,fun i h=>?_⟩
  have g0:=qbE hA (key i h 0 (by omega)); have g1:=qbE hA (key i h 1 (by omega)); have g2:=qbE hA (key i h 2 (by omega))
  simp only [Rel,Nat.add_zero,<- Nat.add_assoc] at g0 g1 g2
  obtain ⟨_,g0,rfl⟩:=g0; obtain ⟨_,g1,rfl⟩:=g1; obtain ⟨_,g2,rfl⟩:=g2
  exact ⟨g0,g1,g2⟩
theorem qWZ {w:World} {I:Imm} {m m':Names} {h:Heap} (H:HeapAt w I m h) {l:List Enr} {v:Value} (hr:Rel w I (.view 10 (EJr l)) m' v):JrAt w.heap.size w v l:=by
 simp only [Rel] at hr
 obtain ⟨p,cap,rfl,hle,hE,_⟩:=hr
 rw [List.length_map] at hE ⊢
 rcases hE with h0 | ⟨b,o,rfl,hE⟩
 ·exact ⟨p,0,0,cap,rfl,fun h=>by omega,fun i h=>by omega⟩
 ·have hA:=(qdx.1 hE).2
  have key:∀ (i:Nat) (h:i < l.length) (j:Nat),j < 10 -> (flat (EJr l))[i * 10 + j]? = (qac l[i].av)[j]?:=fun i h j hj=>qsJ (av:=Enr.av) (k:=10) (fun _=>rfl) l i h j hj
  refine ⟨_,b,o,cap,rfl,fun h=>⟨rfl,qJG H hA (key 0 h 0 (by omega))⟩,fun i h=>?_⟩
  have g0:=qbE hA (key i h 0 (by omega)); have g1:=qbE hA (key i h 1 (by omega)); have g2:=qbE hA (key i h 2 (by omega)); have g3:=qbE hA (key i h 3 (by omega)); have g4:=qbE hA (key i h 4 (by omega))
  have g5:=qbE hA (key i h 5 (by omega)); have g6:=qbE hA (key i h 6 (by omega)); have g7:=qbE hA (key i h 7 (by omega)); have g8:=qbE hA (c:=.view 3 (ELg l[i].legs)) (key i h 8 (by omega)); have g9:=qbE hA (key i h 9 (by omega))
  obtain ⟨lv,g8,r8⟩:=g8
  simp only [Rel,Nat.add_zero,<- Nat.add_assoc] at g0 g1 g2 g3 g4 g5 g6 g7 g8 g9
  obtain ⟨_,g0,rfl⟩:=g0; obtain ⟨_,g1,rfl⟩:=g1; obtain ⟨_,g2,rfl⟩:=g2; obtain ⟨_,g3,rfl⟩:=g3; obtain ⟨_,g4,rfl⟩:=g4; obtain ⟨_,g5,rfl⟩:=g5; obtain ⟨_,g6,rfl⟩:=g6; obtain ⟨_,g7,rfl⟩:=g7; obtain ⟨_,g9,rfl⟩:=g9
  exact ⟨lv,⟨g0,g1,g2,g3,g4,g5,g6,g7,g8,g9⟩,qNX H r8⟩
theorem qN7:qdU Tryz.prog 42 (gOf ofE):=by
 refine qfK ⟨_,Tryz.func42,by kernel_rfl,by kernel_rfl⟩ fun a h r h' hm w I m vs H hr=>?_
 unfold ofE at hm
 split at hm
 ·rename_i es k
  simp only [List.mem_singleton,Prod.mk.injEq,eq_comm (a:=true)] at hm
  obtain ⟨hb,rfl,rfl⟩:=hm
  unfold ofB at hb
  simp only [Bool.and_eq_true] at hb
  obtain ⟨hb,hc⟩:=hb
  obtain ⟨l,hl⟩:=Option.isSome_iff_exists.1 hb
  obtain rfl:=qjP hl
  rw [hl] at hc
  simp only [Option.getD_some,qW5,Bool.and_eq_true,decide_eq_true_eq,List.all_eq_true] at hc
  simp only [qaw] at hr
  obtain ⟨_,_,rfl,hv,_,_,rfl,hk,rfl⟩:=hr
  simp only [Rel] at hk
  subst hk
  refine ((callsIn_wide (n:=3)).1 (qXg Fence.wide 3 trivial trivial trivial rfl (by omega) k _ l w (qWZ H hv) hc.1 (fun i h=>hc.2 _ (List.getElem_mem h)))).mono ?_
  rintro e w' ⟨rfl,hB⟩
  rw [qXf]
  exact qb7 H hB (by simp [Rel])
 ·cases hm
end Go.Proofs.H35

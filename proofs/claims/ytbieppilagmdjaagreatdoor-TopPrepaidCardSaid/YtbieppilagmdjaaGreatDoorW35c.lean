/- money.Code, walked through the program's text: a range over a text's runes. -/
import Derived.WalkKit
import Derived.KernelRfl
import Derived.LoopTactic
import Derived.Laws.RangeString
import Derived.Laws.RangeAny
import Derived.Test.YtbieppilagmdjaaGreatDoorIP35
set_option linter.unusedVariables false
set_option linter.unusedSimpArgs false
set_option linter.unnecessarySimpa false
namespace Go.Proofs.H35
open Go Go.Eng Go.Tk Go.Proofs Go.RowKit
set_option maxRecDepth 100000
theorem quy {l:List UInt8} {k:Nat} (hk:k < l.length) (h:¬ (65 <= l[k].toNat /\ l[k].toNat <= 90)):qlv l = false:=by
 unfold qlv
 have:(l.all fun c=>decide (65 <= c.toNat) && decide (c.toNat <= 90)) = false:=by
  rw [List.all_eq_false]
  refine ⟨l[k],List.getElem_mem hk,?_⟩
  simp only [Bool.and_eq_true,decide_eq_true_eq]
  exact h
 rw [this]; rfl
theorem qzy {l:List UInt8} (h:∀ (i:Nat) (hi:i < l.length),65 <= l[i].toNat /\ l[i].toNat <= 90):qlv l = (RowKit.wrap64 (l.length:Int) == 3):=by
 unfold qlv
 have:(l.all fun c=>decide (65 <= c.toNat) && decide (c.toNat <= 90)) = true:=by
  rw [List.all_eq_true]
  intro c hc
  obtain ⟨i,hi,rfl⟩:=List.mem_iff_getElem.1 hc
  simp only [Bool.and_eq_true,decide_eq_true_eq]
  exact h i hi
 rw [this,Bool.true_and,show IntKind.wrap .i64 (l.length:Int) = RowKit.wrap64 (l.length:Int) from Go.IntWalk.i64_left _]
theorem qEN (p:Nat):RowKit.wrap64 (RowKit.wrap64 (p:Int) + 1) = RowKit.wrap64 ((p + 1:Nat):Int):=by unfold RowKit.wrap64; omega
set_option maxHeartbeats 1000000 in
theorem qwn (l:List UInt8) (w:World) :
  Calls Tryz.prog 119 #[.string ⟨l.toArray⟩] w fun e w'=>e = .returned (.bool (qlv l)) /\ ∃ pos,w' = w.iter ⟨l.toArray⟩ pos:=by
 obtain ⟨s,hs⟩:∃ s:ByteArray,s = ⟨l.toArray⟩:=⟨_,rfl⟩
 have hsz:s.size = l.length:=by rw [hs]; rfl
 have hget:∀ (k:Nat) (h:k < s.size),(s[k]'h) = l[k]'(by omega):=by
  intro k h
  subst hs
  rfl
 rw [<- hs]
 clear hs
 go_enter Tryz.func119,Tryz.ntmps119
 go_wp2
 go_loopw [3] (fun n w'=>∃ pos:Nat,w' = w.iter s pos /\ n = .int .i64 (RowKit.wrap64 (pos:Int)) /\ pos <= s.size /\ ∀ (i:Nat) (hi:i < l.length),i < pos -> 65 <= l[i].toNat /\ l[i].toNat <= 90) (fun _ w'=>s.size - w'.iterPos w.heap.size)
 case atStart=>exact ⟨0,rfl,by rw [show RowKit.wrap64 ((0:Nat):Int) = 0 by unfold RowKit.wrap64; omega],Nat.zero_le _,fun i _ h=>by omega⟩
 case round=>
  obtain ⟨pos,rfl,rfl,hle,hall⟩:=hrel
  by_cases hp:pos < s.size
  ·have hnx:∀ ty,(Instr.next (.pointer (some ⟨w.heap.size,0,none⟩)) true ty).run Tryz.prog (w.iter s pos) = _:=fun ty=>run_next_any w s pos ty hp
   by_cases ha:(s[pos]'hp).toNat < 128
   ·rw [decode_ascii s pos hp ha] at hnx
    rw [hget pos hp] at hnx ha
    obtain ⟨c,hc⟩:∃ c,c = (l[pos]'(by omega)).toNat:=⟨_,rfl⟩
    rw [<- hc] at hnx ha
    simp only at hnx
    have hno:¬ (65 <= c /\ c <= 90) -> qlv l = false:=fun h=>quy (k:=pos) (by omega) (by rw [<- hc]; exact h)
    by_cases h1:c < 65
    ·have hb:=hno (by omega)
     go_wp2
     go_ret
     exact ⟨by first | rfl | (rw [hb]; rfl),_,rfl⟩
    ·by_cases h2:90 < c
     ·have hb:=hno (by omega)
      go_wp2
      go_ret
      exact ⟨by first | rfl | (rw [hb]; rfl),_,rfl⟩
     ·go_wp2
      go_roundw
      case rel=>
       refine ⟨pos + 1,rfl,?_,by omega,fun i hi h=>?_⟩
       ·rw [<- qEN]
       ·by_cases he:i = pos
        ·subst he; omega
        ·exact hall i hi (by omega)
      case measure=>simp; omega
   ·obtain ⟨h1,h2⟩:=decode_high s pos hp (by omega)
    have hb:qlv l = false:=quy (k:=pos) (by omega) (by rw [<- hget pos hp]; omega)
    have h3:¬ (Utf8.decode s pos).1 < 65:=by omega
    have h4:90 < (Utf8.decode s pos).1:=by omega
    go_wp2
    go_ret
    exact ⟨by first | rfl | (rw [hb]; rfl),_,rfl⟩
  ·have hnx:∀ ty,(Instr.next (.pointer (some ⟨w.heap.size,0,none⟩)) true ty).run Tryz.prog (w.iter s pos) = _:=fun ty=>run_next_end w s pos ty hp
   have hb:(RowKit.wrap64 (l.length:Int) == 3) = qlv l:=Eq.symm <| qzy fun i hi=>hall i hi (by omega)
   go_wp2
   go_ret
   have he:pos = l.length:=by omega
   refine ⟨?_,_,rfl⟩
   subst he
   rw [<- hb]; rfl
theorem qzA:qdU Tryz.prog 119 (gOf qso):=by
 refine qfK ⟨_,Tryz.func119,by kernel_rfl,by kernel_rfl⟩ fun a h r h' hm w I m vs H hr=>?_
 unfold qso at hm
 split at hm
 ·rename_i l
  simp only [List.mem_singleton,Prod.mk.injEq,eq_comm (a:=true)] at hm
  obtain ⟨hb,rfl,rfl⟩:=hm
  simp only [qaw,Rel] at hr
  obtain ⟨_,_,rfl,rfl,rfl⟩:=hr
  refine (qwn l w).mono ?_
  rintro e w' ⟨rfl,pos,rfl⟩
  exact qb7 H ((Below.refl _ w).alloc (Nat.le_refl _) _) (by simp [Rel])
 ·cases hm
end Go.Proofs.H35

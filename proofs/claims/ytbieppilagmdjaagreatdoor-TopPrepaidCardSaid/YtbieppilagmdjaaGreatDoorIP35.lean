/- The program of a seat for the machine. -/
import Derived.Test.YtbieppilagmdjaaGreatDoorIr35
import Derived.KernelRfl
import Derived.Test.YtbieppilagmdjaaGreatDoorE4
import Derived.Test.YtbieppilagmdjaaGreatDoorLnC
import Derived.Test.YtbieppilagmdjaaGreatDoorOfA
import Derived.Test.YtbieppilagmdjaaGreatDoorPkA
import Derived.Test.YtbieppilagmdjaaGreatDoorPoA
set_option linter.unusedVariables false
set_option linter.unusedSimpArgs false
set_option linter.unnecessarySimpa false
namespace Go.Proofs.H35
open Go Go.Eng Go.Tk
set_option maxRecDepth 20000
def qlv (s:List UInt8):Bool:=s.all (fun c=>decide (65 <= c.toNat) && decide (c.toNat <= 90)) && (IntKind.wrap .i64 (s.length:Int) == 3)
def qso:Ent:=fun a h=>match a,h with
 | [.str s],[]=>[(true,.ret (.bool (qlv s)),[])]
 | _,_=>[]
theorem qzz:∀ a h,(qso a h).length <= 1:=by
 intro a h
 unfold qso
 split <;> simp
def qOy:Nat -> Option (List AV -> Heap -> Option (Res × Heap)):=fun f=>if f = 119 then some (gOf qso) else if f = 42 then some (gOf ofE) else if f = 189 then some (gOf qDg) else if f = 219 then some (gOf qkk) else if f = 157 then some (gOf qkw) else if f = 235 then some (gOf qsR) else if f = 195 then some (gOf qjz) else if f = 267 then some (gOf qk2) else if f = 23 then some (qg4 4 32) else if f = 24 then some (qg4 14 128) else if f = 60 then some (qg4 2 16) else if f = 148 then some (qg4 3 32) else none
noncomputable def qOv:Nat -> Option Seen:=fun f=>if f = 41 then some qnN else none
noncomputable def IP:Prog:={ fn:=qB7 tab,mv:=fun f=>f == 33 || f == 62 || f == 139 || f == 77 || f == 138 || f == 132 || f == 174,fresh:=fun f=>f == 33 || f == 62 || f == 139 || f == 77 || f == 138 || f == 132 || f == 174 || f == 266 || f == 23 || f == 24 || f == 60 || f == 148,spec:=qOy,seen:=qOv,imp:=fun f=>f == 20 || f == 21 }
open Classical in
noncomputable def qE8:Bool:=decide (qal IP 5 [] [] = some (.ret (.bool true),[]))
noncomputable def qZt:Ent:=fun a h=>match a,h with
 | [],[]=>[(qE8,.ret (.bool true),[])]
 | _,_=>[]
open Classical in
theorem sp5:Snd IP 5 qZt:=by
 intro a h r h' hm
 unfold qZt at hm
 split at hm
 ·simp only [List.mem_singleton,Prod.mk.injEq,eq_comm (a:=true)] at hm
  obtain ⟨h1,rfl,rfl⟩:=hm
  unfold qE8 at h1
  exact of_decide_eq_true h1
 ·cases hm
open Classical in
noncomputable def qrl (a0 a1:AV) (s:Ln) (r:List AV) (D:List Du) (n on:Int):Bool:=decide (qal IP 7 [lnV a0 a1 s r,.int .i64 n,.int .i64 on] [] = some (.ret (qYX a0 a1 s r D n on),[]))
open Classical in
noncomputable def qiJ (a0 a1:AV) (s:Ln) (r:List AV) (n on e:Int):Bool:=decide (qal IP 7 [lnV a0 a1 s r,.int .i64 n,.int .i64 on] [] = some (.ret (qTa e),[]))
noncomputable def qYW:Ent:=fun a h=>match a,h with
 | [.agg (a0 :: a1 :: .int .i64 st :: .int .i64 pp :: .int .i64 pi :: r),.int .i64 n,.int .i64 on],[]=>match r.getD 18 .junk with
  | .view 4 ds=>[(qrl a0 a1 ⟨st,pp,pi⟩ r (dusO ds) n on,.ret (qYX a0 a1 ⟨st,pp,pi⟩ r (dusO ds) n on),[]),
   (qiJ a0 a1 ⟨st,pp,pi⟩ r n on 1,.ret (qTa 1),[]),(qiJ a0 a1 ⟨st,pp,pi⟩ r n on 17,.ret (qTa 17),[])]
  | _=>[]
 | _,_=>[]
open Classical in
theorem sp7:Snd IP 7 qYW:=by
 intro a h r h' hm
 unfold qYW at hm
 split at hm
 ·split at hm
  ·simp only [List.mem_cons,List.not_mem_nil,or_false,Prod.mk.injEq,eq_comm (a:=true)] at hm
   rcases hm with ⟨h1,rfl,rfl⟩ | ⟨h1,rfl,rfl⟩ | ⟨h1,rfl,rfl⟩
   ·unfold qrl at h1; exact of_decide_eq_true h1
   ·unfold qiJ at h1; exact of_decide_eq_true h1
   ·unfold qiJ at h1; exact of_decide_eq_true h1
  ·cases hm
 ·cases hm
theorem qZz:Snd IP 119 qso:=qmk (by kernel_rfl) (by kernel_rfl) (qh2 qzz)
theorem qZD:Snd IP 219 qkk:=qmk (by kernel_rfl) (by kernel_rfl) (qh2 qw0)
theorem qZB:Snd IP 157 qkw:=qmk (by kernel_rfl) (by kernel_rfl) (qh2 qxd)
theorem qZE:Snd IP 235 qsR:=qmk (by kernel_rfl) (by kernel_rfl) (qh2 qCd)
theorem qZC:Snd IP 195 qjz:=qmk (by kernel_rfl) (by kernel_rfl) (qh2 qwe)
theorem qZF:Snd IP 267 qk2:=qmk (by kernel_rfl) (by kernel_rfl) (qh2 qxy)
theorem sp23:Snd IP 23 (qf1 4 32):=qg3 (by kernel_rfl) (by kernel_rfl)
theorem qWl:body IP noC noL 23 F23 [.nils ⟨4,.nil⟩] [] = some (.ret (.nils ⟨4,.nil⟩),[]):=by kernel_rfl
theorem qWm:body IP noC noL 23 F23 [.nils ⟨4,.non⟩] [] = some (.ret (.nils ⟨4,.any⟩),[]):=by kernel_rfl
theorem qWn (es:List AV) (h0:es.length ≠ 0) (h1:es.length * 32 <= lim):body IP noC noL 23 F23 [.view 4 es] [] = some (.ret (.own 0 0 none),[(0,.arr 4 es false)]):=
 qfE (b:=decide (4 = 4)) (c:=decide (4 = 4) && decide (4 = 4)) (x:=(.ret (.nils ⟨4,.any⟩),[])) (fun es=>by kernel_rfl) (by kernel_rfl) es h0 h1
theorem sp24:Snd IP 24 (qf1 14 128):=qg3 (by kernel_rfl) (by kernel_rfl)
theorem qWo:body IP noC noL 24 F24 [.nils ⟨14,.nil⟩] [] = some (.ret (.nils ⟨14,.nil⟩),[]):=by kernel_rfl
theorem qWp:body IP noC noL 24 F24 [.nils ⟨14,.non⟩] [] = some (.ret (.nils ⟨14,.any⟩),[]):=by kernel_rfl
theorem qWq (es:List AV) (h0:es.length ≠ 0) (h1:es.length * 128 <= lim):body IP noC noL 24 F24 [.view 14 es] [] = some (.ret (.own 0 0 none),[(0,.arr 14 es false)]):=
 qfE (b:=decide (14 = 14)) (c:=decide (14 = 14) && decide (14 = 14)) (x:=(.ret (.nils ⟨14,.any⟩),[])) (fun es=>by kernel_rfl) (by kernel_rfl) es h0 h1
theorem q5j:Snd IP 60 (qf1 2 16):=qg3 (by kernel_rfl) (by kernel_rfl)
theorem qWr:body IP noC noL 60 F60 [.nils ⟨2,.nil⟩] [] = some (.ret (.nils ⟨2,.nil⟩),[]):=by kernel_rfl
theorem qWs:body IP noC noL 60 F60 [.nils ⟨2,.non⟩] [] = some (.ret (.nils ⟨2,.any⟩),[]):=by kernel_rfl
theorem qWt (es:List AV) (h0:es.length ≠ 0) (h1:es.length * 16 <= lim):body IP noC noL 60 F60 [.view 2 es] [] = some (.ret (.own 0 0 none),[(0,.arr 2 es false)]):=
 qfE (b:=decide (2 = 2)) (c:=decide (2 = 2) && decide (2 = 2)) (x:=(.ret (.nils ⟨2,.any⟩),[])) (fun es=>by kernel_rfl) (by kernel_rfl) es h0 h1
theorem qZA:Snd IP 148 (qf1 3 32):=qg3 (by kernel_rfl) (by kernel_rfl)
theorem qRV:body IP noC noL 148 qUE [.nils ⟨3,.nil⟩] [] = some (.ret (.nils ⟨3,.nil⟩),[]):=by kernel_rfl
theorem qRW:body IP noC noL 148 qUE [.nils ⟨3,.non⟩] [] = some (.ret (.nils ⟨3,.any⟩),[]):=by kernel_rfl
theorem qRX (es:List AV) (h0:es.length ≠ 0) (h1:es.length * 32 <= lim):body IP noC noL 148 qUE [.view 3 es] [] = some (.ret (.own 0 0 none),[(0,.arr 3 es false)]):=
 qfE (b:=decide (3 = 3)) (c:=decide (3 = 3) && decide (3 = 3)) (x:=(.ret (.nils ⟨3,.any⟩),[])) (fun es=>by kernel_rfl) (by kernel_rfl) es h0 h1
end Go.Proofs.H35

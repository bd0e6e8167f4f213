/- R25.Sound ends with some value; what its yes says of the accounts. -/
import Derived.Test.YtpoebijgpbaccaaGreatX53zSa
set_option linter.unusedVariables false
set_option linter.unusedSimpArgs false
set_option linter.unnecessarySimpa false
namespace Go.Proofs.H53z
open Go Go.Eng Go.Tk
set_option maxRecDepth 20000
def qx7 (cs:List Acc) (id day:Int):Bool:=match cs.find? (idC id) with
 | none=>false
 | some c=>decide (c.opened <= day) && (c.closed == 0 || decide (c.closed > day))
theorem qg7 {cu:List Cu} {ca:List Cal} {ch:List Gl} {a3 a4 a5 a6 a7 a8 a9 a10 a11 a12 a13 a14 a15 a16:Int} {pr:List Pr} {ac:List Acc} {jr:List Enr} {ho:List Hol} {bl:List Blo} (hl:ac.length <= big) (id day:Int):qd8 (EC cu) (EK ca) (EGl ch) a3 a4 a5 a6 a7 a8 a9 a10 a11 a12 a13 a14 a15 a16 (EPr pr) (EAc ac) (EJr jr) (EHo ho) (EBl bl) id day = some (qx7 ac id day):=by
 rw [qAB,qkf,qhh (hl:=hl)]
 simp only [ev_bi_some,qhS,qx7]
 cases ac.find? (idC id) with
 | none=>rfl
 | some c=>
  by_cases h1:c.opened <= day <;> by_cases h2:c.closed = 0 <;> by_cases h3:c.closed > day <;> simp [acT,h1,h2,h3]
theorem qlp {cu:List Cu} {ca:List Cal} {ch:List Gl} {a3 a4 a5 a6 a7 a8 a9 a10 a11 a12 a13 a14 a15 a16:Int} {pr:List Pr} {ac:List Acc} {jr:List Enr} {ho:List Hol} {bl:List Blo} (hcu:cu.length <= big) (hch:ch.length <= 900) (hpr:pr.length <= big) (hac:ac.length <= big) {x:Enr} (hb:x.legs.length <= 900):Ok (qiM (EC cu) (EK ca) (EGl ch) a3 a4 a5 a6 a7 a8 a9 a10 a11 a12 a13 a14 a15 a16 (EPr pr) (EAc ac) (EJr jr) (EHo ho) (EBl bl) x.id x.booked x.value x.kind x.auth x.period x.key x.text (ELg x.legs) x.chain) fun _=>True:=by
 have h9:x.legs.length <= 9223372036854775807:=by omega
 have h0:Lo (qmO (0,EC cu,EK ca,EGl ch,a3,a4,a5,a6,a7,a8,a9,a10,a11,a12,a13,a14,a15,a16,EPr pr,EAc ac,EJr jr,EHo ho,EBl bl,x.id,x.booked,x.value,x.kind,x.auth,x.period,x.key,x.text,(ELg x.legs),x.chain)) 2 fun w=>∃ m:Nat,m <= x.legs.length /\ w = ((m:Int),EC cu,EK ca,EGl ch,a3,a4,a5,a6,a7,a8,a9,a10,a11,a12,a13,a14,a15,a16,EPr pr,EAc ac,EJr jr,EHo ho,EBl bl,x.id,x.booked,x.value,x.kind,x.auth,x.period,x.key,x.text,(ELg x.legs),x.chain):=by
  rw [qo7]
  refine qaZ (fun n:Nat=>((n:Int),EC cu,EK ca,EGl ch,a3,a4,a5,a6,a7,a8,a9,a10,a11,a12,a13,a14,a15,a16,EPr pr,EAc ac,EJr jr,EHo ho,EBl bl,x.id,x.booked,x.value,x.kind,x.auth,x.period,x.key,x.text,(ELg x.legs),x.chain)) x.legs.length 2 (fun n _=>?_) 0 (Nat.zero_le _)
  simp only [qj5,qpJ]
  by_cases hn:n < x.legs.length
  ·refine qaB (qds hn) (qaB (qIt hn) ?_)
   simp only [q5e hn,q5f hn,q6n hn,qaP hn h9]
   obtain ⟨c1,c2,hc⟩:=ql7 hcu x.legs[n].cur
   refine qbx hc (qaq (fun _=>qap (by decide)) (fun _=>qaq (fun _=>?_) (fun _=>?_)))
   ·refine qao (qbI (l:=ch) (by omega) _) (fun _ _=>qaq (fun _=>qap (by decide)) (fun _=>?_))
    obtain ⟨ls,hls,hnm⟩:=qp4 hch x.legs[n].acc
    refine qbx hls (qaq (fun _=>qap (by decide)) (fun h1=>qbx hls ?_))
    have h1:(0:Nat) < ls.length:=by
     have:((ls.length:Nat):Int) = 1:=(by simpa using h1)
     omega
    exact qaB (qVm hnm h1) (qaq (fun _=>qap (by decide)) (fun _=>qaW ⟨hn,rfl⟩))
   ·refine qbx (qoJ (hp:=hpr) (hl:=hac) (id:=x.legs[n].acc) (day:=x.booked) ..) ?_
    have ha:Ok (qd8 (EC cu) (EK ca) (EGl ch) a3 a4 a5 a6 a7 a8 a9 a10 a11 a12 a13 a14 a15 a16 (EPr pr) (EAc ac) (EJr jr) (EHo ho) (EBl bl) x.legs[n].acc x.booked) fun _=>True:=⟨_,qg7 hac _ _,trivial⟩
    refine qao (Q:=fun _=>True) (by (repeat' (first | exact qak trivial | exact qan trivial | exact qap (by decide) | refine qao (Q:=fun _=>True) ?_ (fun _ _=>?_) | refine qaq (fun _=>?_) (fun _=>?_) | refine qax (fun _=>?_) (fun _=>?_)))) (fun _ _=>qao (Q:=fun _=>True) (by (repeat' (first | exact qak trivial | exact qan trivial | exact qap (by decide) | refine qao (Q:=fun _=>True) (ha) (fun _ _=>?_) | refine qaB (qaG (ha)) ?_ | refine qaE (qaG (ha)) ?_ | refine qao (Q:=fun _=>True) ?_ (fun _ _=>?_) | refine qaq (fun _=>?_) (fun _=>?_) | refine qax (fun _=>?_) (fun _=>?_)))) (fun _ _=>qaq (fun _=>qap (by decide)) (fun _=>qaW ⟨hn,rfl⟩)))
  ·exact qcy (qdr hn) (qap (by decide))
 rw [qBy,qla]
 exact qa9 h0 (fun _ _=>qak trivial) (fun _ _=>qak trivial)
structure EnB (x:Enr):Prop where
 key:x.key.length <= 9223372036854775807
 text:x.text.length <= 9223372036854775807
 legs:x.legs.length <= 900
set_option maxHeartbeats 4000000 in
theorem qob {cu:List Cu} {ca:List Cal} {ch:List Gl} {a3 a4 a5 a6 a7 a8 a9 a10 a11 a12 a13 a14 a15 a16:Int} {pr:List Pr} {ac:List Acc} {jr:List Enr} {ho:List Hol} {bl:List Blo} (hcu:cu.length <= big) (hch:ch.length <= 900) (hpr:pr.length <= big) (hac:ac.length <= big) (hjr:jr.length <= 900) (hJ:∀ x ∈ jr,EnB x):Ok (qoK (EC cu) (EK ca) (EGl ch) a3 a4 a5 a6 a7 a8 a9 a10 a11 a12 a13 a14 a15 a16 (EPr pr) (EAc ac) (EJr jr) (EHo ho) (EBl bl)) fun _=>True:=by
 have h9:jr.length <= 9223372036854775807:=by omega
 have h1:∀ (n:Nat) (x:Enr),n < jr.length -> Lo (qmT ((n:Int),0,EC cu,EK ca,EGl ch,a3,a4,a5,a6,a7,a8,a9,a10,a11,a12,a13,a14,a15,a16,EPr pr,EAc ac,EJr jr,EHo ho,EBl bl,x.id,x.booked,x.value,x.kind,x.auth,x.period,x.key,x.text,(ELg x.legs),x.chain)) 2 fun w=>∃ m:Nat,m <= n /\ w = ((n:Int),(m:Int),EC cu,EK ca,EGl ch,a3,a4,a5,a6,a7,a8,a9,a10,a11,a12,a13,a14,a15,a16,EPr pr,EAc ac,EJr jr,EHo ho,EBl bl,x.id,x.booked,x.value,x.kind,x.auth,x.period,x.key,x.text,(ELg x.legs),x.chain):=by
  intro n x hnl
  rw [qtn]
  refine qaZ (fun m:Nat=>((n:Int),(m:Int),EC cu,EK ca,EGl ch,a3,a4,a5,a6,a7,a8,a9,a10,a11,a12,a13,a14,a15,a16,EPr pr,EAc ac,EJr jr,EHo ho,EBl bl,x.id,x.booked,x.value,x.kind,x.auth,x.period,x.key,x.text,(ELg x.legs),x.chain)) n 2 (fun m _=>?_) 0 (Nat.zero_le _)
  simp only [qq2,qvf]
  by_cases hn:m < n
  ·have hm:m < jr.length:=by omega
   have hb:n <= 9223372036854775807:=by omega
   refine qaB (decide_eq_true (by omega)) (qaB (qZt hm) (qaq (fun _=>qap (by decide)) (fun _=>qaW ⟨hn,by simp only [qaP hn hb]⟩)))
  ·exact qcy (decide_eq_false (by omega)) (qap (by decide))
 have h0:Lo (qtl (0,EC cu,EK ca,EGl ch,a3,a4,a5,a6,a7,a8,a9,a10,a11,a12,a13,a14,a15,a16,EPr pr,EAc ac,EJr jr,EHo ho,EBl bl)) 2 fun w=>∃ m:Nat,m <= jr.length /\ w = ((m:Int),EC cu,EK ca,EGl ch,a3,a4,a5,a6,a7,a8,a9,a10,a11,a12,a13,a14,a15,a16,EPr pr,EAc ac,EJr jr,EHo ho,EBl bl):=by
  rw [qtm]
  refine qaZ (fun n:Nat=>((n:Int),EC cu,EK ca,EGl ch,a3,a4,a5,a6,a7,a8,a9,a10,a11,a12,a13,a14,a15,a16,EPr pr,EAc ac,EJr jr,EHo ho,EBl bl)) jr.length 2 (fun n _=>?_) 0 (Nat.zero_le _)
  simp only [qq1,qve]
  by_cases hn:n < jr.length
  ·have hx:=hJ _ (List.getElem_mem hn)
   refine qaB (qds hn) (qaB (qZt hn) ?_)
   simp only [q45 hn,q46 hn,q47 hn,q48 hn,q49 hn,q5a hn,q5b hn,q5c hn,q2R hn,q5d hn]
   refine qaq (fun _=>qap (by decide)) (fun _=>qao (qsm hx.key hx.text hx.legs) (fun _ _=>qaq (fun _=>qap (by decide)) (fun _=>?_)))
   by_cases hz:0 < n
   ·have hp:qaw q4f (EJr jr) (IntKind.wrap .i64 ((n:Int) - 1)) = true:=qgm q6d hn hz h9
    refine qaB (decide_eq_true (by omega)) (qaB hp (qaq (fun _=>qap (by decide)) (fun _=>qao (qlp hcu hch hpr hac hx.legs) (fun _ _=>qaq (fun _=>qap (by decide)) (fun _=>qa9 (h1 n jr[n] hn) (fun _ _=>qap (by decide)) ?_)))))
    rintro _ ⟨m,_,rfl⟩
    exact qaW ⟨hn,by simp only [qaP hn h9]⟩
   ·refine qcy (decide_eq_false (by omega)) (qao (qlp hcu hch hpr hac hx.legs) (fun _ _=>qaq (fun _=>qap (by decide)) (fun _=>qa9 (h1 n jr[n] hn) (fun _ _=>qap (by decide)) ?_)))
    rintro _ ⟨m,_,rfl⟩
    exact qaW ⟨hn,by simp only [qaP hn h9]⟩
  ·exact qcy (qdr hn) (qap (by decide))
 rw [qFF,qsa]
 exact qa9 h0 (fun _ _=>qak trivial) (fun _ _=>qak trivial)
def Asc (ac:List Acc):Prop:=∀ (i:Nat) (h:i < ac.length),ac[i].id >= 1000 /\ (∀ (k:Nat) (hk:k < ac.length),k + 1 = i -> ac[k].id < ac[i].id)
set_option maxHeartbeats 4000000 in
theorem qsr {cu:List Cu} {ca:List Cal} {ch:List Gl} {a3 a4 a5 a6 a7 a8 a9 a10 a11 a12 a13 a14 a15 a16:Int} {pr:List Pr} {ac:List Acc} {jr:List Enr} {ho:List Hol} {bl:List Blo} (hpr:pr.length <= 9223372036854775807):Ok (ql2 (EC cu) (EK ca) (EGl ch) a3 a4 a5 a6 a7 a8 a9 a10 a11 a12 a13 a14 a15 a16 (EPr pr) (EAc ac) (EJr jr) (EHo ho) (EBl bl)) fun (y:Int)=>y = 0 -> Asc ac:=by
 have h0:ac.length <= 64 -> Lo' (qm4 (0,EC cu,EK ca,EGl ch,a3,a4,a5,a6,a7,a8,a9,a10,a11,a12,a13,a14,a15,a16,EPr pr,EAc ac,EJr jr,EHo ho,EBl bl)) 4 fun k w=>∃ m:Nat,m <= ac.length /\ w = ((m:Int),EC cu,EK ca,EGl ch,a3,a4,a5,a6,a7,a8,a9,a10,a11,a12,a13,a14,a15,a16,EPr pr,EAc ac,EJr jr,EHo ho,EBl bl) /\ ((k = 2 -> ∃ h:m < ac.length,gv (qc8 (EC cu) (EK ca) (EGl ch) a3 a4 a5 a6 a7 a8 a9 a10 a11 a12 a13 a14 a15 a16 (EPr pr) (EAc ac) (EJr jr) (EHo ho) (EBl bl) ac[m].id ac[m].opened ac[m].closed ac[m].extra ac[m].owner ac[m].prod ac[m].number) ≠ 0) /\ (k = 3 -> Asc ac)):=by
  intro hb
  have h9:ac.length <= 9223372036854775807:=by omega
  rw [quj]
  refine qxl (fun n:Nat=>((n:Int),EC cu,EK ca,EGl ch,a3,a4,a5,a6,a7,a8,a9,a10,a11,a12,a13,a14,a15,a16,EPr pr,EAc ac,EJr jr,EHo ho,EBl bl)) ac.length 4 (fun n=>∀ (i:Nat) (h:i < ac.length),i < n -> ac[i].id >= 1000 /\ (∀ (k:Nat) (hk:k < ac.length),k + 1 = i -> ac[k].id < ac[i].id)) (fun k m=>(k = 2 -> ∃ h:m < ac.length,gv (qc8 (EC cu) (EK ca) (EGl ch) a3 a4 a5 a6 a7 a8 a9 a10 a11 a12 a13 a14 a15 a16 (EPr pr) (EAc ac) (EJr jr) (EHo ho) (EBl bl) ac[m].id ac[m].opened ac[m].closed ac[m].extra ac[m].owner ac[m].prod ac[m].number) ≠ 0) /\ (k = 3 -> Asc ac)) (fun n _ hj=>?_) 0 (Nat.zero_le _) (fun i h hi=>absurd hi (Nat.not_lt_zero i))
  simp only [qrt,qvF]
  by_cases hn:n < ac.length
  ·obtain ⟨v,hv,_⟩:=qss (cu:=cu) (ca:=ca) (ch:=ch) (a3:=a3) (a4:=a4) (a5:=a5) (a6:=a6) (a7:=a7) (a8:=a8) (a9:=a9) (a10:=a10) (a11:=a11) (a12:=a12) (a13:=a13) (a14:=a14) (a15:=a15) (a16:=a16) (ac:=ac) (jr:=jr) (ho:=ho) (bl:=bl) hpr ac[n]
   have no:∀ j,j < 2 -> (j < 4 /\ ((j = 2 -> ∃ h:n < ac.length,gv (qc8 (EC cu) (EK ca) (EGl ch) a3 a4 a5 a6 a7 a8 a9 a10 a11 a12 a13 a14 a15 a16 (EPr pr) (EAc ac) (EJr jr) (EHo ho) (EBl bl) ac[n].id ac[n].opened ac[n].closed ac[n].extra ac[n].owner ac[n].prod ac[n].number) ≠ 0) /\ (j = 3 -> Asc ac))):=fun j hj=>⟨by omega,fun h=>by omega,fun h=>by omega⟩
   have yes:v ≠ 0 -> (2 < 4 /\ ((2 = 2 -> ∃ h:n < ac.length,gv (qc8 (EC cu) (EK ca) (EGl ch) a3 a4 a5 a6 a7 a8 a9 a10 a11 a12 a13 a14 a15 a16 (EPr pr) (EAc ac) (EJr jr) (EHo ho) (EBl bl) ac[n].id ac[n].opened ac[n].closed ac[n].extra ac[n].owner ac[n].prod ac[n].number) ≠ 0) /\ (2 = 3 -> Asc ac))):=fun h=>⟨by decide,fun _=>⟨hn,by rw [hv]; exact h⟩,fun h=>by cases h⟩
   refine qaB (qds hn) (qaB (qMT hn) ?_)
   simp only [qCL hn,qZG hn,qZH hn,qZI hn,qZJ hn,qZK hn,qZL hn]
   refine qao (Q:=fun _=>True) (by (repeat' (first | exact qak trivial | exact qan trivial | exact qap (by decide) | refine qao (Q:=fun _=>True) (qaT _) (fun _ _=>?_) | refine qaB (qaG (qaT _)) ?_ | refine qaE (qaG (qaT _)) ?_ | refine qao (Q:=fun _=>True) ?_ (fun _ _=>?_) | refine qaq (fun _=>?_) (fun _=>?_) | refine qax (fun _=>?_) (fun _=>?_)))) (fun y0 _=>qao (qp6 ac[n]) (fun y1 hy1=>qao (Q:=fun y2=>y2 = false -> y1 = true) ?_ (fun y2 hy2=>qbx (qbw _ _) (qbx (qbw _ _) (qaq (fun _=>qap (no 0 (by decide))) (fun h=>?_))))))
   ·refine qax (fun _=>qan fun h=>by cases h) (fun h=>qan fun _=>by simpa using h)
   ·simp only [Bool.or_eq_false_iff] at h
    have hid:=hy1 (hy2 h.1.1)
    have step:(∀ (k:Nat) (hk:k < ac.length),k + 1 = n -> ac[k].id < ac[n].id) -> ∀ (i:Nat) (h:i < ac.length),i < n + 1 -> ac[i].id >= 1000 /\ (∀ (k:Nat) (hk:k < ac.length),k + 1 = i -> ac[k].id < ac[i].id):=fun hlt i hi hin=>by
     by_cases e:i = n
     ·subst e; exact ⟨hid,hlt⟩
     ·exact hj i hi (by omega)
    by_cases hz:0 < n
    ·have hp:qaw q4a (EAc ac) (IntKind.wrap .i64 ((n:Int) - 1)) = true:=qgm q58 hn hz h9
     refine qaB (decide_eq_true (by omega)) (qaB hp (qaq (fun _=>qap (no 1 (by decide))) (fun hle=>qbx hv (qaq (fun hne=>qap (yes (by simpa using hne))) (fun _=>qaW ⟨⟨hn,by simp only [qaP hn h9]⟩,step fun k hk e=>?_⟩)))))
     have hm:n - 1 < ac.length:=by omega
     rw [qCD hn hz h9,qCL hm] at hle
     have hle:=of_decide_eq_false hle
     obtain rfl:k = n - 1:=by omega
     omega
    ·refine qcy (decide_eq_false (by omega)) (qbx hv (qaq (fun hne=>qap (yes (by simpa using hne))) (fun _=>qaW ⟨⟨hn,by simp only [qaP hn h9]⟩,step fun k hk e=>by omega⟩)))
  ·have:n = ac.length:=by omega
   subst this
   exact qcy (qdr hn) (qap ⟨by decide,⟨fun h=>(by cases h),fun _ i hi=>hj i hi hi⟩⟩)
 rw [qA5,qkG]
 refine qaq (fun _=>qak fun h=>by cases h) (fun h=>?_)
 rw [List.length_map] at h
 have h64:ac.length <= 64:=by have:=of_decide_eq_false h; omega
 refine qZw (h0 h64) (fun _ _=>qak fun h=>by cases h) (fun _ _=>qak fun h=>by cases h) ?_ ?_
 ·rintro _ ⟨m,_,rfl,hq,_⟩
  obtain ⟨hm,hq⟩:=hq rfl
  simp only [qCL hm,qZG hm,qZH hm,qZI hm,qZJ hm,qZK hm,qZL hm]
  exact qak fun h=>absurd h hq
 ·rintro _ ⟨m,_,rfl,_,hq⟩
  exact qak fun _=>hq rfl
structure BkB (cu:List Cu) (ca:List Cal) (ch:List Gl) (pr:List Pr) (ac:List Acc) (jr:List Enr) (ho:List Hol) (bl:List Blo):Prop where
 pr:∀ p ∈ pr,PrB p
 ca:∀ c ∈ ca,∃ ws hs:List Int,c.wk = EIn ws /\ c.hol = EIn hs /\ ws.length <= 9223372036854775807 /\ hs.length <= 9223372036854775807
 jr:∀ x ∈ jr,EnB x
 ho:∀ h ∈ ho,h.key.length <= 9223372036854775807
set_option maxHeartbeats 8000000 in
theorem qsu {cu:List Cu} {ca:List Cal} {ch:List Gl} {a3 a4 a5 a6 a7 a8 a9 a10 a11 a12 a13 a14 a15 a16:Int} {pr:List Pr} {ac:List Acc} {jr:List Enr} {ho:List Hol} {bl:List Blo} (hB:BkB cu ca ch pr ac jr ho bl):Ok (qd9 (EC cu) (EK ca) (EGl ch) a3 a4 a5 a6 a7 a8 a9 a10 a11 a12 a13 a14 a15 a16 (EPr pr) (EAc ac) (EJr jr) (EHo ho) (EBl bl)) fun (y:Bool)=>y = true -> Asc ac /\ Sz cu ca ch pr ac jr ho bl:=by
 rw [qBa,qkK]
 obtain ⟨g,hg,hgq⟩:=qst (cu:=cu) (ca:=ca) (ch:=ch) (a3:=a3) (a4:=a4) (a5:=a5) (a6:=a6) (a7:=a7) (a8:=a8) (a9:=a9) (a10:=a10) (a11:=a11) (a12:=a12) (a13:=a13) (a14:=a14) (a15:=a15) (a16:=a16) (ac:=ac) (ho:=ho) (bl:=bl) hB.pr (fun x hx=>by have:=(hB.jr x hx).legs; omega)
 refine qbx hg ?_
 cases g with
 | true=>exact qbx (b:=true) rfl (qbx (b:=true) rfl (qbx (b:=true) rfl (qaB rfl (qak fun h=>by cases h))))
 | false=>
  obtain ⟨⟨z1,z2,z3,z4,z5,z6,z7,z8⟩,hsm⟩:=hgq rfl
  have h0:Lo (qur (0,EC cu,EK ca,EGl ch,a3,a4,a5,a6,a7,a8,a9,a10,a11,a12,a13,a14,a15,a16,EPr pr,EAc ac,EJr jr,EHo ho,EBl bl)) 2 fun w=>∃ m:Nat,m <= ca.length /\ w = ((m:Int),EC cu,EK ca,EGl ch,a3,a4,a5,a6,a7,a8,a9,a10,a11,a12,a13,a14,a15,a16,EPr pr,EAc ac,EJr jr,EHo ho,EBl bl):=by
   have h9:ca.length <= 9223372036854775807:=by omega
   rw [qus]
   refine qaZ (fun n:Nat=>((n:Int),EC cu,EK ca,EGl ch,a3,a4,a5,a6,a7,a8,a9,a10,a11,a12,a13,a14,a15,a16,EPr pr,EAc ac,EJr jr,EHo ho,EBl bl)) ca.length 2 (fun n _=>?_) 0 (Nat.zero_le _)
   simp only [qrx,qvJ]
   by_cases hn:n < ca.length
   ·obtain ⟨ws,hs,e1,e2,l1,l2⟩:=hB.ca _ (List.getElem_mem hn)
    refine qaB (qds hn) (qaB (okK hn) ?_)
    simp only [qk0 hn,qk1 hn,qk2 hn,e1,e2]
    refine qao (qsi _ l1 l2) (fun _ _=>qaq (fun _=>qap (by decide)) (fun _=>?_))
    by_cases hz:0 < n
    ·have hp:qaw ksK (Tk.EK ca) (IntKind.wrap .i64 ((n:Int) - 1)) = true:=qgm hkK hn hz h9
     (repeat' (first | exact qak trivial | exact qan trivial | exact qap (by decide) | exact qaW ⟨hn,by simp only [qaP hn h9]⟩ | refine qaB (okK hn) ?_ | refine qaE (okK hn) ?_ | refine qaB (hp) ?_ | refine qaE (hp) ?_ | refine qao (Q:=fun _=>True) ?_ (fun _ _=>?_) | refine qaq (fun _=>?_) (fun _=>?_) | refine qax (fun _=>?_) (fun _=>?_)))
    ·exact qcy (decide_eq_false (by omega)) (qaW ⟨hn,by simp only [qaP hn h9]⟩)
   ·exact qcy (qdr hn) (qap (by decide))
  have h1:Lo (qut (0,EC cu,EK ca,EGl ch,a3,a4,a5,a6,a7,a8,a9,a10,a11,a12,a13,a14,a15,a16,EPr pr,EAc ac,EJr jr,EHo ho,EBl bl)) 2 fun w=>∃ m:Nat,m <= pr.length /\ w = ((m:Int),EC cu,EK ca,EGl ch,a3,a4,a5,a6,a7,a8,a9,a10,a11,a12,a13,a14,a15,a16,EPr pr,EAc ac,EJr jr,EHo ho,EBl bl):=by
   have h9:pr.length <= 9223372036854775807:=by omega
   rw [quu]
   refine qaZ (fun n:Nat=>((n:Int),EC cu,EK ca,EGl ch,a3,a4,a5,a6,a7,a8,a9,a10,a11,a12,a13,a14,a15,a16,EPr pr,EAc ac,EJr jr,EHo ho,EBl bl)) pr.length 2 (fun n _=>?_) 0 (Nat.zero_le _)
   simp only [qry,qvK]
   by_cases hn:n < pr.length
   ·have hm:=List.getElem_mem hn
    refine qaB (qds hn) (qaB (qsg hn) ?_)
    simp only [qMV hn,qXo hn,qXp hn,qCM hn,qXq hn,qXr hn,qXs hn,qXt hn,qXu hn,qXv hn,qCh hn,qCi hn,qCj hn,qCk hn,qCl hn,qCm hn,qCn hn,qCo hn,qCp hn]
    exact qbx (qwO (prW (hB.pr _ hm) (hsm _ hm)) (Nat.le_trans z1 (by decide)) (Nat.le_trans z2 (by decide))) (qaq (fun _=>qap (by decide)) (fun _=>qaW ⟨hn,by simp only [qaP hn h9]⟩))
   ·exact qcy (qdr hn) (qap (by decide))
  refine qao (Q:=fun _=>True) (by (repeat' (first | exact qak trivial | exact qan trivial | exact qap (by decide) | refine qao (Q:=fun _=>True) (qfL (l:=cu) (by omega)) (fun _ _=>?_) | refine qaB (qaG (qfL (l:=cu) (by omega))) ?_ | refine qaE (qaG (qfL (l:=cu) (by omega))) ?_ | refine qao (Q:=fun _=>True) ?_ (fun _ _=>?_) | refine qaq (fun _=>?_) (fun _=>?_) | refine qax (fun _=>?_) (fun _=>?_)))) (fun _ _=>qao (Q:=fun _=>True) (by (repeat' (first | exact qak trivial | exact qan trivial | exact qap (by decide) | refine qao (Q:=fun _=>True) (qfN (l:=ch) (by omega) a3 a4 a5 a6 a7 a8 a9 a10 a11 a12 a13 a14 a15 a16) (fun _ _=>?_) | refine qaB (qaG (qfN (l:=ch) (by omega) a3 a4 a5 a6 a7 a8 a9 a10 a11 a12 a13 a14 a15 a16)) ?_ | refine qaE (qaG (qfN (l:=ch) (by omega) a3 a4 a5 a6 a7 a8 a9 a10 a11 a12 a13 a14 a15 a16)) ?_ | refine qao (Q:=fun _=>True) ?_ (fun _ _=>?_) | refine qaq (fun _=>?_) (fun _=>?_) | refine qax (fun _=>?_) (fun _=>?_)))) (fun _ _=>qao (Q:=fun _=>True) (by (repeat' (first | exact qak trivial | exact qan trivial | exact qap (by decide) | refine qao (Q:=fun _=>True) (qfM (l:=pr) (by omega)) (fun _ _=>?_) | refine qaB (qaG (qfM (l:=pr) (by omega))) ?_ | refine qaE (qaG (qfM (l:=pr) (by omega))) ?_ | refine qao (Q:=fun _=>True) ?_ (fun _ _=>?_) | refine qaq (fun _=>?_) (fun _=>?_) | refine qax (fun _=>?_) (fun _=>?_)))) (fun _ _=>?_)))
  refine qaq (fun _=>qak fun h=>by cases h) (fun _=>qa9 h0 (fun _ _=>qak fun h=>by cases h) ?_)
  rintro _ ⟨m,_,rfl⟩
  refine qa9 h1 (fun _ _=>qak fun h=>by cases h) ?_
  rintro _ ⟨m',_,rfl⟩
  have hjo:=qob (cu:=cu) (ca:=ca) (ch:=ch) (a3:=a3) (a4:=a4) (a5:=a5) (a6:=a6) (a7:=a7) (a8:=a8) (a9:=a9) (a10:=a10) (a11:=a11) (a12:=a12) (a13:=a13) (a14:=a14) (a15:=a15) (a16:=a16) (pr:=pr) (ac:=ac) (ho:=ho) (bl:=bl) (Nat.le_trans z1 (by decide)) (by omega) (Nat.le_trans z4 (by decide)) (Nat.le_trans z5 (by decide)) (by omega) hB.jr
  refine qao (qsr (by omega)) (fun (y6:Int) hy6=>qao (Q:=fun (y:Bool)=>y = true -> y6 = 0) ?_ (fun y7 hy7=>qao (Q:=fun (y:Bool)=>y = true -> y7 = true) ?_ (fun y8 hy8=>qao (Q:=fun (y:Bool)=>y = true -> y8 = true) ?_ (fun y9 hy9=>qak fun h=>⟨hy6 (hy7 (hy8 (hy9 h))),z1,z2,z3,z4,z5,z6,z7,z8⟩))))
  ·refine qax (fun h=>qaE (qaG hjo) (qan fun _=>by simpa using h)) (fun _=>qan fun h=>by cases h)
  ·refine qax (fun h=>qaE (qaG (qsn (l:=ho) (by omega) hB.ho)) (qan fun _=>h)) (fun _=>qan fun h=>by cases h)
  ·refine qax (fun h=>qaE (qaG (qsq (l:=bl) (by omega))) (qan fun _=>h)) (fun _=>qan fun h=>by cases h)
end Go.Proofs.H53z
namespace Go.Proofs.H53z
open Go Go.Eng Go.Tk
set_option maxRecDepth 20000
theorem qBH {cu:List Cu} {ca:List Cal} {ch:List Gl} {a3 a4 a5 a6 a7 a8 a9 a10 a11 a12 a13 a14 a15 a16:Int} {pr:List Pr} {ac:List Acc} {jr:List Enr} {ho:List Hol} {bl:List Blo} (hl:ac.length <= big) (id day:Int):qoC (EC cu) (EK ca) (EGl ch) a3 a4 a5 a6 a7 a8 a9 a10 a11 a12 a13 a14 a15 a16 (EPr pr) (EAc ac) (EJr jr) (EHo ho) (EBl bl) id day = some (qx7 ac id day):=by
 rw [qFn,qrN,qiO (hl:=hl)]
 simp only [ev_bi_some,qhS,qx7]
 cases ac.find? (idC id) with
 | none=>rfl
 | some c=>
  by_cases h1:c.opened <= day <;> by_cases h2:c.closed = 0 <;> by_cases h3:c.closed > day <;> simp [acT,h1,h2,h3]
def qNA (pr:List Pr) (ac:List Acc) (id day:Int):Int × Int:=
 bif !(qhS ac id).2.2.2.2.2.2.2 || !(quX pr ac id day).2.2.2.2.2.2.2.2.2.2.2.2.2.2.2.2.2.2.2 then (0,11)
 else (IntKind.wrap .i64 (0 - IntKind.wrap .i64 ((quX pr ac id day).2.2.2.2.2.1 + (qhS ac id).2.2.2.1)),0)
theorem qBQ {cu:List Cu} {ca:List Cal} {ch:List Gl} {a3 a4 a5 a6 a7 a8 a9 a10 a11 a12 a13 a14 a15 a16:Int} {pr:List Pr} {ac:List Acc} {jr:List Enr} {ho:List Hol} {bl:List Blo} (hp:pr.length <= big) (hl:ac.length <= big) (id day:Int):qsZ (EC cu) (EK ca) (EGl ch) a3 a4 a5 a6 a7 a8 a9 a10 a11 a12 a13 a14 a15 a16 (EPr pr) (EAc ac) (EJr jr) (EHo ho) (EBl bl) id day = some (qNA pr ac id day):=by
 rw [qFG,qsb,qiO (hl:=hl),qAO (hp:=hp) (hl:=hl)]
 simp only [ev_bi_some,qbw,qNA]
 generalize (!(qhS ac id).2.2.2.2.2.2.2 || !(quX pr ac id day).2.2.2.2.2.2.2.2.2.2.2.2.2.2.2.2.2.2.2) = b
 cases b <;> rfl
theorem qwR {cu:List Cu} {ca:List Cal} {ch:List Gl} {a3 a4 a5 a6 a7 a8 a9 a10 a11 a12 a13 a14 a15 a16:Int} {pr:List Pr} {ac:List Acc} {jr:List Enr} {ho:List Hol} {bl:List Blo} (hp:pr.length <= big) (hl:ac.length <= big) (id day:Int):ql3 (EC cu) (EK ca) (EGl ch) a3 a4 a5 a6 a7 a8 a9 a10 a11 a12 a13 a14 a15 a16 (EPr pr) (EAc ac) (EJr jr) (EHo ho) (EBl bl) id day = some (qNA pr ac id day):=by
 rw [qA7,qkI,qhh (hl:=hl),qoJ (hp:=hp) (hl:=hl)]
 simp only [ev_bi_some,qbw,qNA]
 generalize (!(qhS ac id).2.2.2.2.2.2.2 || !(quX pr ac id day).2.2.2.2.2.2.2.2.2.2.2.2.2.2.2.2.2.2.2) = b
 cases b <;> rfl
theorem qCA {α β:Type} {l:List α} {n:Nat} (h:n < l.length) (g:β -> α -> β) (z:β):(l.take (n + 1)).foldl g z = g ((l.take n).foldl g z) l[n]:=by
 rw [List.take_succ_eq_append_getElem h,List.foldl_append]; rfl
def qWc (id day:Int) (n:Int) (h:Hol):Int:=bif (h.acc == id) && (decide (h.from_ <= day) && decide (day <= h.to_)) then IntKind.wrap .i64 (n + h.amt) else n
theorem qwH {ho:List Hol} (hl:ho.length <= 9223372036854775807) (id day:Int):qlP (EHo ho) id day = some (ho.foldl (qWc id day) 0):=by
 have h:=qcx (st:=qq6) (fun (n:Nat) (s:Int)=>(id,day,s,EHo ho,(((EHo ho).length:Nat):Int),(n:Int))) (fun n=>(ho.take n).foldl (qWc id day) 0) ho.length 0 (fun n hn=>?_) ?_
 ·rw [qAF,qkj,qty]
  refine (biS (congrArg (pj 0) h)).trans ?_
  show some _ = _
  rw [List.take_length]
 ·refine (brT (qds hn)).trans ((brT (qCJ hn)).trans ?_)
  simp only [q41 hn,q42 hn,q43 hn,q44 hn,qaP hn hl]
  rw [qCA hn,qWc]
  cases (ho[n].acc == id) <;> cases decide (ho[n].from_ <= day) <;> cases decide (day <= ho[n].to_) <;> rfl
 ·exact (brF (qdr (Nat.lt_irrefl _))).trans rfl
theorem qwQ {ho:List Hol} (hl:ho.length <= 9223372036854775807) (id day:Int):ql1 (EHo ho) id day = some (ho.foldl (qWc id day) 0):=by
 have h:=qcx (st:=qrq) (fun (n:Nat) (s:Int)=>(EHo ho,id,day,s,(n:Int))) (fun n=>(ho.take n).foldl (qWc id day) 0) ho.length 0 (fun n hn=>?_) ?_
 ·rw [qA2,qkD,quf]
  refine (biS (congrArg (pj 0) h)).trans ?_
  show some _ = _
  rw [List.take_length]
 ·refine (brT (qds hn)).trans ((brT (qCJ hn)).trans ?_)
  simp only [qCJ hn,q41 hn,q42 hn,q43 hn,q44 hn,qaP hn hl,br_true]
  rw [qCA hn,qWc]
  show _ = some (Rd.next (EHo ho,id,day,bif (ho[n].acc == id) && (decide (day >= ho[n].from_) && decide (day <= ho[n].to_)) then _ else _,_))
  cases (ho[n].acc == id) <;> cases decide (day >= ho[n].from_) <;> cases decide (day <= ho[n].to_) <;> first | rfl | exact (biS rfl).trans ((biS rfl).trans ((brT rfl).trans ((brT (qCJ hn)).trans rfl)))
 ·exact (brF (qdr (Nat.lt_irrefl _))).trans rfl
def qjM (id day:Int) (b:Blo):Bool:=(b.acc == id) && (decide (b.from_ <= day) && decide (day <= b.to_))
def qpn (bl:List Blo) (n:Nat) (p:Blo -> Bool):List Blo:=(bl.take n).filter p
theorem qSl {bl:List Blo} {n:Nat} (h:n < bl.length) (p:Blo -> Bool):qpn bl (n + 1) p = bif p bl[n] then qpn bl n p ++ [bl[n]] else qpn bl n p:=by
 unfold qpn
 rw [List.take_succ_eq_append_getElem h,List.filter_append]
 cases hp:p bl[n] <;> simp [hp]
theorem qIB (bl:List Blo) (n:Nat) (p:Blo -> Bool):(qpn bl n p).length <= bl.length:=by
 unfold qpn
 exact Nat.le_trans (List.length_filter_le _ _) (by rw [List.length_take]; omega)
def hdA (id day:Int) (bl:List Blo) (n:Nat) (s:List Blo):qdw:=match s with
 | []=>.inl (id,day,EBl bl,(((EBl bl).length:Nat):Int),(n:Int))
 | x :: s=>.inr (id,day,EBl bl,(((EBl bl).length:Nat):Int),(n:Int),EBl (x :: s))
theorem qA8 {bl:List Blo} (hl:bl.length <= 900) (id day:Int):qsS (EBl bl) id day = some (EBl (bl.filter (qjM id day))):=by
 have h9:bl.length <= 9223372036854775807:=by omega
 have hr:∀ n,(qpn bl n (qjM id day)).length <= 900:=fun n=>Nat.le_trans (qIB _ _ _) hl
 have h:=qcx (st:=qnC) (hdA id day bl) (fun n=>qpn bl n (qjM id day)) bl.length (match qpn bl bl.length (qjM id day) with | []=>0 | _ :: _=>1) (fun n hn=>?_) ?_
 ·have e:qpn bl bl.length (qjM id day) = bl.filter (qjM id day):=by unfold qpn; rw [List.take_length]
  rw [e] at h
  have h:qah (fun v=>(qnC v).ev) (Sum.inl (id,day,EBl bl,(((EBl bl).length:Nat):Int),0)) = _:=h
  rw [qFl,qrK,qs9,h]
  cases bl.filter (qjM id day) with
  | nil=>exact (biS rfl).trans rfl
  | cons x s=>exact (biN rfl).trans ((biS rfl).trans rfl)
 ·have hs:=qSl hn (qjM id day)
  have hq:=hr n
  have ha:qjM id day bl[n] = ((bl[n].acc == id) && (decide (bl[n].from_ <= day) && decide (day <= bl[n].to_))):=rfl
  rw [ha] at hs
  rw [hs]
  cases ho:qpn bl n (qjM id day) with
  | nil=>
   refine (brT (qds hn)).trans ((brT (qzH hn)).trans ?_)
   simp only [qXj hn,qXk hn,qVF hn,qVG hn,qXl hn,qXm hn,qXn hn,qaP hn h9]
   cases (bl[n].acc == id) <;> cases decide (bl[n].from_ <= day) <;> cases decide (day <= bl[n].to_) <;> rfl
  | cons x s=>
   rw [ho] at hq
   have hm:room ((EBl (x :: s)).length + 1) 64 = true:=qbO (by rw [List.length_map]; omega) (by decide)
   refine (brT (qds hn)).trans ((brT (qzH hn)).trans ?_)
   simp only [qXj hn,qXk hn,qVF hn,qVG hn,qXl hn,qXm hn,qXn hn,qaP hn h9]
   have e:EBl (x :: s) ++ EBl [bl[n]] = EBl ((x :: s) ++ [bl[n]]):=List.map_append.symm
   cases (bl[n].acc == id) <;> cases decide (bl[n].from_ <= day) <;> cases decide (day <= bl[n].to_) <;> first | rfl | exact (biS rfl).trans ((biS rfl).trans ((brT rfl).trans ((brT hm).trans (congrArg (fun z=>some (Rd.next (Sum.inr (id,day,EBl bl,(((EBl bl).length:Nat):Int),((n + 1:Nat):Int),z)))) e))))
 ·cases qpn bl bl.length (qjM id day) with
  | nil=>exact (brF (qdr (Nat.lt_irrefl _))).trans rfl
  | cons x s=>exact (brF (qdr (Nat.lt_irrefl _))).trans rfl
def hdR (id day:Int) (bl:List Blo) (n:Nat) (s:List Blo):qdz:=match s with
 | []=>.inl (EBl bl,id,day,(n:Int))
 | x :: s=>.inr (EBl bl,id,day,(n:Int),EBl (x :: s))
theorem qwF {bl:List Blo} (hl:bl.length <= 900) (id day:Int):qlL (EBl bl) id day = some (EBl (bl.filter (qjM id day))):=by
 have h9:bl.length <= 9223372036854775807:=by omega
 have hr:∀ n,(qpn bl n (qjM id day)).length <= 900:=fun n=>Nat.le_trans (qIB _ _ _) hl
 have h:=qcx (st:=qnJ) (hdR id day bl) (fun n=>qpn bl n (qjM id day)) bl.length (match qpn bl bl.length (qjM id day) with | []=>0 | _ :: _=>1) (fun n hn=>?_) ?_
 ·have e:qpn bl bl.length (qjM id day) = bl.filter (qjM id day):=by unfold qpn; rw [List.take_length]
  rw [e] at h
  have h:qah (fun v=>(qnJ v).ev) (Sum.inl (EBl bl,id,day,0)) = _:=h
  rw [qAA,qke,qtv,h]
  cases bl.filter (qjM id day) with
  | nil=>exact (biS rfl).trans rfl
  | cons x s=>exact (biN rfl).trans ((biS rfl).trans rfl)
 ·have hs:=qSl hn (qjM id day)
  have hq:=hr n
  have ha:qjM id day bl[n] = ((bl[n].acc == id) && (decide (bl[n].from_ <= day) && decide (day <= bl[n].to_))):=rfl
  rw [ha] at hs
  rw [hs]
  cases ho:qpn bl n (qjM id day) with
  | nil=>
   refine (brT (qds hn)).trans ((brT (qzH hn)).trans ?_)
   simp only [qzH hn,br_true,qXj hn,qXk hn,qVF hn,qVG hn,qXl hn,qXm hn,qXn hn,qaP hn h9]
   cases (bl[n].acc == id) <;> cases decide (bl[n].from_ <= day) <;> cases decide (day <= bl[n].to_) <;> first | rfl | exact (biS rfl).trans ((biS rfl).trans ((brT rfl).trans ((brT (qzH hn)).trans rfl)))
  | cons x s=>
   rw [ho] at hq
   have hm:room ((EBl (x :: s)).length + 1) 64 = true:=qbO (by rw [List.length_map]; omega) (by decide)
   refine (brT (qds hn)).trans ((brT (qzH hn)).trans ?_)
   simp only [qzH hn,br_true,qXj hn,qXk hn,qVF hn,qVG hn,qXl hn,qXm hn,qXn hn,qaP hn h9]
   have e:EBl (x :: s) ++ EBl [bl[n]] = EBl ((x :: s) ++ [bl[n]]):=List.map_append.symm
   cases (bl[n].acc == id) <;> cases decide (bl[n].from_ <= day) <;> cases decide (day <= bl[n].to_) <;> first | rfl | exact (biS rfl).trans ((biS rfl).trans ((brT rfl).trans ((brT hm).trans (congrArg (fun z=>some (Rd.next (Sum.inr (EBl bl,id,day,((n + 1:Nat):Int),z)))) e))))
 ·cases qpn bl bl.length (qjM id day) with
  | nil=>exact (brF (qdr (Nat.lt_irrefl _))).trans rfl
  | cons x s=>exact (brF (qdr (Nat.lt_irrefl _))).trans rfl
def qOa (n:Int) (b:Blo):Int:=bif b.kind == 4 then IntKind.wrap .i64 (n + b.amt) else n
theorem q8c {l:List Blo} (hl:l.length <= 9223372036854775807):qNQ (0,EBl l,(((EBl l).length:Nat):Int),0) = some (0,(l.foldl qOa 0,EBl l,(((EBl l).length:Nat):Int),(l.length:Int))):=by
 rw [qy8]
 refine (qcx (st:=qzW) (fun (n:Nat) (s:Int)=>(s,EBl l,(((EBl l).length:Nat):Int),(n:Int))) (fun n=>(l.take n).foldl qOa 0) l.length 0 (fun n hn=>?_) ?_).trans (by rw [List.take_length])
 ·refine (brT (qds hn)).trans ((brT (qzH hn)).trans ?_)
  simp only [qXj hn,qXk hn,qVF hn,qVG hn,qXl hn,qXm hn,qXn hn,qaP hn hl]
  rw [qCA hn,qOa,qFo,qrO]
  by_cases k1:l[n].kind = 1
  ·simp [k1]
  ·by_cases k2:l[n].kind = 2
   ·simp [k2]
   ·by_cases k3:l[n].kind = 3
    ·simp [k3]
    ·by_cases k4:l[n].kind = 4
     ·simp [k4]
     ·have e1:(l[n].kind == 1) = false:=beq_eq_false_iff_ne.2 k1
      have e2:(l[n].kind == 2) = false:=beq_eq_false_iff_ne.2 k2
      have e3:(l[n].kind == 3) = false:=beq_eq_false_iff_ne.2 k3
      have e4:(l[n].kind == 4) = false:=beq_eq_false_iff_ne.2 k4
      simp only [e1,e2,e3,e4,ev_br,ev_at,cond_false]
      rfl
 ·exact (brF (qdr (Nat.lt_irrefl _))).trans rfl
theorem q8d {l:List Blo} (hl:l.length <= 9223372036854775807):qy1 (EBl l,0,0) = some (0,(EBl l,l.foldl qOa 0,(l.length:Int))):=by
 rw [qti]
 refine (qcx (st:=qqZ) (fun (n:Nat) (s:Int)=>(EBl l,s,(n:Int))) (fun n=>(l.take n).foldl qOa 0) l.length 0 (fun n hn=>?_) ?_).trans (by rw [List.take_length])
 ·refine (brT (qds hn)).trans ((brT (qzH hn)).trans ?_)
  simp only [qVF hn,qVG hn,qaP hn hl]
  rw [qCA hn,qOa]
  cases (l[n].kind == 4)
  ·rfl
  ·exact (brT rfl).trans ((brT (qzH hn)).trans rfl)
 ·exact (brF (qdr (Nat.lt_irrefl _))).trans rfl
theorem qAz {bl:List Blo} (hl:bl.length <= 900) (id day:Int):qsP (EBl bl) id day = some ((bl.filter (qjM id day)).foldl qOa 0):=by
 rw [qFh,qrD]
 exact (biS (qA8 hl id day)).trans ((biS (congrArg (pj 0) (q8c (Nat.le_trans (List.length_filter_le _ _) (by omega))))).trans rfl)
theorem qBP {bl:List Blo} (hl:bl.length <= 900) (id day:Int):qsY (EBl bl) id day = some ((bl.filter (qjM id day)).foldl qOa 0):=by
 rw [qFz,qrZ]
 exact (biS (qwF hl id day)).trans ((biS (congrArg (pj 0) (q8d (Nat.le_trans (List.length_filter_le _ _) (by omega))))).trans rfl)
end Go.Proofs.H53z
namespace Go.Proofs.H53z
open Go Go.Eng Go.Tk
set_option maxRecDepth 20000
theorem qsd (n:Int):IntKind.wrap .i64 n = (n + 9223372036854775808) % 18446744073709551616 - 9223372036854775808:=by rw [Go.IntWalk.i64_left]; unfold RowKit.wrap64; rfl
theorem q1d (a b:Int):IntKind.wrap .i64 (IntKind.wrap .i64 a - b) = IntKind.wrap .i64 (a - b):=by rw [qsd,qsd a,qsd (a - b)]; omega
theorem q1c (a b:Int):IntKind.wrap .i64 (IntKind.wrap .i64 a + IntKind.wrap .i64 b) = IntKind.wrap .i64 (a + b):=by rw [qsd,qsd a,qsd b,qsd (a + b)]; omega
theorem qLH (l:List Int) (z:Int):l.foldl (fun n x=>IntKind.wrap .i64 (n - x)) (IntKind.wrap .i64 z) = IntKind.wrap .i64 (z - l.sum):=by
 induction l generalizing z with
 | nil=>simp
 | cons x l ih=>
  rw [List.foldl_cons,q1d,ih,List.sum_cons]
  congr 1; omega
theorem qzY (l:List Int):qCO l = IntKind.wrap .i64 (-l.sum):=by
 have:=qLH l 0
 have e:IntKind.wrap .i64 0 = 0:=by rw [qsd]; rfl
 rw [e] at this
 unfold qCO
 rw [this]; congr 1; omega
theorem qVQ (a b:List Int):(a ++ b).sum = a.sum + b.sum:=by simp
def q2E (id:Int) (n:Int) (g:Leg):Int:=bif g.acc == id then IntKind.wrap .i64 (n - g.amt) else n
theorem qVj (id:Int) (l:List Leg):∀ z,l.foldl (q2E id) z = (amE id l).foldl (fun n x=>IntKind.wrap .i64 (n - x)) z:=by
 induction l with
 | nil=>intro z; rfl
 | cons g l ih=>
  intro z
  rw [List.foldl_cons,ih]
  unfold amE q2E
  by_cases h:g.acc = id
  ·simp [h]
  ·simp [h,beq_eq_false_iff_ne.2 h]
theorem qwP {x:Enr} (hl:x.legs.length <= 9223372036854775807) (id:Int):ql0 x.id x.booked x.value x.kind x.auth x.period x.key x.text (ELg x.legs) x.chain id = some (qCO (amE id x.legs)):=by
 have h:=qcx (st:=qrn) (fun (n:Nat) (s:Int)=>(id,s,(n:Int),x.id,x.booked,x.value,x.kind,x.auth,x.period,x.key,x.text,(ELg x.legs),x.chain)) (fun n=>(x.legs.take n).foldl (q2E id) 0) x.legs.length 0 (fun n hn=>?_) ?_
 ·rw [qAZ,qkA,qub]
  refine (biS (congrArg (pj 0) h)).trans ?_
  show some _ = _
  rw [List.take_length,qVj]; rfl
 ·refine (brT (qds hn)).trans ((brT (qIt hn)).trans ?_)
  simp only [q5e hn,q5f hn,qaP hn hl]
  rw [qCA hn,q2E]
  cases (x.legs[n].acc == id)
  ·rfl
  ·exact (brT rfl).trans ((brT (qIt hn)).trans rfl)
 ·exact (brF (qdr (Nat.lt_irrefl _))).trans rfl
theorem qZp (id:Int) (l:List Enr):∀ z,l.foldl (fun n (x:Enr)=>IntKind.wrap .i64 (n + qCO (amE id x.legs))) (IntKind.wrap .i64 z) = IntKind.wrap .i64 (z - (ams id l).sum):=by
 induction l with
 | nil=>intro z; simp [ams]
 | cons x l ih=>
  intro z
  rw [List.foldl_cons,qzY,q1c,ih]
  have e:ams id (x :: l) = amE id x.legs ++ ams id l:=rfl
  rw [e,qVQ]; congr 1; omega
theorem qw2 {jr:List Enr} (hl:jr.length <= 9223372036854775807) (hg:∀ x ∈ jr,x.legs.length <= 9223372036854775807) (id:Int):qmo (EJr jr) id = some (qW6 jr id):=by
 have h:=qcx (st:=qj7) (fun (n:Nat) (s:Int)=>(EJr jr,id,s,(n:Int))) (fun n=>(jr.take n).foldl (fun n (x:Enr)=>IntKind.wrap .i64 (n + qCO (amE id x.legs))) 0) jr.length 0 (fun n hn=>?_) ?_
 ·rw [qBG,qli,qpb]
  refine (biS (congrArg (pj 0) h)).trans ?_
  show some _ = _
  rw [List.take_length]
  have e:=qZp id jr 0
  have e0:IntKind.wrap .i64 0 = 0:=by rw [qsd]; rfl
  rw [e0] at e
  show some (List.foldl _ 0 jr) = _
  rw [e,qW6,qzY]
  congr 2; omega
 ·refine (brT (qds hn)).trans ((brT (qZt hn)).trans ?_)
  simp only [q45 hn,q46 hn,q47 hn,q48 hn,q49 hn,q5a hn,q5b hn,q5c hn,q2R hn,q5d hn,qaP hn hl]
  rw [qCA hn]
  exact (biS (qwP (hg _ (List.getElem_mem hn)) id)).trans rfl
 ·exact (brF (qdr (Nat.lt_irrefl _))).trans rfl
def qCE (pr:List Pr) (ac:List Acc) (jr:List Enr) (ho:List Hol) (bl:List Blo) (id day:Int):Int × Int:=
 bif (qNA pr ac id day).2 != 0 then (0,(qNA pr ac id day).2)
 else (IntKind.wrap .i64 (IntKind.wrap .i64 (IntKind.wrap .i64 (qW6 jr id - (qNA pr ac id day).1) - ho.foldl (qWc id day) 0) - (bl.filter (qjM id day)).foldl qOa 0),0)
structure LawB (pr:List Pr) (ac:List Acc) (jr:List Enr) (ho:List Hol) (bl:List Blo):Prop where
 lp:pr.length <= 900
 la:ac.length <= 12
 lj:jr.length <= 900
 lg:∀ x ∈ jr,x.legs.length <= 900
 lh:ho.length <= 900
 lb:bl.length <= 900
theorem q4i {jr:List Enr} (h:jr.length <= 900) (hg:∀ x ∈ jr,x.legs.length <= 900):qY4 jr = true:=by
 unfold qY4
 rw [Bool.and_eq_true,List.all_eq_true]
 exact ⟨decide_eq_true (by omega),fun x hx=>decide_eq_true (by have:=hg x hx; omega)⟩
theorem qBj {cu:List Cu} {ca:List Cal} {ch:List Gl} {a3 a4 a5 a6 a7 a8 a9 a10 a11 a12 a13 a14 a15 a16:Int} {pr:List Pr} {ac:List Acc} {jr:List Enr} {ho:List Hol} {bl:List Blo} (h:LawB pr ac jr ho bl) (id day:Int):qoA (EC cu) (EK ca) (EGl ch) a3 a4 a5 a6 a7 a8 a9 a10 a11 a12 a13 a14 a15 a16 (EPr pr) (EAc ac) (EJr jr) (EHo ho) (EBl bl) id day = some (qCE pr ac jr ho bl id day):=by
 have hp:pr.length <= big:=Nat.le_trans h.lp (by decide)
 have ha:ac.length <= big:=Nat.le_trans h.la (by decide)
 rw [qFm,qrL,qCE]
 refine (biS (qBQ hp ha id day)).trans ?_
 cases hf:(qNA pr ac id day).2 != 0
 ·exact (brF rfl).trans ((brT (q4r jr (q4i h.lj h.lg))).trans ((biS (qwH (by have:=h.lh; omega) id day)).trans ((biS (qAz h.lb id day)).trans (by rw [qZq]; rfl))))
 ·exact (brT rfl).trans rfl
theorem qBI {cu:List Cu} {ca:List Cal} {ch:List Gl} {a3 a4 a5 a6 a7 a8 a9 a10 a11 a12 a13 a14 a15 a16:Int} {pr:List Pr} {ac:List Acc} {jr:List Enr} {ho:List Hol} {bl:List Blo} (h:LawB pr ac jr ho bl) (id day:Int):qoD (EC cu) (EK ca) (EGl ch) a3 a4 a5 a6 a7 a8 a9 a10 a11 a12 a13 a14 a15 a16 (EPr pr) (EAc ac) (EJr jr) (EHo ho) (EBl bl) id day = some (qCE pr ac jr ho bl id day):=by
 have hp:pr.length <= big:=Nat.le_trans h.lp (by decide)
 have ha:ac.length <= big:=Nat.le_trans h.la (by decide)
 rw [qFp,qrP,qCE]
 refine (biS (qwR hp ha id day)).trans ?_
 cases hf:(qNA pr ac id day).2 != 0
 ·exact (brF rfl).trans ((biS (qw2 (by have:=h.lj; omega) (fun x hx=>by have:=h.lg x hx; omega) id)).trans ((biS (qwQ (by have:=h.lh; omega) id day)).trans ((biS (qBP h.lb id day)).trans rfl)))
 ·exact (brT rfl).trans rfl
structure Avl where
 acc:Int
 amt:Int
 used:Int
def Avl.av (x:Avl):AV:=.agg [.int .i64 x.acc,.int .i64 x.amt,.int .i64 x.used]
abbrev EAv (l:List Avl):List AV:=l.map Avl.av
abbrev q4b:List CS:=[CS.int IntKind.i64,CS.int IntKind.i64,CS.int IntKind.i64]
theorem q59 (h:Avl):qfK q4b (qac h.av) = true:=rfl
theorem qVr {l:List Avl} {n:Nat} (h:n < l.length):qaw q4b (EAv l) (n:Int) = true:=qbv q59 h
theorem qZM {l:List Avl} {n:Nat} (h:n < l.length):intOf (cellAt (EAv l) (n:Int) 0) = l[n].acc:=by rw [qad h]; rfl
theorem q2P {l:List Avl} {n:Nat} (h:n < l.length):intOf (cellAt (EAv l) (n:Int) 1) = l[n].amt:=by rw [qad h]; rfl
theorem q2Q {l:List Avl} {n:Nat} (h:n < l.length):intOf (cellAt (EAv l) (n:Int) 2) = l[n].used:=by rw [qad h]; rfl
theorem qXI (l:List Avl) (x:Avl):EAv l ++ [x.av] = EAv (l ++ [x]):=by simp
def mx0 (v:Int × Int):Int:=if (bif v.2 != 0 then 0 else v.1) > 0 then (bif v.2 != 0 then 0 else v.1) else 0
theorem qSh (v:Int × Int):0 <= mx0 v:=by unfold mx0; split <;> omega
def qh4 (pr:List Pr) (ac:List Acc) (jr:List Enr) (ho:List Hol) (bl:List Blo) (day:Int) (a:Acc):Avl:=⟨a.id,mx0 (qCE pr ac jr ho bl a.id day),0⟩
def qdC (pr:List Pr) (ac:List Acc) (jr:List Enr) (ho:List Hol) (bl:List Blo) (day:Int) (n:Nat):List Avl:=((ac.take n).filter fun a=>qx7 ac a.id day).map (qh4 pr ac jr ho bl day)
theorem qEN {pr:List Pr} {ac:List Acc} {jr:List Enr} {ho:List Hol} {bl:List Blo} {day:Int} {n:Nat} (h:n < ac.length) :
  qdC pr ac jr ho bl day (n + 1) = bif qx7 ac ac[n].id day then qdC pr ac jr ho bl day n ++ [qh4 pr ac jr ho bl day ac[n]] else qdC pr ac jr ho bl day n:=by
 unfold qdC
 rw [List.take_succ_eq_append_getElem h,List.filter_append,List.map_append]
 cases hp:qx7 ac ac[n].id day <;> simp [hp]
theorem qqd (pr:List Pr) (ac:List Acc) (jr:List Enr) (ho:List Hol) (bl:List Blo) (day:Int) (n:Nat):(qdC pr ac jr ho bl day n).length <= ac.length:=by
 unfold qdC
 rw [List.length_map]
 exact Nat.le_trans (List.length_filter_le _ _) (by rw [List.length_take]; omega)
def hdB (cu:List Cu) (ca:List Cal) (ch:List Gl) (a3 a4 a5 a6 a7 a8 a9 a10 a11 a12 a13 a14 a15 a16:Int) (pr:List Pr) (ac:List Acc) (jr:List Enr) (ho:List Hol) (bl:List Blo) (day lm:Int) (n:Nat) (s:List Avl):qdx:=match s with
 | []=>.inl (day,EAc ac,(((EAc ac).length:Nat):Int),(n:Int),EC cu,EK ca,EGl ch,a3,a4,a5,a6,a7,a8,a9,a10,a11,a12,a13,a14,a15,a16,EPr pr,EAc ac,EJr jr,EHo ho,EBl bl,0,lm)
 | x :: s=>.inr (day,EAc ac,(((EAc ac).length:Nat):Int),(n:Int),EC cu,EK ca,EGl ch,a3,a4,a5,a6,a7,a8,a9,a10,a11,a12,a13,a14,a15,a16,EPr pr,EAc ac,EJr jr,EHo ho,EBl bl,0,lm,EAv (x :: s))
set_option maxHeartbeats 4000000 in
theorem qoF {cu:List Cu} {ca:List Cal} {ch:List Gl} {a3 a4 a5 a6 a7 a8 a9 a10 a11 a12 a13 a14 a15 a16:Int} {pr:List Pr} {ac:List Acc} {jr:List Enr} {ho:List Hol} {bl:List Blo} (h:LawB pr ac jr ho bl) (day lm:Int):qoE (EC cu) (EK ca) (EGl ch) a3 a4 a5 a6 a7 a8 a9 a10 a11 a12 a13 a14 a15 a16 (EPr pr) (EAc ac) (EJr jr) (EHo ho) (EBl bl) day lm = some (lm,EAv (qdC pr ac jr ho bl day ac.length),[]):=by
 have h12:=h.la
 have h9:ac.length <= 9223372036854775807:=by omega
 have hr:∀ n,(qdC pr ac jr ho bl day n).length <= 12:=fun n=>Nat.le_trans (qqd _ _ _ _ _ _ _) h.la
 have hk:=qcx (st:=qnD) (hdB cu ca ch a3 a4 a5 a6 a7 a8 a9 a10 a11 a12 a13 a14 a15 a16 pr ac jr ho bl day lm) (qdC pr ac jr ho bl day) ac.length (match qdC pr ac jr ho bl day ac.length with | []=>0 | _ :: _=>1) (fun n hn=>?_) ?_
 ·have hk:qah (fun v=>(qnD v).ev) (Sum.inl (day,EAc ac,(((EAc ac).length:Nat):Int),0,EC cu,EK ca,EGl ch,a3,a4,a5,a6,a7,a8,a9,a10,a11,a12,a13,a14,a15,a16,EPr pr,EAc ac,EJr jr,EHo ho,EBl bl,0,lm)) = _:=hk
  rw [qFr,qrR,qta,hk]
  cases qdC pr ac jr ho bl day ac.length with
  | nil=>exact (biS rfl).trans rfl
  | cons x s=>exact (biN rfl).trans ((biS rfl).trans rfl)
 ·have hs:=qEN (pr:=pr) (jr:=jr) (ho:=ho) (bl:=bl) (day:=day) hn
  have hq:=hr n
  have va:=qBH (cu:=cu) (ca:=ca) (ch:=ch) (a3:=a3) (a4:=a4) (a5:=a5) (a6:=a6) (a7:=a7) (a8:=a8) (a9:=a9) (a10:=a10) (a11:=a11) (a12:=a12) (a13:=a13) (a14:=a14) (a15:=a15) (a16:=a16) (pr:=pr) (jr:=jr) (ho:=ho) (bl:=bl) (Nat.le_trans h.la (by decide):ac.length <= big) ac[n].id day
  have vb:=qBj (cu:=cu) (ca:=ca) (ch:=ch) (a3:=a3) (a4:=a4) (a5:=a5) (a6:=a6) (a7:=a7) (a8:=a8) (a9:=a9) (a10:=a10) (a11:=a11) (a12:=a12) (a13:=a13) (a14:=a14) (a15:=a15) (a16:=a16) h ac[n].id day
  have ho1:(qh4 pr ac jr ho bl day ac[n]).av = .agg [.int .i64 ac[n].id,.int .i64 (mx0 (qCE pr ac jr ho bl ac[n].id day)),.int .i64 0]:=rfl
  rw [hs]
  cases hb:qdC pr ac jr ho bl day n with
  | nil=>
   refine (brT (qds hn)).trans ((brT (qMT hn)).trans ?_)
   simp only [qCL hn,qaP hn h9]
   refine (biS va).trans ?_
   cases qx7 ac ac[n].id day
   ·exact (brT rfl).trans rfl
   ·refine (brF rfl).trans ((biS vb).trans ?_)
    have e:[(qh4 pr ac jr ho bl day ac[n]).av] = EAv ([] ++ [qh4 pr ac jr ho bl day ac[n]]):=rfl
    rw [ho1] at e
    unfold mx0 at e
    have fin:∀ z,z = EAv ([] ++ [qh4 pr ac jr ho bl day ac[n]]) -> some (Rd.next (Sum.inr (day,EAc ac,(((EAc ac).length:Nat):Int),((n + 1:Nat):Int),EC cu,EK ca,EGl ch,a3,a4,a5,a6,a7,a8,a9,a10,a11,a12,a13,a14,a15,a16,EPr pr,EAc ac,EJr jr,EHo ho,EBl bl,0,lm,z))) = some (Rd.next (hdB cu ca ch a3 a4 a5 a6 a7 a8 a9 a10 a11 a12 a13 a14 a15 a16 pr ac jr ho bl day lm (n + 1) ([] ++ [qh4 pr ac jr ho bl day ac[n]]))):=by
     rintro _ rfl; rfl
    cases hv:(qCE pr ac jr ho bl ac[n].id day).2 != 0
    ·rw [hv] at e; exact (brF rfl).trans (fin _ e)
    ·rw [hv] at e; exact (brT rfl).trans (fin _ e)
  | cons x s=>
   rw [hb] at hq
   have hm:room ((EAv (x :: s)).length + 1) 24 = true:=qbO (by rw [List.length_map]; omega) (by decide)
   refine (brT (qds hn)).trans ((brT (qMT hn)).trans ?_)
   simp only [qCL hn,qaP hn h9]
   refine (biS va).trans ?_
   cases qx7 ac ac[n].id day
   ·exact (brT rfl).trans rfl
   ·refine (brF rfl).trans ((biS vb).trans ?_)
    have e:EAv (x :: s) ++ [(qh4 pr ac jr ho bl day ac[n]).av] = EAv ((x :: s) ++ [qh4 pr ac jr ho bl day ac[n]]):=qXI _ _
    rw [ho1] at e
    unfold mx0 at e
    have fin:∀ z,z = EAv ((x :: s) ++ [qh4 pr ac jr ho bl day ac[n]]) -> some (Rd.next (Sum.inr (day,EAc ac,(((EAc ac).length:Nat):Int),((n + 1:Nat):Int),EC cu,EK ca,EGl ch,a3,a4,a5,a6,a7,a8,a9,a10,a11,a12,a13,a14,a15,a16,EPr pr,EAc ac,EJr jr,EHo ho,EBl bl,0,lm,z))) = some (Rd.next (hdB cu ca ch a3 a4 a5 a6 a7 a8 a9 a10 a11 a12 a13 a14 a15 a16 pr ac jr ho bl day lm (n + 1) ((x :: s) ++ [qh4 pr ac jr ho bl day ac[n]]))):=by
     rintro _ rfl; rfl
    cases hv:(qCE pr ac jr ho bl ac[n].id day).2 != 0
    ·rw [hv] at e; exact (brF rfl).trans ((brT hm).trans (fin _ e))
    ·rw [hv] at e; exact (brT rfl).trans ((brT hm).trans (fin _ e))
 ·cases qdC pr ac jr ho bl day ac.length with
  | nil=>exact (brF (qdr (Nat.lt_irrefl _))).trans rfl
  | cons x s=>exact (brF (qdr (Nat.lt_irrefl _))).trans rfl
def hdC (cu:List Cu) (ca:List Cal) (ch:List Gl) (a3 a4 a5 a6 a7 a8 a9 a10 a11 a12 a13 a14 a15 a16:Int) (pr:List Pr) (ac:List Acc) (jr:List Enr) (ho:List Hol) (bl:List Blo) (day lm:Int) (n:Nat) (s:List Avl):qdA:=match s with
 | []=>.inl (day,(n:Int),EC cu,EK ca,EGl ch,a3,a4,a5,a6,a7,a8,a9,a10,a11,a12,a13,a14,a15,a16,EPr pr,EAc ac,EJr jr,EHo ho,EBl bl,0,lm)
 | x :: s=>.inr (day,(n:Int),EC cu,EK ca,EGl ch,a3,a4,a5,a6,a7,a8,a9,a10,a11,a12,a13,a14,a15,a16,EPr pr,EAc ac,EJr jr,EHo ho,EBl bl,0,lm,EAv (x :: s))
set_option maxHeartbeats 4000000 in
theorem qwS {cu:List Cu} {ca:List Cal} {ch:List Gl} {a3 a4 a5 a6 a7 a8 a9 a10 a11 a12 a13 a14 a15 a16:Int} {pr:List Pr} {ac:List Acc} {jr:List Enr} {ho:List Hol} {bl:List Blo} (h:LawB pr ac jr ho bl) (day lm:Int):ql5 (EC cu) (EK ca) (EGl ch) a3 a4 a5 a6 a7 a8 a9 a10 a11 a12 a13 a14 a15 a16 (EPr pr) (EAc ac) (EJr jr) (EHo ho) (EBl bl) day lm = some (lm,EAv (qdC pr ac jr ho bl day ac.length),[]):=by
 have h12:=h.la
 have h9:ac.length <= 9223372036854775807:=by omega
 have hr:∀ n,(qdC pr ac jr ho bl day n).length <= 12:=fun n=>Nat.le_trans (qqd _ _ _ _ _ _ _) h.la
 have hk:=qcx (st:=qnV) (hdC cu ca ch a3 a4 a5 a6 a7 a8 a9 a10 a11 a12 a13 a14 a15 a16 pr ac jr ho bl day lm) (qdC pr ac jr ho bl day) ac.length (match qdC pr ac jr ho bl day ac.length with | []=>0 | _ :: _=>1) (fun n hn=>?_) ?_
 ·have hk:qah (fun v=>(qnV v).ev) (Sum.inl (day,0,EC cu,EK ca,EGl ch,a3,a4,a5,a6,a7,a8,a9,a10,a11,a12,a13,a14,a15,a16,EPr pr,EAc ac,EJr jr,EHo ho,EBl bl,0,lm)) = _:=hk
  rw [qBb,qkL,quv,hk]
  cases qdC pr ac jr ho bl day ac.length with
  | nil=>exact (biS rfl).trans rfl
  | cons x s=>exact (biN rfl).trans ((biS rfl).trans rfl)
 ·have hs:=qEN (pr:=pr) (jr:=jr) (ho:=ho) (bl:=bl) (day:=day) hn
  have hq:=hr n
  have va:=qg7 (cu:=cu) (ca:=ca) (ch:=ch) (a3:=a3) (a4:=a4) (a5:=a5) (a6:=a6) (a7:=a7) (a8:=a8) (a9:=a9) (a10:=a10) (a11:=a11) (a12:=a12) (a13:=a13) (a14:=a14) (a15:=a15) (a16:=a16) (pr:=pr) (jr:=jr) (ho:=ho) (bl:=bl) (Nat.le_trans h.la (by decide):ac.length <= big) ac[n].id day
  have vb:=qBI (cu:=cu) (ca:=ca) (ch:=ch) (a3:=a3) (a4:=a4) (a5:=a5) (a6:=a6) (a7:=a7) (a8:=a8) (a9:=a9) (a10:=a10) (a11:=a11) (a12:=a12) (a13:=a13) (a14:=a14) (a15:=a15) (a16:=a16) h ac[n].id day
  have ho1:(qh4 pr ac jr ho bl day ac[n]).av = .agg [.int .i64 ac[n].id,.int .i64 (mx0 (qCE pr ac jr ho bl ac[n].id day)),.int .i64 0]:=rfl
  rw [hs]
  cases hb:qdC pr ac jr ho bl day n with
  | nil=>
   refine (brT (qds hn)).trans ((brT (qMT hn)).trans ?_)
   simp only [qCL hn,qaP hn h9]
   refine (biS va).trans ?_
   cases qx7 ac ac[n].id day
   ·exact (brT rfl).trans rfl
   ·refine (brF rfl).trans ((biS vb).trans ?_)
    have e:[(qh4 pr ac jr ho bl day ac[n]).av] = EAv ([] ++ [qh4 pr ac jr ho bl day ac[n]]):=rfl
    rw [ho1] at e
    unfold mx0 at e
    have fin:∀ z,z = EAv ([] ++ [qh4 pr ac jr ho bl day ac[n]]) -> some (Rd.next (Sum.inr (day,((n + 1:Nat):Int),EC cu,EK ca,EGl ch,a3,a4,a5,a6,a7,a8,a9,a10,a11,a12,a13,a14,a15,a16,EPr pr,EAc ac,EJr jr,EHo ho,EBl bl,0,lm,z))) = some (Rd.next (hdC cu ca ch a3 a4 a5 a6 a7 a8 a9 a10 a11 a12 a13 a14 a15 a16 pr ac jr ho bl day lm (n + 1) ([] ++ [qh4 pr ac jr ho bl day ac[n]]))):=by
     rintro _ rfl; rfl
    cases hv:(qCE pr ac jr ho bl ac[n].id day).2 != 0
    ·rw [hv] at e; exact (brF rfl).trans (fin _ e)
    ·rw [hv] at e; exact (brT rfl).trans (fin _ e)
  | cons x s=>
   rw [hb] at hq
   have hm:room ((EAv (x :: s)).length + 1) 24 = true:=qbO (by rw [List.length_map]; omega) (by decide)
   refine (brT (qds hn)).trans ((brT (qMT hn)).trans ?_)
   simp only [qCL hn,qaP hn h9]
   refine (biS va).trans ?_
   cases qx7 ac ac[n].id day
   ·exact (brT rfl).trans rfl
   ·refine (brF rfl).trans ((biS vb).trans ?_)
    have e:EAv (x :: s) ++ [(qh4 pr ac jr ho bl day ac[n]).av] = EAv ((x :: s) ++ [qh4 pr ac jr ho bl day ac[n]]):=qXI _ _
    rw [ho1] at e
    unfold mx0 at e
    have fin:∀ z,z = EAv ((x :: s) ++ [qh4 pr ac jr ho bl day ac[n]]) -> some (Rd.next (Sum.inr (day,((n + 1:Nat):Int),EC cu,EK ca,EGl ch,a3,a4,a5,a6,a7,a8,a9,a10,a11,a12,a13,a14,a15,a16,EPr pr,EAc ac,EJr jr,EHo ho,EBl bl,0,lm,z))) = some (Rd.next (hdC cu ca ch a3 a4 a5 a6 a7 a8 a9 a10 a11 a12 a13 a14 a15 a16 pr ac jr ho bl day lm (n + 1) ((x :: s) ++ [qh4 pr ac jr ho bl day ac[n]]))):=by
     rintro _ rfl; rfl
    cases hv:(qCE pr ac jr ho bl ac[n].id day).2 != 0
    ·rw [hv] at e; exact (brF rfl).trans ((brT hm).trans (fin _ e))
    ·rw [hv] at e; exact (brT rfl).trans ((brT hm).trans (fin _ e))
 ·cases qdC pr ac jr ho bl day ac.length with
  | nil=>exact (brF (qdr (Nat.lt_irrefl _))).trans rfl
  | cons x s=>exact (brF (qdr (Nat.lt_irrefl _))).trans rfl
end Go.Proofs.H53z
namespace Go.Proofs.H53z
open Go Go.Eng Go.Tk
set_option maxRecDepth 20000
theorem qwX (lm:Int) {l:List Avl} (hl:l.length <= 900):qmk lm (EAv l) [] lm (EAv l) [] = some true:=by
 have h0:qmP (0,lm,EAv l,[],lm,EAv l,[]) = some (1,((l.length:Int),lm,EAv l,[],lm,EAv l,[])):=by
  rw [qo8]
  refine qcx (st:=qj6) (σ:=Unit) (fun (n:Nat) _=>((n:Int),lm,EAv l,[],lm,EAv l,[])) (fun _=>()) l.length 1 (fun n hn=>?_) ?_
  ·refine (brT (qds hn)).trans ((brT (qVr hn)).trans ((brT (qVr hn)).trans ?_))
   simp only [qZM hn,q2P hn,q2Q hn,qaP hn (N:=l.length) (by omega)]
   exact (brF (by simp)).trans rfl
  ·exact (brF (qdr (Nat.lt_irrefl _))).trans rfl
 have h1:qmQ (0,lm,EAv l,[],lm,EAv l,[]) = some (1,(0,lm,EAv l,[],lm,EAv l,[])):=by
  rw [qo9]; exact qaQ rfl
 rw [qBz,qlb]
 have e1:(lm != lm || (((EAv l).length:Nat):Int) != (((EAv l).length:Nat):Int)) = false:=by simp
 refine (biS (qbw _ _)).trans ?_
 rw [e1]
 refine (biS (qbw _ _)).trans ((brF rfl).trans ?_)
 exact (biN (congrArg (pj 0) h0)).trans ((biS (congrArg (pj 1) h0)).trans ((biN (congrArg (pj 0) h1)).trans ((biS (congrArg (pj 1) h1)).trans rfl)))
theorem qBK {l:List Avl} (hl:l.length <= 900) (h1:∀ x ∈ l,1000 <= x.acc /\ 0 <= x.amt /\ 0 <= x.used) (h2:∀ (i j:Nat) (hi:i < l.length) (hj:j < l.length),i < j -> l[i].acc < l[j].acc):qsT (EAv l) = some 0:=by
 have h0:qpc (EAv l,EAv l,(((EAv l).length:Nat):Int),0) = some (2,(EAv l,EAv l,(((EAv l).length:Nat):Int),(l.length:Int))):=by
  rw [qte]
  refine qcx (st:=qqY) (σ:=Unit) (fun (n:Nat) _=>(EAv l,EAv l,(((EAv l).length:Nat):Int),(n:Int))) (fun _=>()) l.length 2 (fun n hn=>?_) ?_
  ·obtain ⟨g1,g2,g3⟩:=h1 _ (List.getElem_mem hn)
   refine (brT (qds hn)).trans ((brT (qVr hn)).trans ?_)
   simp only [qZM hn,q2P hn,q2Q hn,qaP hn (N:=l.length) (by omega)]
   refine (biS (qbw _ _)).trans ((biS (qbw _ _)).trans ((brF (by simp; omega)).trans ?_))
   by_cases hz:0 < n
   ·have hm:n - 1 < l.length:=by omega
    have hp:qaw q4b (EAv l) (IntKind.wrap .i64 ((n:Int) - 1)) = true:=qgm q59 hn hz (by omega)
    refine (brT (decide_eq_true (by omega))).trans ((brT hp).trans ((brF ?_).trans rfl))
    rw [qCD hn hz (by omega),qZM hm]
    exact decide_eq_false (by have:=h2 (n - 1) n hm hn (by omega); omega)
   ·exact (brF (decide_eq_false (by omega))).trans rfl
  ·exact (brF (qdr (Nat.lt_irrefl _))).trans rfl
 rw [qFt,qrT]
 exact (biN (congrArg (pj 0) h0)).trans ((biN (congrArg (pj 1) h0)).trans ((biS (congrArg (pj 2) h0)).trans rfl))
theorem qBL (lm:Int) (l:List AV):qsU lm l [] = some 0:=by
 have h0:qmS ([],0,0,lm,l,[]) = some (3,([],0,0,lm,l,[])):=by rw [qtf]; exact qaQ rfl
 rw [qFu,qrU]
 exact (biN (congrArg (pj 0) h0)).trans ((biN (congrArg (pj 1) h0)).trans ((biN (congrArg (pj 2) h0)).trans ((biS (congrArg (pj 3) h0)).trans rfl)))
theorem qBJ {lm:Int} (hlm:0 <= lm /\ lm <= 1000000000000) {l:List Avl} (hl:l.length <= 64) (h1:∀ x ∈ l,1000 <= x.acc /\ 0 <= x.amt /\ x.used = 0) (h2:∀ (i j:Nat) (hi:i < l.length) (hj:j < l.length),i < j -> l[i].acc < l[j].acc):qjx lm (EAv l) [] = some 0:=by
 have h0:qtb (EAv l,(((EAv l).length:Nat):Int),0,lm,EAv l,[]) = some (1,(EAv l,(((EAv l).length:Nat):Int),(l.length:Int),lm,EAv l,[])):=by
  rw [qtc]
  refine qcx (st:=qqX) (σ:=Unit) (fun (n:Nat) _=>(EAv l,(((EAv l).length:Nat):Int),(n:Int),lm,EAv l,[])) (fun _=>()) l.length 1 (fun n hn=>?_) ?_
  ·obtain ⟨g1,g2,g3⟩:=h1 _ (List.getElem_mem hn)
   have hk:∀ a b c:Int,qy0 (0,EAv l,(((EAv l).length:Nat):Int),(n:Int),[],0,0,lm,EAv l,[],a,b,c) = some (0,(0,EAv l,(((EAv l).length:Nat):Int),(n:Int),[],0,0,lm,EAv l,[],a,b,c)):=fun a b c=>by
    rw [qtd]; exact qaQ rfl
   refine (brT (qds hn)).trans ((brT (qVr hn)).trans ((biS (congrArg (pj 0) (hk _ _ _))).trans ?_))
   simp only [qZM hn,q2P hn,q2Q hn,qaP hn (N:=l.length) (by omega),g3]
   exact (biS (qbw _ _)).trans ((biS (qbw _ _)).trans ((brF (by simp; omega)).trans rfl))
  ·exact (brF (qdr (Nat.lt_irrefl _))).trans rfl
 rw [qFs,qrS]
 refine (biS (qbw _ _)).trans ((brF (by simp; omega)).trans ((biS (qbw _ _)).trans ((brF (by simp; omega)).trans ((biS (qBK (by omega) (fun x hx=>⟨(h1 x hx).1,(h1 x hx).2.1,by have:=(h1 x hx).2.2; omega⟩) h2)).trans ((brF rfl).trans ((biS (qBL lm _)).trans ((brF rfl).trans ?_)))))))
 exact (biN (congrArg (pj 0) h0)).trans ((biS (congrArg (pj 1) h0)).trans rfl)
theorem qXU {ac:List Acc} (h:Asc ac):∀ (j:Nat) (hj:j < ac.length) (i:Nat) (hi:i < ac.length),i < j -> ac[i].id < ac[j].id:=by
 intro j
 induction j with
 | zero=>intro hj i hi hij; omega
 | succ j ih=>
  intro hj i hi hij
  have h1:=(h (j + 1) hj).2 j (by omega) rfl
  by_cases e:i = j
  ·subst e; exact h1
  ·have:=ih (by omega) i hi (by omega); omega
theorem qNe {pr:List Pr} {ac:List Acc} {jr:List Enr} {ho:List Hol} {bl:List Blo} {day:Int} (h:Asc ac) (n:Nat):∀ (i j:Nat) (hi:i < (qdC pr ac jr ho bl day n).length) (hj:j < (qdC pr ac jr ho bl day n).length),i < j -> (qdC pr ac jr ho bl day n)[i].acc < (qdC pr ac jr ho bl day n)[j].acc:=by
 have h1:ac.Pairwise fun a b=>a.id < b.id:=List.pairwise_iff_getElem.2 fun i j hi hj hij=>qXU h j hj i hi hij
 have h2:(qdC pr ac jr ho bl day n).Pairwise fun a b=>a.acc < b.acc:=by
  unfold qdC
  rw [List.pairwise_map]
  exact ((h1.sublist (List.take_sublist n ac)).filter _)
 exact fun i j hi hj hij=>List.pairwise_iff_getElem.1 h2 i j hi hj hij
theorem qNd {pr:List Pr} {ac:List Acc} {jr:List Enr} {ho:List Hol} {bl:List Blo} {day:Int} (h:Asc ac) (n:Nat):∀ x ∈ qdC pr ac jr ho bl day n,1000 <= x.acc /\ 0 <= x.amt /\ x.used = 0:=by
 intro x hx
 obtain ⟨a,ha,rfl⟩:=List.mem_map.1 hx
 have hm:=List.mem_of_mem_take (List.mem_filter.1 ha).1
 obtain ⟨i,hi,rfl⟩:=List.mem_iff_getElem.1 hm
 exact ⟨(h i hi).1,qSh _,rfl⟩
structure BkF (ca:List Cal) (pr:List Pr) (jr:List Enr) (ho:List Hol):Prop where
 lp:∀ p ∈ pr,PrB p
 lc:∀ c ∈ ca,∃ ws hs:List Int,c.wk = EIn ws /\ c.hol = EIn hs /\ ws.length <= 9223372036854775807 /\ hs.length <= 9223372036854775807
 lj:∀ x ∈ jr,x.key.length <= 9223372036854775807 /\ x.text.length <= 9223372036854775807
 lh:∀ h ∈ ho,h.key.length <= 9223372036854775807
theorem qyw {cu:List Cu} {ca:List Cal} {ch:List Gl} {a3 a4 a5 a6 a7 a8 a9 a10 a11 a12 a13 a14 a15 a16:Int} {pr:List Pr} {ac:List Acc} {jr:List Enr} {ho:List Hol} {bl:List Blo} (hB:BkF ca pr jr ho):∃ y0,qg8 (EC cu) (EK ca) (EGl ch) a3 a4 a5 a6 a7 a8 a9 a10 a11 a12 a13 a14 a15 a16 (EPr pr) (EAc ac) (EJr jr) (EHo ho) (EBl bl) = some y0 /\ ∃ y1,br (!y0) (some true) (br (sm (qd9 (EC cu) (EK ca) (EGl ch) a3 a4 a5 a6 a7 a8 a9 a10 a11 a12 a13 a14 a15 a16 (EPr pr) (EAc ac) (EJr jr) (EHo ho) (EBl bl))) (some !gv (qd9 (EC cu) (EK ca) (EGl ch) a3 a4 a5 a6 a7 a8 a9 a10 a11 a12 a13 a14 a15 a16 (EPr pr) (EAc ac) (EJr jr) (EHo ho) (EBl bl))) none) = some y1 /\ (y1 = false -> LawB pr ac jr ho bl /\ Asc ac):=by
 obtain ⟨y0,h0,hq⟩:=qOg (cu:=cu) (ca:=ca) (ch:=ch) (a3:=a3) (a4:=a4) (a5:=a5) (a6:=a6) (a7:=a7) (a8:=a8) (a9:=a9) (a10:=a10) (a11:=a11) (a12:=a12) (a13:=a13) (a14:=a14) (a15:=a15) (a16:=a16) (pr:=pr) (ac:=ac) (jr:=jr) (ho:=ho) (bl:=bl)
 refine ⟨y0,h0,?_⟩
 cases y0 with
 | false=>exact ⟨true,rfl,fun h=>by cases h⟩
 | true=>
  obtain ⟨s1,s2,s3⟩:=hq rfl
  have hb:BkB cu ca ch pr ac jr ho bl:=⟨hB.lp,hB.lc,fun x hx=>⟨(hB.lj x hx).1,(hB.lj x hx).2,by have:=s3 x hx; omega⟩,hB.lh⟩
  obtain ⟨v,hv,hs⟩:=qsu (a3:=a3) (a4:=a4) (a5:=a5) (a6:=a6) (a7:=a7) (a8:=a8) (a9:=a9) (a10:=a10) (a11:=a11) (a12:=a12) (a13:=a13) (a14:=a14) (a15:=a15) (a16:=a16) hb
  refine ⟨!v,by rw [hv]; rfl,fun h=>?_⟩
  obtain ⟨ha,z1,z2,z3,z4,z5,z6,z7,z8⟩:=hs (by simpa using h)
  exact ⟨⟨by omega,by omega,by omega,fun x hx=>by have:=s3 x hx; omega,by omega,by omega⟩,ha⟩
theorem qFE {cu:List Cu} {ca:List Cal} {ch:List Gl} {a3 a4 a5 a6 a7 a8 a9 a10 a11 a12 a13 a14 a15 a16:Int} {pr:List Pr} {ac:List Acc} {jr:List Enr} {ho:List Hol} {bl:List Blo} (hB:BkF ca pr jr ho) (day lm:Int):qNw (EC cu) (EK ca) (EGl ch) a3 a4 a5 a6 a7 a8 a9 a10 a11 a12 a13 a14 a15 a16 (EPr pr) (EAc ac) (EJr jr) (EHo ho) (EBl bl) day lm = some true:=by
 rw [qNx,qz1]
 obtain ⟨y0,h0,y1,h1,hq⟩:=qyw (cu:=cu) (ch:=ch) (a3:=a3) (a4:=a4) (a5:=a5) (a6:=a6) (a7:=a7) (a8:=a8) (a9:=a9) (a10:=a10) (a11:=a11) (a12:=a12) (a13:=a13) (a14:=a14) (a15:=a15) (a16:=a16) (ac:=ac) (bl:=bl) hB
 refine (biS h0).trans ((biS h1).trans ?_)
 cases y1 with
 | true=>exact (brT rfl).trans rfl
 | false=>
  obtain ⟨hl,ha⟩:=hq rfl
  have hn:(qdC pr ac jr ho bl day ac.length).length <= 12:=Nat.le_trans (qqd _ _ _ _ _ _ _) hl.la
  refine (brF rfl).trans ((biS (qoF hl day lm)).trans ((biS (qwS hl day lm)).trans ((biS (qwX lm (by omega))).trans ((brF rfl).trans ((biS (qbw _ _)).trans ?_)))))
  cases hc:(decide (lm < 0) || decide (lm > 1000000000000)) with
  | true=>exact (biS rfl).trans ((biS rfl).trans rfl)
  | false=>
   simp only [Bool.or_eq_false_iff,decide_eq_false_iff_not] at hc
   have hk:=qBJ (lm:=lm) ⟨by omega,by omega⟩ (l:=qdC pr ac jr ho bl day ac.length) (by omega) (qNd ha _) (qNe ha _)
   refine (biS (v:=true) ?_).trans ((biS rfl).trans rfl)
   show br false (some true) (br (sm (qjx lm (EAv (qdC pr ac jr ho bl day ac.length)) [])) (some (gv (qjx lm (EAv (qdC pr ac jr ho bl day ac.length)) []) == 0)) none) = some true
   rw [hk]; rfl
theorem qAi {pr:List Pr} {ac:List Acc} {jr:List Enr} {ho:List Hol} {bl:List Blo} {day:Int} {n:Nat} (hn:n < ac.length) (ha:qx7 ac ac[n].id day = true) :
  ∃ r,qdC pr ac jr ho bl day ac.length = qdC pr ac jr ho bl day n ++ qh4 pr ac jr ho bl day ac[n] :: r:=by
 refine ⟨((ac.drop (n + 1)).filter fun a=>qx7 ac a.id day).map (qh4 pr ac jr ho bl day),?_⟩
 have e:ac = ac.take n ++ ac[n] :: ac.drop (n + 1):=by rw [List.getElem_cons_drop hn,List.take_append_drop]
 unfold qdC
 rw [List.take_length]
 conv=>lhs; arg 2; arg 2; rw [e]
 rw [List.filter_append,List.map_append,List.filter_cons,if_pos ha,List.map_cons]
set_option maxHeartbeats 4000000 in
theorem qAG {cu:List Cu} {ca:List Cal} {ch:List Gl} {a3 a4 a5 a6 a7 a8 a9 a10 a11 a12 a13 a14 a15 a16:Int} {pr:List Pr} {ac:List Acc} {jr:List Enr} {ho:List Hol} {bl:List Blo} (hB:BkF ca pr jr ho) (day lm:Int):qyl (EC cu) (EK ca) (EGl ch) a3 a4 a5 a6 a7 a8 a9 a10 a11 a12 a13 a14 a15 a16 (EPr pr) (EAc ac) (EJr jr) (EHo ho) (EBl bl) day lm = some true:=by
 rw [qFi,qrE]
 obtain ⟨y0,h0,y1,h1,hq⟩:=qyw (cu:=cu) (ch:=ch) (a3:=a3) (a4:=a4) (a5:=a5) (a6:=a6) (a7:=a7) (a8:=a8) (a9:=a9) (a10:=a10) (a11:=a11) (a12:=a12) (a13:=a13) (a14:=a14) (a15:=a15) (a16:=a16) (ac:=ac) (bl:=bl) hB
 refine (biS h0).trans ((biS h1).trans ?_)
 cases y1 with
 | true=>exact (brT rfl).trans rfl
 | false=>
  obtain ⟨hl,_⟩:=hq rfl
  have h12:=hl.la
  have h9:ac.length <= 9223372036854775807:=by omega
  have hk:qGX (day,0,0,EC cu,EK ca,EGl ch,a3,a4,a5,a6,a7,a8,a9,a10,a11,a12,a13,a14,a15,a16,EPr pr,EAc ac,EJr jr,EHo ho,EBl bl,lm,EAv (qdC pr ac jr ho bl day ac.length),[]) = some (1,(day,(((qdC pr ac jr ho bl day ac.length).length:Nat):Int),(ac.length:Int),EC cu,EK ca,EGl ch,a3,a4,a5,a6,a7,a8,a9,a10,a11,a12,a13,a14,a15,a16,EPr pr,EAc ac,EJr jr,EHo ho,EBl bl,lm,EAv (qdC pr ac jr ho bl day ac.length),[])):=by
   rw [qza]
   refine qcx (st:=qzX) (σ:=Nat) (fun (n:Nat) (k:Nat)=>(day,(k:Int),(n:Int),EC cu,EK ca,EGl ch,a3,a4,a5,a6,a7,a8,a9,a10,a11,a12,a13,a14,a15,a16,EPr pr,EAc ac,EJr jr,EHo ho,EBl bl,lm,EAv (qdC pr ac jr ho bl day ac.length),[])) (fun n=>(qdC pr ac jr ho bl day n).length) ac.length 1 (fun n hn=>?_) ?_
   ·have hs:=congrArg List.length (qEN (pr:=pr) (jr:=jr) (ho:=ho) (bl:=bl) (day:=day) hn)
    have va:=qg7 (cu:=cu) (ca:=ca) (ch:=ch) (a3:=a3) (a4:=a4) (a5:=a5) (a6:=a6) (a7:=a7) (a8:=a8) (a9:=a9) (a10:=a10) (a11:=a11) (a12:=a12) (a13:=a13) (a14:=a14) (a15:=a15) (a16:=a16) (pr:=pr) (jr:=jr) (ho:=ho) (bl:=bl) (Nat.le_trans hl.la (by decide):ac.length <= big) ac[n].id day
    refine (brT (qds hn)).trans ((brT (qMT hn)).trans ?_)
    simp only [qCL hn,qaP hn h9]
    refine (biS va).trans ?_
    cases hact:qx7 ac ac[n].id day
    ·rw [hact] at hs
     simp only [cond_false] at hs
     rw [hs]
     exact (brF rfl).trans rfl
    ·rw [hact] at hs
     simp only [cond_true,List.length_append,List.length_cons,List.length_nil] at hs
     obtain ⟨r,hr⟩:=qAi (pr:=pr) (jr:=jr) (ho:=ho) (bl:=bl) (day:=day) hn hact
     have hlt:(qdC pr ac jr ho bl day n).length < (qdC pr ac jr ho bl day ac.length).length:=by rw [hr,List.length_append,List.length_cons]; omega
     have hel:(qdC pr ac jr ho bl day ac.length)[(qdC pr ac jr ho bl day n).length] = qh4 pr ac jr ho bl day ac[n]:=by
      have:(qdC pr ac jr ho bl day ac.length)[(qdC pr ac jr ho bl day n).length]? = some (qh4 pr ac jr ho bl day ac[n]):=by rw [hr]; simp
      rw [List.getElem?_eq_getElem hlt] at this
      exact Option.some.inj this
     rw [hs]
     have hkb:=qqd pr ac jr ho bl day ac.length
     refine (brT rfl).trans ((brF (by rw [List.length_map]; exact decide_eq_false (by omega))).trans ((brT (qVr hlt)).trans ((brT (qMT hn)).trans ?_)))
     simp only [qZM hlt,q2P hlt,q2Q hlt,hel,qh4]
     refine (brF (by simp)).trans ((brT (qVr hlt)).trans ((brF rfl).trans ((brT (qVr hlt)).trans ((brF (decide_eq_false (by have:=qSh (qCE pr ac jr ho bl ac[n].id day); omega))).trans ?_))))
     simp only [qaP hlt (by omega)]
     rfl
   ·exact (brF (qdr (Nat.lt_irrefl _))).trans rfl
  refine (brF rfl).trans ((biS (qoF hl day lm)).trans ((biN (congrArg (pj 0) hk)).trans ((biS (congrArg (pj 1) hk)).trans ?_)))
  refine (biS (v:=true) ?_).trans ((biS rfl).trans rfl)
  show br ((((qdC pr ac jr ho bl day ac.length).length:Nat):Int) == (((EAv (qdC pr ac jr ho bl day ac.length)).length:Nat):Int)) (some (((([]:List AV).length:Nat):Int) == 0)) (some false) = some true
  rw [List.length_map]
  simp
end Go.Proofs.H53z

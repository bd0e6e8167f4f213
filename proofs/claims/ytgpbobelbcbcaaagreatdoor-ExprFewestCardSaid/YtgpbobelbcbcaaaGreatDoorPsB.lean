/- Expressions as tokens: what is printed is read back; no parentheses can be left out. -/
import Derived.Test.YtgpbobelbcbcaaaGreatDoorPsA
set_option linter.unusedVariables false
set_option linter.unusedSimpArgs false
set_option linter.unnecessarySimpa false
namespace Go.Tk
open Go Go.Eng
set_option linter.unusedSimpArgs false
set_option linter.unusedVariables false
def qaL (op:Int):Nat:=if op = 19 then 0 else if op = 15 then 1 else if op = 14 then 2 else if op = 16 then 3 else if op = 10 \/ op = 11 \/ op = 12 \/ op = 13 then 4 else if op = 5 \/ op = 6 then 5 else if op = 7 \/ op = 8 then 6 else if op = 9 then 7 else 8
def mkT (k:Int) (s:Bs):Tok:=⟨k,1,s⟩
def wT (s:Bs):Tok:=mkT (qgB s) s
def qc9 (op:Int):Bs:=if op = 5 then [43] else if op = 6 then [45] else if op = 7 then [42] else if op = 8 then [47] else if op = 10 then [61,61] else if op = 11 then [33,61] else if op = 12 then [60] else if op = 13 then [60,61] else if op = 14 then [97,110,100] else [111,114]
def qnk (op n:Int) (s:Bs):List Tok:=if op = 1 then [mkT 2 (Lib.itoa n)] else if op = 2 then [wT [36],mkT 2 (Lib.itoa n)] else if op = 3 then [mkT 3 (qrw n.toNat)] else [mkT 1 s]
def qBz (r:Nat) (op:Int) (l:List Tok):List Tok:=if qaL op < r then wT [40] :: (l ++ [wT [41]]) else l
def qcQ (op:Int):Nat:=if qaL op = 4 then 5 else qaL op
def wrB:Ex -> List Tok
 | .mk o n s []=>qnk o n s
 | .mk o n s [a]=>wT (if o = 16 then [110,111,116] else [45]) :: qBz (qaL o) a.op (wrB a)
 | .mk o n s [a,b]=>if o = 17 \/ o = 18 then wT (if o = 17 then [109,105,110] else [109,97,120]) :: wT [40] :: (wrB a ++ wT [44] :: (wrB b ++ [wT [41]]))
   else qBz (qcQ o) a.op (wrB a) ++ wT (qc9 o) :: qBz (qaL o + 1) b.op (wrB b)
 | .mk o n s (a :: b :: c :: _)=>wT [105,102] :: (wrB a ++ wT [116,104,101,110] :: (wrB b ++ wT [101,108,115,101] :: wrB c))
def par (r:Nat) (e:Ex):List Tok:=qBz r e.op (wrB e)
theorem qdR {r:Nat} {e:Ex} (h:r <= qaL e.op):par r e = wrB e:=by unfold par qBz; rw [if_neg (by omega)]
theorem qnS {r:Nat} {e:Ex} (h:qaL e.op < r):par r e = wT [40] :: (wrB e ++ [wT [41]]):=by unfold par qBz; rw [if_pos h]
theorem qcz (e:Ex):par 0 e = wrB e:=qdR (Nat.zero_le _)
theorem qdp {e:Ex} (h:qaK e = true):qaE e.op = (e.args.length:Int) /\ 0 <= e.num /\ e.num <= qdO e.op /\ (e.txt = [] \/ e.op = 4):=by
 simp only [qaK,Bool.and_eq_true,beq_iff_eq,decide_eq_true_eq,Bool.or_eq_true,ge_iff_le] at h
 exact h
theorem qk7 {e:Ex} (h:qaE e.op = (e.args.length:Int)) (h2:e.args.length = 2):5 <= e.op /\ e.op <= 18 /\ e.op ≠ 9 /\ e.op ≠ 16:=by
 rw [h2] at h
 unfold qaE at h
 split at h
 ·cases h
 ·split at h
  ·cases h
  ·split at h
   ·cases h
   ·split at h
    ·omega
    ·cases h
def lvR:Nat -> Nat
 | 0=>1 | 1=>2 | 2=>4 | 3=>5 | _=>6
def stopL (r:Nat) (l:List Tok):Prop:=∀ k,k <= 4 -> r <= lvR k -> opAt k l = 0
theorem stopL.up {r r':Nat} {l:List Tok} (h:stopL r l) (hr:r <= r'):stopL r' l:=fun k hk hl=>h k hk (by omega)
theorem qbc (s:Bs) (t:Tok) (l:List Tok):isW s (t :: l) = isW s [t]:=rfl
theorem quw (k:Nat) (t:Tok) (l:List Tok):opAt k (t :: l) = opAt k [t]:=rfl
theorem qkD {r:Nat} {t:Tok} {l:List Tok} (h:stopL r [t]):stopL r (t :: l):=fun k hk hl=>by rw [quw]; exact h k hk hl
def lvO (op:Int):Nat:=if op = 15 then 0 else if op = 14 then 1 else if op = 5 \/ op = 6 then 3 else if op = 7 \/ op = 8 then 4 else 2
theorem qjd {op:Int} (h1:5 <= op) (h2:op <= 15) (h9:op ≠ 9):op = 5 \/ op = 6 \/ op = 7 \/ op = 8 \/ op = 10 \/ op = 11 \/ op = 12 \/ op = 13 \/ op = 14 \/ op = 15:=by omega
theorem qxl {op:Int} (h1:5 <= op) (h2:op <= 15) (h9:op ≠ 9) (l:List Tok):opAt (lvO op) (wT (qc9 op) :: l) = op /\ lvR (lvO op) = qaL op /\ lvO op <= 4 /\ stopL (qaL op + 1) (wT (qc9 op) :: l):=by
 rcases qjd h1 h2 h9 with rfl | rfl | rfl | rfl | rfl | rfl | rfl | rfl | rfl | rfl
 all_goals
  refine ⟨by rw [quw]; decide +kernel,by decide,by decide,qkD fun k hk hl=>?_⟩
  match k,hk with
  | 0,_=>first | (exfalso; revert hl; decide) | decide +kernel
  | 1,_=>first | (exfalso; revert hl; decide) | decide +kernel
  | 2,_=>first | (exfalso; revert hl; decide) | decide +kernel
  | 3,_=>first | (exfalso; revert hl; decide) | decide +kernel
  | 4,_=>first | (exfalso; revert hl; decide) | decide +kernel
theorem qGG (k:Nat) (t:Tok):opAt k [t] = match (lvS k).find? (fun x=>t.text == x.1 && t.kind == qgB x.1) with
 | some x=>x.2
 | none=>0:=rfl
theorem qBK {t:Tok} (h:∀ k,k <= 4 -> ∀ x ∈ lvS k,x.1 ≠ t.text) (r:Nat):stopL r [t]:=by
 intro k hk _
 rw [qGG]
 have:(lvS k).find? (fun x=>t.text == x.1 && t.kind == qgB x.1) = none:=by
  rw [List.find?_eq_none]
  intro x hx
  have:=h k hk x hx
  simp only [Bool.and_eq_true,beq_iff_eq,not_and]
  intro he; exact absurd he.symm this
 rw [this]
def q1j (s:Bs):Bool:=(lvS 0 ++ lvS 1 ++ lvS 2 ++ lvS 3 ++ lvS 4).all fun x=>x.1 != s
theorem qjx {t:Tok} (h:q1j t.text = true) (r:Nat) (l:List Tok):stopL r (t :: l):=by
 refine qkD (qBK (fun k hk x hx he=>?_) r)
 unfold q1j at h
 rw [List.all_eq_true] at h
 have hm:x ∈ lvS 0 ++ lvS 1 ++ lvS 2 ++ lvS 3 ++ lvS 4:=by
  match k,hk with
  | 0,_=>simp [hx]
  | 1,_=>simp [hx]
  | 2,_=>simp [hx]
  | 3,_=>simp [hx]
  | 4,_=>simp [hx]
 have:=h x hm
 simp [he] at this
def mdR:Nat -> Md
 | 0=>.ex | 1=>.bin 0 | 2=>.bin 1 | 3=>.bin 2 | 4=>.cmp | 5=>.bin 3 | 6=>.bin 4 | 7=>.neg | _=>.prim
theorem qgh {s:Bs} {t:Tok} {l:List Tok} (h:isW s (t :: l) = true):t.text = s /\ t.kind = qgB s:=by
 simp only [isW,Bool.and_eq_true,beq_iff_eq] at h; exact h
theorem qlV (s:Bs):qgB s = 4 \/ qgB s = 5:=by unfold qgB; cases qeK s <;> simp
theorem qrz {l:List Tok} {s:Bs} (h:isW s l = true) (h1:s ≠ [36]) (h2:s ≠ [109,105,110]) (h3:s ≠ [109,97,120]) (h4:s ≠ [40]):Ev .prim l (.bad l):=by
 obtain ⟨t,l',rfl⟩:=qbr h
 obtain ⟨ht,hk⟩:=qgh h
 have hne:∀ s',s ≠ s' -> isW s' (t :: l') = false:=by
  intro s' hs
  simp only [isW,ht]
  have:(s == s') = false:=by simpa using hs
  rw [this]; rfl
 have hl:qgj (t :: l') = .bad (t :: l'):=by
  have e1:(t.kind == 1) = false:=by rw [hk]; rcases qlV s with h | h <;> rw [h] <;> rfl
  have e2:(t.kind == 2) = false:=by rw [hk]; rcases qlV s with h | h <;> rw [h] <;> rfl
  have e3:(t.kind == 3) = false:=by rw [hk]; rcases qlV s with h | h <;> rw [h] <;> rfl
  simp only [qgj,qdP,e1,e2,e3,cond_false]
 have:=qwm (hne _ h1) (hne _ h2) (hne _ h3) (hne _ h4)
 rw [hl] at this
 exact this
theorem qth {l:List Tok} (h45:isW [45] l = false) (hp:Ev .prim l (.bad l)):Ev .neg l (.bad l) /\ Ev (.bin 4) l (.bad l) /\ Ev (.bin 3) l (.bad l) /\ Ev .cmp l (.bad l):=by
 have a:=qwn h45 hp
 have b:=qgS (k:=4) rfl rfl (qqW a) rfl
 have c:=qgS (k:=3) rfl rfl b rfl
 exact ⟨a,b,c,qtn c rfl⟩
theorem qJd {s s':Bs} {l:List Tok} (h:isW s l = true) (hs:s ≠ s'):isW s' l = false:=by
 obtain ⟨t,l',rfl⟩:=qbr h
 obtain ⟨ht,_⟩:=qgh h
 simp only [isW,ht]
 have:(s == s') = false:=by simpa using hs
 rw [this]; rfl
theorem qGq {l r:List Tok} {e:Ex} (h:Ev .prim l (.ok e r)):isW [45] l = false:=by
 cases hq:isW [45] l
 ·rfl
 ·have:=h.fn (qrz hq (by decide) (by decide) (by decide) (by decide)); cases this
theorem qGA {l r:List Tok} {e:Ex} (h:Ev .cmp l (.ok e r)):isW [110,111,116] l = false:=by
 cases hq:isW [110,111,116] l
 ·rfl
 ·have:=h.fn (qth (qJd hq (by decide)) (qrz hq (by decide) (by decide) (by decide) (by decide))).2.2.2; cases this
theorem qKE {l r:List Tok} {e:Ex} (h:Ev (.bin 0) l (.ok e r)):isW [105,102] l = false:=by
 cases hq:isW [105,102] l
 ·rfl
 ·have hc:=(qth (qJd hq (by decide)) (qrz hq (by decide) (by decide) (by decide) (by decide))).2.2.2
  have b2:=qwk (qJd hq (by decide)) hc
  have b1:=qgS (k:=1) rfl rfl b2 rfl
  have b0:=qgS (k:=0) rfl rfl b1 rfl
  have:=h.fn b0; cases this
theorem qVm:∀ (r:Nat),r < 8 -> ∀ {l rest:List Tok} {e:Ex},stopL r rest -> Ev (mdR (r + 1)) l (.ok e rest) -> Ev (mdR r) l (.ok e rest)
 | 0,_,l,rest,e,hs,h=>qto (qKE h) h
 | 1,_,l,rest,e,hs,h=>qgS (k:=0) rfl rfl h (qkL (hs 0 (by decide) (by decide)))
 | 2,_,l,rest,e,hs,h=>qgS (k:=1) rfl rfl h (qkL (hs 1 (by decide) (by decide)))
 | 3,_,l,rest,e,hs,h=>qwk (qGA h) h
 | 4,_,l,rest,e,hs,h=>qtn h (qkL (hs 2 (by decide) (by decide)))
 | 5,_,l,rest,e,hs,h=>qgS (k:=3) rfl rfl h (qkL (hs 3 (by decide) (by decide)))
 | 6,_,l,rest,e,hs,h=>qgS (k:=4) rfl rfl (qqW h) (qkL (hs 4 (by decide) (by decide)))
 | 7,_,l,rest,e,hs,h=>qwn (qGq h) h
theorem qRU {l rest:List Tok} {e:Ex}:∀ (d r:Nat),r + d <= 8 -> stopL r rest -> Ev (mdR (r + d)) l (.ok e rest) -> Ev (mdR r) l (.ok e rest)
 | 0,r,_,_,h=>h
 | d + 1,r,hr,hs,h=>qRU d r (by omega) hs (qVm (r + d) (by omega) (hs.up (by omega)) h)
theorem qrE (op:Int):qaL op <= 8:=by unfold qaL; (repeat' split) <;> omega
theorem qD0 {e:Ex} (h0:∀ rest,stopL 0 rest -> Ev .ex (wrB e ++ rest) (.ok e rest)) (rest:List Tok):Ev .prim (wT [40] :: (wrB e ++ [wT [41]]) ++ rest) (.ok e rest):=by
 have h:=h0 (wT [41] :: rest) (qjx (by decide) _ _)
 refine qxV (l:=wT [40] :: (wrB e ++ [wT [41]]) ++ rest) (by rw [List.cons_append,qbc]; decide) (by rw [List.cons_append,qbc]; decide) (by rw [List.cons_append,qbc]; decide) (by rw [List.cons_append,qbc]; decide) (x:=.ok e (wT [41] :: rest)) ?_ (.inl ⟨by rw [qbc]; decide,rfl⟩)
 have:(wT [40] :: (wrB e ++ [wT [41]]) ++ rest).tail = wrB e ++ wT [41] :: rest:=by simp
 rw [this]; exact h
theorem qqY {e:Ex} (hb:∀ rest,stopL (qaL e.op) rest -> Ev (mdR (qaL e.op)) (wrB e ++ rest) (.ok e rest)):∀ r,r <= 8 -> ∀ rest,stopL r rest -> Ev (mdR r) (par r e ++ rest) (.ok e rest):=by
 intro r hr rest hs
 have hlow:∀ r,r <= qaL e.op -> ∀ rest,stopL r rest -> Ev (mdR r) (wrB e ++ rest) (.ok e rest):=by
  intro r hr rest hs
  obtain ⟨d,hd⟩:∃ d,qaL e.op = r + d:=⟨qaL e.op - r,by omega⟩
  refine qRU d r (by have:=qrE e.op; omega) hs ?_
  rw [<- hd]; exact hb rest (hs.up hr)
 rcases Nat.lt_or_ge (qaL e.op) r with h | h
 ·rw [qnS h]
  have hp:=qD0 (e:=e) (fun rest hs=>hlow 0 (Nat.zero_le _) rest hs) rest
  obtain ⟨d,hd⟩:∃ d,8 = r + d:=⟨8 - r,by omega⟩
  refine qRU d r (by omega) hs ?_
  rw [<- hd]; exact hp
 ·rw [qdR h]; exact hlow r h rest hs
theorem qi1 {n:Int} (h:0 <= n):Lib.itoa n = Lib.decDigits n.toNat:=by unfold Lib.itoa; rw [if_neg (by omega)]
theorem qns {n:Int} (h:0 <= n) (h2:n <= 9223372036854775807):qk4 (Lib.itoa n) = some n:=by
 rw [qi1 h]
 obtain ⟨i1,i2,_⟩:=qhy n.toNat n.toNat (Nat.le_refl _)
 unfold qk4
 rw [qiY i1,i1,i2,decide_eq_false (by omega)]
 simp only [Bool.true_and,Bool.not_false,cond_true,Option.some.injEq]
 omega
def CpS (e:Ex):Prop:=∀ k,k <= 4 -> k ≠ 2 -> ∀ rest y,stopL (lvR k + 1) rest -> Ev (.lp k e) rest y -> Ev (.bin k) (par (lvR k) e ++ rest) y
def BkS (e:Ex):Prop:=∀ rest,stopL (qaL e.op) rest -> Ev (mdR (qaL e.op)) (wrB e ++ rest) (.ok e rest)
theorem qGg {k:Nat} (hk:k <= 4) (h2:k ≠ 2):∀ {l rest:List Tok} {e:Ex},Ev (mdR (lvR k + 1)) l (.ok e rest) -> Ev (.bin (k + 1)) l (.ok e rest):=by
 intro l rest e h
 match k,hk,h2 with
 | 0,_,_=>exact h
 | 1,_,_=>exact h
 | 3,_,_=>exact h
 | 4,_,_=>exact qqW h
theorem qy5 {k:Nat} (hk:k <= 4):lvR k + 1 <= 8:=by
 match k,hk with
 | 0,_=>decide
 | 1,_=>decide
 | 2,_=>decide
 | 3,_=>decide
 | 4,_=>decide
theorem qZt {k:Nat} (hk:k <= 4) (h2:k ≠ 2):mdR (lvR k) = .bin k:=by
 match k,hk,h2 with
 | 0,_,_=>rfl
 | 1,_,_=>rfl
 | 3,_,_=>rfl
 | 4,_,_=>rfl
theorem qZj {k n:Nat} (h:k ≠ n):(k == n) = false:=by simpa using h
theorem qcr {e:Ex} (h:e.args = []):wrB e = qnk e.op e.num e.txt:=by
 obtain ⟨o,n,s,l⟩:=e
 simp only [Ex.args] at h; subst h
 rw [wrB]; rfl
theorem qhu {e a:Ex} (h:e.args = [a]):wrB e = wT (if e.op = 16 then [110,111,116] else [45]) :: par (qaL e.op) a:=by
 obtain ⟨o,n,s,l⟩:=e
 simp only [Ex.args] at h; subst h
 rw [wrB]; rfl
theorem qkZ {e a b:Ex} (h:e.args = [a,b]) (h7:e.op ≠ 17) (h8:e.op ≠ 18):wrB e = par (qcQ e.op) a ++ wT (qc9 e.op) :: par (qaL e.op + 1) b:=by
 obtain ⟨o,n,s,l⟩:=e
 simp only [Ex.args] at h; subst h
 simp only [Ex.op] at h7 h8
 rw [wrB,if_neg (by omega)]; rfl
theorem qff {e a b:Ex} (h:e.args = [a,b]) (h7:e.op = 17 \/ e.op = 18):wrB e = wT (if e.op = 17 then [109,105,110] else [109,97,120]) :: wT [40] :: (wrB a ++ wT [44] :: (wrB b ++ [wT [41]])):=by
 obtain ⟨o,n,s,l⟩:=e
 simp only [Ex.args] at h; subst h
 simp only [Ex.op] at h7
 rw [wrB,if_pos h7]; rfl
theorem qxI {e a b c:Ex} {m:List Ex} (h:e.args = a :: b :: c :: m):wrB e = wT [105,102] :: (wrB a ++ wT [116,104,101,110] :: (wrB b ++ wT [101,108,115,101] :: wrB c)):=by
 obtain ⟨o,n,s,l⟩:=e
 simp only [Ex.args] at h; subst h
 rw [wrB]
theorem qzY {e:Ex} (hb:BkS e) (hc:∀ k,k <= 4 -> k ≠ 2 -> lvR k = qaL e.op -> ∀ rest y,stopL (lvR k + 1) rest -> Ev (.lp k e) rest y -> Ev (.bin k) (wrB e ++ rest) y):CpS e:=by
 intro k hk h2 rest y hs hl
 have key:par (lvR k) e = par (lvR k + 1) e -> Ev (.bin k) (par (lvR k) e ++ rest) y:=by
  intro he
  rw [he]
  refine qgS (qZj (by omega)) (qZj h2) (x:=.ok e rest) (qGg hk h2 (qqY hb _ (qy5 hk) rest hs)) hl
 rcases Nat.lt_trichotomy (qaL e.op) (lvR k) with h | h | h
 ·exact key (by rw [qnS h,qnS (by omega)])
 ·rw [qdR (by omega)]
  exact hc k hk h2 h.symm rest y hs hl
 ·exact key (by rw [qdR (by omega),qdR (by omega)])
theorem qGj {op:Int} (h:op ≠ 1) (h2:op ≠ 2) (h3:op ≠ 3):qdO op = 0:=by unfold qdO; rw [if_neg h,if_neg h2,if_neg h3]
theorem qqX {t:Tok} (hk:t.kind = 1 \/ t.kind = 2 \/ t.kind = 3) (rest:List Tok):Ev .prim (t :: rest) (qgj (t :: rest)):=by
 have hne:∀ s,isW s (t :: rest) = false:=by
  intro s
  simp only [isW]
  have:(t.kind == qgB s) = false:=by
   rw [beq_eq_false_iff_ne]
   rcases qlV s with h | h <;> rw [h] <;> omega
  rw [this,Bool.and_false]
 exact qwm (hne _) (hne _) (hne _) (hne _)
theorem qWq:∀ e:Ex,e.allX qaK = true -> BkS e /\ CpS e:=by
 intro e
 induction e using Ex.ind with
 | h o n s l ih=>
  intro hf
  rw [Ex.allX_eq,Bool.and_eq_true,List.all_eq_true] at hf
  obtain ⟨hfm,hfa⟩:=hf
  obtain ⟨hop,hn0,hn1,htx⟩:=qdp hfm
  simp only [Ex.op,Ex.args,Ex.num,Ex.txt] at hop hn0 hn1 htx hfa
  have iha:∀ x ∈ l,BkS x /\ CpS x:=fun x hx=>ih x hx (hfa x hx)
  have hpl:∀ x ∈ l,∀ r,r <= 8 -> ∀ rest,stopL r rest -> Ev (mdR r) (par r x ++ rest) (.ok x rest):=fun x hx=>qqY (iha x hx).1
  have hp0:∀ x ∈ l,∀ rest,stopL 0 rest -> Ev .ex (wrB x ++ rest) (.ok x rest):=fun x hx rest hs=>by
   have:=hpl x hx 0 (by omega) rest hs
   rw [qcz] at this; exact this
  match l,hop,hpl,hp0,iha with
  | [],hop,_,_,_=>
   have hb:BkS (.mk o n s []):=by
    intro rest hs
    rw [qcr rfl]
    simp only [Ex.op,Ex.num,Ex.txt]
    have hcase:o = 1 \/ o = 2 \/ o = 3 \/ o = 4:=by
     unfold qaE at hop
     split at hop
     ·assumption
     ·split at hop
      ·cases hop
      ·split at hop
       ·cases hop
       ·split at hop <;> cases hop
    rcases hcase with rfl | rfl | rfl | rfl
    ·have ht:s = []:=htx.resolve_right (by decide)
     subst ht
     have hnm:qk4 (Lib.itoa n) = some n:=qns hn0 hn1
     have:=qqX (t:=mkT 2 (Lib.itoa n)) (.inr (.inl rfl)) rest
     have hl:qgj (mkT 2 (Lib.itoa n) :: rest) = .ok (.mk 1 n [] []) rest:=by
      simp only [qgj,qdP,mkT,hnm]; rfl
     rw [hl] at this
     exact this
    ·have ht:s = []:=htx.resolve_right (by decide)
     subst ht
     have hm:n <= 1000000000000:=hn1
     have hnm:qk4 (Lib.itoa n) = some n:=qns hn0 (by omega)
     have:=qDW (l:=wT [36] :: mkT 2 (Lib.itoa n) :: rest) (by rw [qbc]; decide)
     have hl:qdP (wT [36] :: mkT 2 (Lib.itoa n) :: rest).tail = some n:=by
      simp only [List.tail_cons,qdP,mkT,hnm]; rfl
     rw [hl] at this
     exact this
    ·have ht:s = []:=htx.resolve_right (by decide)
     subst ht
     have hm:n <= 1000000:=hn1
     have hrt:=qK7 (n:=n.toNat) (by omega)
     rw [show ((n.toNat:Nat):Int) = n by omega] at hrt
     have:=qqX (t:=mkT 3 (qrw n.toNat)) (.inr (.inr rfl)) rest
     have hl:qgj (mkT 3 (qrw n.toNat) :: rest) = .ok (.mk 3 n [] []) rest:=by
      simp only [qgj,mkT,hrt]; rfl
     rw [hl] at this
     exact this
    ·have hn:n = 0:=by
      have:n <= 0:=hn1
      omega
     subst hn
     have:=qqX (t:=mkT 1 s) (.inl rfl) rest
     exact this
   refine ⟨hb,qzY hb fun k hk h2 he=>?_⟩
   exfalso
   have hr8:qaL o = 8:=by
    have hcase:o = 1 \/ o = 2 \/ o = 3 \/ o = 4:=by
     unfold qaE at hop
     split at hop
     ·assumption
     ·split at hop
      ·cases hop
      ·split at hop
       ·cases hop
       ·split at hop <;> cases hop
    rcases hcase with rfl | rfl | rfl | rfl <;> rfl
   have:=qy5 hk
   simp only [Ex.op] at he
   omega
  | [a],hop,hpl,hp0,iha=>
   have hcase:o = 9 \/ o = 16:=by
    unfold qaE at hop
    split at hop
    ·cases hop
    ·split at hop
     ·assumption
     ·split at hop
      ·cases hop
      ·split at hop <;> cases hop
   have hn:n = 0:=by
    have:qdO o = 0:=by rcases hcase with rfl | rfl <;> rfl
    omega
   have hs':s = []:=htx.resolve_right (by omega)
   subst hn; subst hs'
   have hb:BkS (.mk o 0 [] [a]):=by
    intro rest hs
    rw [qhu rfl]
    simp only [Ex.op] at hs ⊢
    rcases hcase with rfl | rfl
    ·have h:=hpl a (by simp) 7 (by omega) rest hs
     exact qDY (l:=wT [45] :: par 7 a ++ rest) (by rw [List.cons_append,qbc]; decide) (x:=.ok a rest) h rfl
    ·have h:=hpl a (by simp) 3 (by omega) rest hs
     exact qDZ (l:=wT [110,111,116] :: par 3 a ++ rest) (by rw [List.cons_append,qbc]; decide) (x:=.ok a rest) h rfl
   refine ⟨hb,qzY hb fun k hk h2 he=>?_⟩
   exfalso
   simp only [Ex.op] at he
   rcases hcase with rfl | rfl
   ·match k,hk,h2 with
    | 0,_,_=>cases he
    | 1,_,_=>cases he
    | 3,_,_=>cases he
    | 4,_,_=>cases he
   ·match k,hk,h2 with
    | 0,_,_=>cases he
    | 1,_,_=>cases he
    | 3,_,_=>cases he
    | 4,_,_=>cases he
  | [a,b],hop,hpl,hp0,iha=>
   obtain ⟨o1,o2,o9,o16⟩:=qk7 (e:=.mk o n s [a,b]) hop rfl
   simp only [Ex.op] at o1 o2 o9 o16
   have hn:n = 0:=by
    have:=qGj (op:=o) (by omega) (by omega) (by omega)
    omega
   have hs':s = []:=htx.resolve_right (by omega)
   subst hn; subst hs'
   by_cases h1718:o = 17 \/ o = 18
   ·have hr:qaL o = 8:=by rcases h1718 with rfl | rfl <;> rfl
    have hb:BkS (.mk o 0 [] [a,b]):=by
     intro rest hs
     rw [qff (e:=.mk o 0 [] [a,b]) rfl h1718]
     simp only [Ex.op] at hs ⊢
     rw [hr] at hs ⊢
     have ha:=hp0 a (by simp) (wT [44] :: (wrB b ++ [wT [41]] ++ rest)) (qjx (by decide) _ _)
     have hbb:=hp0 b (by simp) (wT [41] :: rest) (qjx (by decide) _ _)
     have hpair:qzL o (wT [40] :: (wrB a ++ wT [44] :: (wrB b ++ [wT [41]] ++ rest))) (.ok (exN o [a,b]) rest):=by
      refine .inl ⟨by rw [qbc]; decide,_,ha,.inl ⟨by rw [qbc]; decide,.ok b (wT [41] :: rest),?_,.inl ⟨by rw [qbc]; decide,rfl⟩⟩⟩
      simp only [List.tail_cons,List.append_assoc,List.cons_append,List.nil_append]
      exact hbb
     have e1:∀ w:Tok,w :: wT [40] :: (wrB a ++ wT [44] :: (wrB b ++ [wT [41]])) ++ rest = w :: wT [40] :: (wrB a ++ wT [44] :: (wrB b ++ [wT [41]] ++ rest)):=by intro w; simp
     rw [e1]
     rcases h1718 with rfl | rfl
     ·show Ev .prim (wT [109,105,110] :: wT [40] :: (wrB a ++ wT [44] :: (wrB b ++ [wT [41]] ++ rest))) _
      exact qOu (by rw [qbc]; decide) (by rw [qbc]; decide) hpair
     ·show Ev .prim (wT [109,97,120] :: wT [40] :: (wrB a ++ wT [44] :: (wrB b ++ [wT [41]] ++ rest))) _
      exact qOt (by rw [qbc]; decide) (by rw [qbc]; decide) (by rw [qbc]; decide) hpair
    refine ⟨hb,qzY hb fun k hk h2 he=>?_⟩
    exfalso
    have:=qy5 hk
    simp only [Ex.op] at he
    omega
   ·have ho15:o <= 15:=by omega
    have hsg:=qxl o1 ho15 o9
    by_cases h4:qaL o = 4
    ·
     have hlv:lvO o = 2:=by
      have:=(hsg []).2.1
      rcases qjd o1 ho15 o9 with rfl | rfl | rfl | rfl | rfl | rfl | rfl | rfl | rfl | rfl <;> first | rfl | cases h4
     have hb:BkS (.mk o 0 [] [a,b]):=by
      intro rest hs
      rw [qkZ (e:=.mk o 0 [] [a,b]) rfl (fun h=>h1718 (.inl h)) (fun h=>h1718 (.inr h))]
      simp only [Ex.op] at hs ⊢
      rw [h4] at hs ⊢
      have hl:qcQ o = 5:=by unfold qcQ; rw [if_pos h4]
      rw [hl,List.append_assoc]
      have hst:stopL 5 (wT (qc9 o) :: par 5 b ++ rest):=by
       have:=(hsg (par 5 b ++ rest)).2.2.2
       rw [h4] at this; exact this
      have ha:=hpl a (by simp) 5 (by omega) _ hst
      have hbb:=hpl b (by simp) 5 (by omega) rest (hs.up (by omega))
      have hopat:opAt 2 (wT (qc9 o) :: par 5 b ++ rest) = o:=by
       have:=(hsg (par 5 b ++ rest)).1
       rw [hlv] at this; exact this
      refine qtn ha (qDX (by rw [hopat]; omega) (x:=.ok b rest) hbb ?_)
      show _ = _
      rw [hopat]; rfl
     refine ⟨hb,qzY hb fun k hk h2 he=>?_⟩
     exfalso
     simp only [Ex.op] at he
     rw [h4] at he
     match k,hk,h2 with
     | 0,_,_=>cases he
     | 1,_,_=>cases he
     | 3,_,_=>cases he
     | 4,_,_=>cases he
    ·have hlv2:lvO o ≠ 2:=by
      intro h
      have:=(hsg []).2.1
      rw [h] at this
      exact h4 this.symm
     have hk4:=(hsg []).2.2.1
     have hlr:=(hsg []).2.1
     have hleft:qcQ o = qaL o:=by unfold qcQ; rw [if_neg h4]
     have hwr:wrB (.mk o 0 [] [a,b]) = par (qaL o) a ++ wT (qc9 o) :: par (qaL o + 1) b:=by
      rw [qkZ (e:=.mk o 0 [] [a,b]) rfl (fun h=>h1718 (.inl h)) (fun h=>h1718 (.inr h))]
      simp only [Ex.op]; rw [hleft]
     have hcont:∀ rest y,stopL (qaL o + 1) rest -> Ev (.lp (lvO o) (.mk o 0 [] [a,b])) rest y -> Ev (.bin (lvO o)) (wrB (.mk o 0 [] [a,b]) ++ rest) y:=by
      intro rest y hs hl
      rw [hwr,List.append_assoc,<- hlr]
      refine (iha a (by simp)).2 (lvO o) hk4 hlv2 _ _ (by rw [hlr]; exact (hsg _).2.2.2) ?_
      have hopat:=(hsg (par (qaL o + 1) b ++ rest)).1
      have hbb:=hpl b (by simp) (qaL o + 1) (by rw [<- hlr]; exact qy5 hk4) rest hs
      refine qR2 (qZj hlv2) (l:=wT (qc9 o) :: par (lvR (lvO o) + 1) b ++ rest) (x:=.ok b rest) ?_ ?_ ?_
      ·rw [hlr,List.cons_append,hopat]; omega
      ·rw [hlr]
       refine qGg hk4 hlv2 ?_
       rw [hlr]; exact hbb
      ·show Ev _ _ _
       rw [hlr,List.cons_append,hopat]; exact hl
     have hb:BkS (.mk o 0 [] [a,b]):=by
      intro rest hs
      simp only [Ex.op] at hs ⊢
      rw [<- hlr,qZt hk4 hlv2]
      refine hcont rest _ (hs.up (by omega)) (qkL (hs _ hk4 (by rw [hlr]; exact Nat.le_refl _)))
     refine ⟨hb,qzY hb fun k hk h2 he rest y hs hl=>?_⟩
     simp only [Ex.op] at he
     have hkk:k = lvO o:=by
      rw [<- hlr] at he
      revert he
      generalize lvO o = q at hk4 hlv2
      intro he
      match k,hk,h2,q,hk4,hlv2 with
      | 0,_,_,0,_,_=>rfl
      | 0,_,_,1,_,_=>cases he
      | 0,_,_,3,_,_=>cases he
      | 0,_,_,4,_,_=>cases he
      | 1,_,_,0,_,_=>cases he
      | 1,_,_,1,_,_=>rfl
      | 1,_,_,3,_,_=>cases he
      | 1,_,_,4,_,_=>cases he
      | 3,_,_,0,_,_=>cases he
      | 3,_,_,1,_,_=>cases he
      | 3,_,_,3,_,_=>rfl
      | 3,_,_,4,_,_=>cases he
      | 4,_,_,0,_,_=>cases he
      | 4,_,_,1,_,_=>cases he
      | 4,_,_,3,_,_=>cases he
      | 4,_,_,4,_,_=>rfl
     subst hkk
     rw [hlr] at hs
     exact hcont rest y hs hl
  | [a,b,c],hop,hpl,hp0,iha=>
   have h19:o = 19:=by
    unfold qaE at hop
    split at hop
    ·cases hop
    ·split at hop
     ·cases hop
     ·split at hop
      ·assumption
      ·split at hop <;> cases hop
   subst h19
   have hn:n = 0:=by
    have:n <= 0:=hn1
    omega
   have hs':s = []:=htx.resolve_right (by decide)
   subst hn; subst hs'
   have hb:BkS (.mk 19 0 [] [a,b,c]):=by
    intro rest hs
    rw [qxI rfl]
    have hs0:stopL 0 rest:=hs
    have hc:=hp0 c (by simp) rest hs0
    have hbb:=hp0 b (by simp) (wT [101,108,115,101] :: (wrB c ++ rest)) (qjx (by decide) _ _)
    have ha:=hp0 a (by simp) (wT [116,104,101,110] :: (wrB b ++ wT [101,108,115,101] :: (wrB c ++ rest))) (qjx (by decide) _ _)
    have e1:wT [105,102] :: (wrB a ++ wT [116,104,101,110] :: (wrB b ++ wT [101,108,115,101] :: wrB c)) ++ rest = wT [105,102] :: (wrB a ++ wT [116,104,101,110] :: (wrB b ++ wT [101,108,115,101] :: (wrB c ++ rest))):=by simp
    rw [e1]
    exact qwl (by rw [qbc]; decide) ha (.inl ⟨by rw [qbc]; decide,_,hbb,.inl ⟨by rw [qbc]; decide,_,hc,rfl⟩⟩)
   refine ⟨hb,qzY hb fun k hk h2 he=>?_⟩
   exfalso
   simp only [Ex.op] at he
   match k,hk,h2 with
   | 0,_,_=>cases he
   | 1,_,_=>cases he
   | 3,_,_=>cases he
   | 4,_,_=>cases he
  | a :: b :: c :: d :: m,hop,_,_,_=>
   exfalso
   unfold qaE at hop
   simp only [List.length_cons] at hop
   split at hop
   ·omega
   ·split at hop
    ·omega
    ·split at hop
     ·omega
     ·split at hop <;> omega
theorem qWp {e:Ex} (h:e.allX qaK = true) {rest:List Tok} (hs:stopL 0 rest):Ev .ex (wrB e ++ rest) (.ok e rest):=by
 have:=qqY (qWq e h).1 0 (by omega) rest hs
 rw [qcz] at this; exact this
theorem qxd (r:Nat) (e:Ex):(wrB e).length <= (par r e).length /\ (par r e).length <= (wrB e).length + 2:=by
 unfold par qBz
 split
 ·simp only [List.length_cons,List.length_append,List.length_nil]; omega
 ·omega
theorem qjf {r r':Nat} (h:r <= r') (e:Ex):(par r e).length <= (par r' e).length:=by
 unfold par qBz
 by_cases h1:qaL e.op < r
 ·rw [if_pos h1,if_pos (by omega)]; exact Nat.le_refl _
 ·rw [if_neg h1]
  split
  ·simp only [List.length_cons,List.length_append,List.length_nil]; omega
  ·exact Nat.le_refl _
def loR:Md -> Ex -> Nat
 | .ex,e=>(wrB e).length
 | .cmp,e=>(par 4 e).length
 | .neg,e=>(par 7 e).length
 | .prim,e=>(par 8 e).length
 | .bin k,e=>(par (if k = 2 then 3 else if k >= 5 then 7 else lvR k) e).length
 | .lp k _,e=>(par (lvR k) e).length
def qWd:Md -> Nat
 | .lp k e=>(par (if k = 2 then 5 else lvR k) e).length
 | _=>0
theorem qKU {k:Nat} {l:List Tok} (h:opAt k l ≠ 0):5 <= opAt k l /\ opAt k l <= 15 /\ opAt k l ≠ 9 /\ lvO (opAt k l) = k /\ k <= 4:=by
 unfold opAt at h ⊢
 cases hf:(lvS k).find? (fun x=>isW x.1 l) with
 | none=>rw [hf] at h; exact absurd rfl h
 | some x=>
  have hm:=List.mem_of_find?_eq_some hf
  clear h hf
  match k,hm with
  | 0,hm=>simp only [lvS,List.mem_singleton] at hm; subst hm; decide
  | 1,hm=>simp only [lvS,List.mem_singleton] at hm; subst hm; decide
  | 2,hm=>simp only [lvS,List.mem_cons,List.not_mem_nil,or_false] at hm; rcases hm with rfl | rfl | rfl | rfl <;> decide
  | 3,hm=>simp only [lvS,List.mem_cons,List.not_mem_nil,or_false] at hm; rcases hm with rfl | rfl <;> decide
  | 4,hm=>simp only [lvS,List.mem_cons,List.not_mem_nil,or_false] at hm; rcases hm with rfl | rfl <;> decide
  | k + 5,hm=>simp [lvS] at hm
theorem qKK {l:List Tok} {e:Ex} {r:List Tok} (h:qgj l = .ok e r):(par 8 e).length + r.length <= l.length:=by
 have key:∀ (e:Ex),qaL e.op = 8 -> (wrB e).length = 1 -> ∀ (t:Tok) (l:List Tok),(par 8 e).length + l.length <= (t :: l).length:=by
  intro e h1 h2 t l
  rw [qdR (by omega)]; simp; omega
 unfold qgj at h
 cases l with
 | nil=>cases h
 | cons t l=>
  simp only at h
  cases h1:(t.kind == 1)
  ·rw [h1] at h
   cases h3:(t.kind == 3)
   ·rw [h3] at h
    simp only [cond_false] at h
    split at h
    ·cases h; exact key _ rfl (by rw [qcr rfl]; rfl) _ _
    ·cases h
   ·rw [h3] at h
    simp only [cond_true,cond_false] at h
    cases h4:((qbN t.text).2 == 0)
    ·rw [h4] at h; cases h
    ·rw [h4] at h; cases h; exact key _ rfl (by rw [qcr rfl]; rfl) _ _
  ·rw [h1] at h; cases h; exact key _ rfl (by rw [qcr rfl]; rfl) _ _
theorem qR3:∀ (n:Nat) (m:Md) (l:List Tok) (e:Ex) (r:List Tok),prs n m l = some (.ok e r) -> loR m e + r.length <= qWd m + l.length:=by
 intro n
 induction n with
 | zero=>intro m l e r h; cases h
 | succ n ih=>
  intro m l e r h
  cases m with
  | ex=>
   simp only [prs] at h
   show (wrB e).length + r.length <= 0 + l.length
   cases hi:isW [105,102] l
   ·rw [hi] at h
    have q:(par 1 e).length + r.length <= 0 + l.length:=ih _ _ _ _ h
    have:=(qxd 1 e).1
    omega
   ·rw [hi] at h
    obtain ⟨t,l',rfl⟩:=qbr hi
    simp only [cond_true,List.tail_cons] at h
    obtain ⟨a,r1,h1,h⟩:=qcG h
    obtain ⟨t1,l1,rfl,_,h⟩:=qgA h
    obtain ⟨b,r2,h2,h⟩:=qcG h
    obtain ⟨t2,l2,rfl,_,h⟩:=qgA h
    obtain ⟨c,r3,h3,h⟩:=qcG h
    cases h
    have q1:(wrB a).length + (t1 :: l1).length <= 0 + l'.length:=ih _ _ _ _ h1
    have q2:(wrB b).length + (t2 :: l2).length <= 0 + l1.length:=ih _ _ _ _ h2
    have q3:(wrB c).length + r.length <= 0 + l2.length:=ih _ _ _ _ h3
    rw [qxI (e:=exN 19 [a,b,c]) rfl]
    simp only [List.length_cons,List.length_append] at q1 q2 q3 ⊢
    omega
  | bin k=>
   simp only [prs] at h
   show (par (if k = 2 then 3 else if k >= 5 then 7 else lvR k) e).length + r.length <= 0 + l.length
   cases h5:(k == 5)
   ·have h5':k ≠ 5:=by simpa using h5
    rw [h5] at h
    cases h2:(k == 2)
    ·have h2':k ≠ 2:=by simpa using h2
     rw [h2] at h
     simp only [cond_false] at h
     obtain ⟨a,r1,h1,h⟩:=qcG h
     rw [if_neg h2']
     have q1:(par (if k + 1 = 2 then 3 else if k + 1 >= 5 then 7 else lvR (k + 1)) a).length + r1.length <= 0 + l.length:=ih _ _ _ _ h1
     have q2:(par (lvR k) e).length + r.length <= (par (if k = 2 then 5 else lvR k) a).length + r1.length:=ih _ _ _ _ h
     rw [if_neg h2'] at q2
     by_cases hk5:k >= 5
     ·
      rw [if_pos hk5]
      have hk6:lvR k = 6:=by
       match k,hk5 with
       | k + 5,_=>rfl
      rw [if_neg (by omega),if_pos (by omega)] at q1
      have hlp:∃ n,prs n (.lp k a) r1 = some (.ok e r):=⟨n,h⟩
      have h0:opAt k r1 = 0:=by
       match k,hk5 with
       | k + 5,_=>rfl
      have:=Ev.fn ⟨n,h⟩ (qkL (e:=a) h0)
      cases this
      exact q1
     ·rw [if_neg hk5]
      have hm:(par (lvR k) a).length <= (par (if k + 1 = 2 then 3 else if k + 1 >= 5 then 7 else lvR (k + 1)) a).length:=by
       refine qjf ?_ a
       match k,h2',hk5 with
       | 0,_,_=>decide
       | 1,_,_=>decide
       | 3,_,_=>decide
       | 4,_,_=>decide
       | k + 5,_,hk=>exact absurd (by omega) hk
      omega
    ·have h2':k = 2:=by simpa using h2
     subst h2'
     simp only [cond_true,cond_false] at h
     rw [if_pos rfl]
     cases hi:isW [110,111,116] l
     ·rw [hi] at h
      have q:(par 4 e).length + r.length <= 0 + l.length:=ih _ _ _ _ h
      have:=qjf (show 3 <= 4 by omega) e
      omega
     ·rw [hi] at h
      obtain ⟨t,l',rfl⟩:=qbr hi
      obtain ⟨a,r1,h1,h⟩:=qcG h
      cases h
      have q1:(par (if 2 = 2 then 3 else if 2 >= 5 then 7 else lvR 2) a).length + r.length <= 0 + l'.length:=ih _ _ _ _ h1
      rw [if_pos rfl] at q1
      rw [qdR (e:=exN 16 [a]) (show 3 <= qaL 16 by decide),qhu (e:=exN 16 [a]) rfl]
      have:par (qaL (exN 16 [a]).op) a = par 3 a:=rfl
      rw [this]
      simp only [List.length_cons] at q1 ⊢
      omega
   ·have h5':k = 5:=by simpa using h5
    subst h5'
    exact ih _ _ _ _ h
  | cmp=>
   simp only [prs] at h
   show (par 4 e).length + r.length <= 0 + l.length
   obtain ⟨a,r1,h1,h⟩:=qcG h
   have q1:(par (if 3 = 2 then 3 else if 3 >= 5 then 7 else lvR 3) a).length + r1.length <= 0 + l.length:=ih _ _ _ _ h1
   have q2:(par (lvR 2) e).length + r.length <= (par (if 2 = 2 then 5 else lvR 2) a).length + r1.length:=ih _ _ _ _ h
   rw [if_neg (by decide),if_neg (by decide)] at q1
   rw [if_pos rfl] at q2
   have e1:lvR 3 = 5:=rfl
   have e2:lvR 2 = 4:=rfl
   rw [e1] at q1
   rw [e2] at q2
   omega
  | lp k e0=>
   simp only [prs] at h
   show (par (lvR k) e).length + r.length <= (par (if k = 2 then 5 else lvR k) e0).length + l.length
   cases h0:(opAt k l == 0)
   ·have hne:opAt k l ≠ 0:=by simpa using h0
    rw [h0] at h
    obtain ⟨o1,o2,o9,olv,hk4⟩:=qKU hne
    have hsg:=(qxl o1 o2 o9 []).2.1
    rw [olv] at hsg
    generalize opAt k l = o at h o1 o2 o9 olv hsg
    obtain ⟨t,l',rfl⟩:=qnw hne
    simp only [cond_false,List.tail_cons] at h
    obtain ⟨b,r1,h1,h⟩:=qcG h
    have q1:(par (if k + 1 = 2 then 3 else if k + 1 >= 5 then 7 else lvR (k + 1)) b).length + r1.length <= 0 + l'.length:=ih _ _ _ _ h1
    have hwr:=qkZ (e:=exN o [e0,b]) rfl (by show o ≠ 17; omega) (by show o ≠ 18; omega)
    have hwr':(wrB (exN o [e0,b])).length = (par (qcQ o) e0).length + 1 + (par (qaL o + 1) b).length:=by
     rw [hwr]
     show (par (qcQ o) e0 ++ wT (qc9 o) :: par (qaL o + 1) b).length = _
     simp only [List.length_append,List.length_cons]; omega
    cases h2:(k == 2)
    ·have h2':k ≠ 2:=by simpa using h2
     rw [h2] at h
     simp only [cond_false] at h
     have q2:(par (lvR k) e).length + r.length <= (par (if k = 2 then 5 else lvR k) (exN o [e0,b])).length + r1.length:=ih _ _ _ _ h
     rw [if_neg h2'] at q2 ⊢
     rw [qdR (e:=exN o [e0,b]) (by show lvR k <= qaL o; omega),hwr'] at q2
     have hl:qcQ o = lvR k:=by
      unfold qcQ
      rw [hsg]
      split
      ·rename_i h4
       exfalso
       rw [<- hsg] at h4
       match k,hk4,h2' with
       | 0,_,_=>cases h4
       | 1,_,_=>cases h4
       | 3,_,_=>cases h4
       | 4,_,_=>cases h4
      ·rfl
     rw [hl] at q2
     have hm:(par (qaL o + 1) b).length <= (par (if k + 1 = 2 then 3 else if k + 1 >= 5 then 7 else lvR (k + 1)) b).length:=by
      refine qjf ?_ b
      rw [<- hsg]
      match k,hk4,h2' with
      | 0,_,_=>decide
      | 1,_,_=>decide
      | 3,_,_=>decide
      | 4,_,_=>decide
     simp only [List.length_cons]
     omega
    ·have h2':k = 2:=by simpa using h2
     rw [h2] at h
     subst h2'
     simp only [cond_true,Option.some.injEq,Rs.ok.injEq] at h
     obtain ⟨rfl,rfl⟩:=h
     rw [if_pos rfl]
     have hr4:qaL o = 4:=hsg.symm
     rw [qdR (e:=exN o [e0,b]) (by show lvR 2 <= qaL o; rw [hr4]; decide),hwr']
     have hl:qcQ o = 5:=by unfold qcQ; rw [if_pos hr4]
     rw [hl,hr4]
     have q1':(par (4 + 1) b).length + r1.length <= 0 + l'.length:=q1
     simp only [List.length_cons]
     omega
   ·rw [h0] at h
    simp only [cond_true,Option.some.injEq,Rs.ok.injEq] at h
    obtain ⟨rfl,rfl⟩:=h
    have:(par (lvR k) e0).length <= (par (if k = 2 then 5 else lvR k) e0).length:=by
     split
     ·rename_i h2; subst h2; exact qjf (by decide) e0
     ·exact Nat.le_refl _
    omega
  | neg=>
   simp only [prs] at h
   show (par 7 e).length + r.length <= 0 + l.length
   cases hi:isW [45] l
   ·rw [hi] at h
    have q:(par 8 e).length + r.length <= 0 + l.length:=ih _ _ _ _ h
    have:=qjf (show 7 <= 8 by omega) e
    omega
   ·rw [hi] at h
    obtain ⟨t,l',rfl⟩:=qbr hi
    obtain ⟨a,r1,h1,h⟩:=qcG h
    cases h
    have q1:(par 7 a).length + r.length <= 0 + l'.length:=ih _ _ _ _ h1
    rw [qdR (e:=exN 9 [a]) (show 7 <= qaL 9 by decide),qhu (e:=exN 9 [a]) rfl]
    have:par (qaL (exN 9 [a]).op) a = par 7 a:=rfl
    rw [this]
    simp only [List.length_cons] at q1 ⊢
    omega
  | prim=>
   simp only [prs] at h
   show (par 8 e).length + r.length <= 0 + l.length
   have hpair:∀ {op:Int} {t:Tok} {l':List Tok},op = 17 \/ op = 18 -> qew op (prs n .ex) l' = some (.ok e r) -> (par 8 e).length + r.length <= 0 + (t :: l').length:=by
    intro op t l' hop h
    obtain ⟨t1,l1,a,t2,l2,b,t3,rfl,h1,h2,rfl⟩:=qHw h
    have q1:(wrB a).length + (t2 :: l2).length <= 0 + l1.length:=ih _ _ _ _ h1
    have q2:(wrB b).length + (t3 :: r).length <= 0 + l2.length:=ih _ _ _ _ h2
    rw [qdR (e:=exN op [a,b]) (by show 8 <= qaL op; rcases hop with rfl | rfl <;> decide),qff (e:=exN op [a,b]) rfl hop]
    simp only [List.length_cons,List.length_append,List.length_nil] at q1 q2 ⊢
    omega
   cases h1:isW [36] l
   ·rw [h1] at h
    simp only [cond_false] at h
    cases h2:isW [109,105,110] l
    ·rw [h2] at h
     simp only [cond_false] at h
     cases h3:isW [109,97,120] l
     ·rw [h3] at h
      simp only [cond_false] at h
      cases h4:isW [40] l
      ·rw [h4] at h
       simp only [cond_false,Option.some.injEq] at h
       have:=qKK h
       omega
      ·rw [h4] at h
       obtain ⟨t,l',rfl⟩:=qbr h4
       simp only [cond_true,List.tail_cons] at h
       obtain ⟨a,r1,h1,h⟩:=qcG h
       obtain ⟨t1,l1,rfl,_,h⟩:=qgA h
       cases h
       have q1:(wrB e).length + (t1 :: r).length <= 0 + l'.length:=ih _ _ _ _ h1
       have:=(qxd 8 e).2
       simp only [List.length_cons] at q1 ⊢
       omega
     ·rw [h3] at h
      obtain ⟨t,l',rfl⟩:=qbr h3
      exact hpair (.inr rfl) h
    ·rw [h2] at h
     obtain ⟨t,l',rfl⟩:=qbr h2
     exact hpair (.inl rfl) h
   ·rw [h1] at h
    obtain ⟨t,l',rfl⟩:=qbr h1
    simp only [cond_true,List.tail_cons] at h
    split at h
    ·rename_i v hv
     cases h
     cases l' with
     | nil=>cases hv
     | cons t' l'=>
      rw [qdR (e:=.mk 2 v [] []) (show 8 <= qaL 2 by decide),qcr (e:=.mk 2 v [] []) rfl]
      simp only [List.tail_cons,List.length_cons]
      show 2 + _ <= _
      omega
    ·cases h
theorem qVx {l:List Tok} {e:Ex} {r:List Tok} (h:Ev .ex l (.ok e r)):(wrB e).length + r.length <= l.length:=by
 obtain ⟨n,hn⟩:=h
 have:=qR3 n _ _ _ _ hn
 have e1:loR .ex e = (wrB e).length:=rfl
 have e2:qWd .ex = 0:=rfl
 omega
end Go.Tk

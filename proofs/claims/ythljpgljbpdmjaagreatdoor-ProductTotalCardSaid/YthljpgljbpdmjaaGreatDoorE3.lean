/- A machine of plain values, and that what it says holds of the program. -/
import Derived.Test.YthljpgljbpdmjaaGreatDoorE2
set_option linter.unusedVariables false
set_option linter.unusedSimpArgs false
set_option linter.unnecessarySimpa false
namespace Go.Eng
section
variable {IP:Prog}
def LeC (c c':qa5):Prop:=∀ f a h r,c f a h = some r -> c' f a h = some r
def LeL (l l':qho):Prop:=∀ k c s r,l k c s = some r -> l' k c s = some r
theorem qjx {c c':qa5} (hc:LeC c c') {h:qam} {nx f:Nat} {args:List AV} {r:Res × qam × Bool} (hs:qgg IP c h nx f args = some r):qgg IP c' h nx f args = some r:=by
 simp only [qgg] at hs ⊢
 split at hs
 ·cases hs
 ·rename_i args' roots hp
  split at hs
  ·rename_i moved shwn h1 h2
   split at hs
   ·rename_i hd
    split at hs
    ·cases hs
    ·rename_i r0 h0 hcl
     simp only [h1,h2,hd,if_true,hc _ _ _ _ hcl]
     exact hs
   ·cases hs
  ·cases hs
theorem qui {c c':qa5} (hc:LeC c c') {nx:Nat} {ev:Opd -> AV} {h:qam} {io:IOp} {r:Res × qam × Bool} (hs:opS IP c nx ev h io = some r):opS IP c' nx ev h io = some r:=by
 cases io <;> try exact hs
 case call f xs=>exact qjx hc hs
 case callv x xs=>
  simp only [opS] at hs ⊢
  split at hs
  ·exact qjx hc hs
  ·cases hs
 case invk tbl x xs=>
  simp only [opS] at hs ⊢
  split at hs
  ·split at hs
   ·exact qjx hc hs
   ·cases hs
  ·cases hs
theorem qsZ {c c':qa5} (hc:LeC c c') {nx:Nat} {o:IOper} {e:Env} {h:qam} {s:Step} (hs:qct IP c nx o e h = some s):qct IP c' nx o e h = some s:=by
 simp only [qct] at hs ⊢
 split at hs
 ·cases hs
 ·exact hs
 ·split at hs
  ·cases hs
  ·rename_i r hr
   split at hs
   ·cases hs
   ·rename_i v out w ho
    simp only [qui hc ho]
    exact hs
   ·rename_i v out w ho
    simp only [qui hc ho]
    exact hs
theorem qim {c c':qa5} (hc:LeC c c'):∀ {ops:List IOper} {e:Env} {h:qam} {nx:Nat} {log:List Step} {r:X × Env × qam × List Step},qcq IP c ops e h nx log = some r -> qcq IP c' ops e h nx log = some r
 | [],e,h,nx,log,r,hs=>hs
 | o :: ops,e,h,nx,log,r,hs=>by
  simp only [qcq] at hs ⊢
  cases hq:qct IP c nx o e h with
  | none=>simp [hq] at hs
  | some s=>
   rw [qsZ hc hq]
   rw [hq] at hs
   cases s with
   | pan a b d=>exact hs
   | skip=>exact qim hc hs
   | did a b d f=>exact qim hc hs
theorem qpV {c c':qa5} (hc:LeC c c') {base:Nat}:∀ {ops:List IOper} {i:Nat} {e:Env} {h:qam} {log:List Step} {r:Env × qam × List Step},qej IP c base i ops e h log = some r -> qej IP c' base i ops e h log = some r
 | [],i,e,h,log,r,hs=>hs
 | o :: ops,i,e,h,log,r,hs=>by
  simp only [qej] at hs ⊢
  cases hq:qct IP c (base + 16 * i) o e h with
  | none=>simp [hq] at hs
  | some s=>
   rw [qsZ hc hq]
   rw [hq] at hs
   simp only at hs ⊢
   split at hs
   ·rename_i ht
    rw [if_pos ht]
    exact qpV hc hs
   ·cases hs
theorem qrm {c c':qa5} (hc:LeC c c') {ops:List IOper} {d:Option (List (List Nat))} {s:St} {r:X × St} (hs:qbg IP c ops d s = some r):qbg IP c' ops d s = some r:=by
 simp only [qbg] at hs ⊢
 split at hs
 ·split at hs
  ·cases hs
  ·rename_i q; rw [qim hc q]; exact hs
 ·split at hs
  ·cases hs
  ·rename_i q; simp only [qpV hc q]; exact hs
theorem qny {c c':qa5} (hc:LeC c c') {l l':qho} (hl:LeL l l'):∀ {ic:ICode} {s:St} {r:X × St},qdz IP c l ic s = some r -> qdz IP c' l' ic s = some r:=by
 intro ic
 induction ic with
 | skip=>intro s r h; exact h
 | region ops d=>intro s r h; exact qrm hc h
 | seq a b iha ihb=>
  intro s r h
  simp only [qdz] at h ⊢
  split at h
  ·rename_i s1 h1
   rw [iha h1]
   exact ihb h
  ·rename_i hne
   rw [iha h]
   split
   ·rename_i s1 he
    cases he
    exact absurd h (hne s1)
   ·rfl
 | cond x a b iha ihb=>
  intro s r h
  simp only [qdz] at h ⊢
  split at h
  ·exact iha h
  ·exact ihb h
  ·cases h
 | block id a ih=>
  intro s r h
  simp only [qdz] at h ⊢
  split at h
  ·rename_i j s1 h1
   rw [ih h1]; exact h
  ·rename_i hne
   rw [ih h]
   split
   ·rename_i j s1 he
    cases he
    exact absurd h (hne j s1)
   ·rfl
 | loop k a ih=>intro s r h; exact hl _ _ _ _ h
 | exit id=>intro s r h; exact h
 | ret=>intro s r h; exact h
theorem qIP {c c':qa5} (hc:LeC c c') {l l':qho} (hl:LeL l l') {f:Nat} {F:Fun} {args:List AV} {h:qam} {r:Res × qam} (hs:body IP c l f F args h = some r):body IP c' l' f F args h = some r:=by
 simp only [body] at hs ⊢
 cases hq:qdz IP c l F.body ⟨params 0 args,h,h.length,h.length⟩ with
 | none=>simp [hq] at hs
 | some q=>rw [qny hc hl hq]; rw [hq] at hs; exact hs
theorem qlb:∀ n,LeC (qaB IP n).1 (qaB IP (n + 1)).1 /\ LeL (qaB IP n).2 (qaB IP (n + 1)).2
 | 0=>⟨fun f a h r hr=>by simp [qaB] at hr,fun k c s r hr=>by simp [qaB] at hr⟩
 | n + 1=>by
  obtain ⟨h1,h2⟩:=qlb n
  constructor
  ·intro f a h r hr
   have e1:(qaB IP (n + 1)).1 f a h = match IP.fn f with
    | some F=>body IP (qaB IP n).1 (qaB IP n).2 f F a h
    | none=>match IP.spec f with
     | some g=>g a h
     | none=>match IP.seen f with
      | some s=>s.g (qaB IP n).1 a h
      | none=>none:=rfl
   have e2:(qaB IP (n + 1 + 1)).1 f a h = match IP.fn f with
    | some F=>body IP (qaB IP (n + 1)).1 (qaB IP (n + 1)).2 f F a h
    | none=>match IP.spec f with
     | some g=>g a h
     | none=>match IP.seen f with
      | some s=>s.g (qaB IP (n + 1)).1 a h
      | none=>none:=rfl
   rw [e1] at hr
   rw [e2]
   split at hr
   ·exact qIP h1 h2 hr
   ·split at hr
    ·exact hr
    ·split at hr
     ·rename_i s hs
      exact s.mono _ _ h1 _ _ _ hr
     ·cases hr
  ·intro k c s r hr
   have e1:∀ m,(qaB IP (m + 1)).2 k c s = match norm (hk k) s with
    | none=>none
    | some s=>match qdz IP (qaB IP m).1 (qaB IP m).2 c s with
     | some (.normal,s)=>(qaB IP m).2 k c s
     | some (x,s)=>qRY k x s
     | none=>none:=fun _=>rfl
   rw [e1] at hr ⊢
   split at hr
   ·cases hr
   ·rename_i s1 hn
    split at hr
    ·rename_i s2 hx
     simp only [qny h1 h2 hx]
     exact h2 _ _ _ _ hr
    ·rename_i x s2 hne hx
     simp only [qny h1 h2 hx]
     cases x with
     | normal=>exact absurd rfl (hne)
     | _=>exact hr
    ·cases hr
theorem qb2 {n m:Nat} (h:n <= m):LeC (qaB IP n).1 (qaB IP m).1 /\ LeL (qaB IP n).2 (qaB IP m).2:=by
 induction h with
 | refl=>exact ⟨fun _ _ _ _ h=>h,fun _ _ _ _ h=>h⟩
 | step _ ih=>
  obtain ⟨h1,h2⟩:=qlb (IP:=IP) _
  exact ⟨fun f a h r hr=>h1 _ _ _ _ (ih.1 _ _ _ _ hr),fun k c s r hr=>h2 _ _ _ _ (ih.2 _ _ _ _ hr)⟩
open Classical in
noncomputable def qdH (IP:Prog):qa5:=fun f a h=>if hx:∃ n r,(qaB IP n).1 f a h = some r then (qaB IP (Classical.choose hx)).1 f a h else none
open Classical in
noncomputable def qih (IP:Prog):qho:=fun k c s=>if hx:∃ n r,(qaB IP n).2 k c s = some r then (qaB IP (Classical.choose hx)).2 k c s else none
theorem qcW {f:Nat} {a:List AV} {h:qam} {r:Res × qam}:qdH IP f a h = some r ↔ ∃ n,(qaB IP n).1 f a h = some r:=by
 constructor
 ·intro hr
  simp only [qdH] at hr
  split at hr
  ·exact ⟨_,hr⟩
  ·cases hr
 ·rintro ⟨n,hn⟩
  have hx:∃ n r,(qaB IP n).1 f a h = some r:=⟨n,r,hn⟩
  simp only [qdH,dif_pos hx]
  obtain ⟨r',hr'⟩:=Classical.choose_spec hx
  rw [hr']
  rcases Nat.le_total n (Classical.choose hx) with hle | hle
  ·rw [(qb2 hle).1 _ _ _ _ hn] at hr'; exact hr'.symm
  ·have:=(qb2 hle).1 _ _ _ _ hr'
   rw [hn] at this; exact this.symm
theorem qeL {k:List Nat} {c:ICode} {s:St} {r:X × St}:qih IP k c s = some r ↔ ∃ n,(qaB IP n).2 k c s = some r:=by
 constructor
 ·intro hr
  simp only [qih] at hr
  split at hr
  ·exact ⟨_,hr⟩
  ·cases hr
 ·rintro ⟨n,hn⟩
  have hx:∃ n r,(qaB IP n).2 k c s = some r:=⟨n,r,hn⟩
  simp only [qih,dif_pos hx]
  obtain ⟨r',hr'⟩:=Classical.choose_spec hx
  rw [hr']
  rcases Nat.le_total n (Classical.choose hx) with hle | hle
  ·rw [(qb2 hle).2 _ _ _ _ hn] at hr'; exact hr'.symm
  ·have:=(qb2 hle).2 _ _ _ _ hr'
   rw [hn] at this; exact this.symm
theorem qnt {h:qam} {nx f:Nat} {args:List AV} {r:Res × qam × Bool} (hs:qgg IP (qdH IP) h nx f args = some r):∃ n0,∀ n,n0 <= n -> qgg IP (qaB IP n).1 h nx f args = some r:=by
 have hs0:=hs
 simp only [qgg] at hs
 split at hs
 ·cases hs
 ·rename_i args' roots hp
  split at hs
  ·rename_i moved shwn h1 h2
   split at hs
   ·rename_i hd
    split at hs
    ·cases hs
    ·rename_i r0 h0 hcl
     obtain ⟨n0,hn0⟩:=qcW.1 hcl
     refine ⟨n0,fun n hn=>?_⟩
     have:=(qb2 hn).1 _ _ _ _ hn0
     simp only [qgg,hp,h1,h2,hd,if_true,this]
     exact hs
   ·cases hs
  ·cases hs
theorem qLS {nx:Nat} {ev:Opd -> AV} {h:qam} {io:IOp} {r:Res × qam × Bool} (hs:opS IP (qdH IP) nx ev h io = some r):∃ n0,∀ n,n0 <= n -> opS IP (qaB IP n).1 nx ev h io = some r:=by
 cases io <;> try exact ⟨0,fun n _=>hs⟩
 case call f xs=>exact qnt hs
 case callv x xs=>
  simp only [opS] at hs ⊢
  split at hs
  ·exact qnt hs
  ·cases hs
 case invk tbl x xs=>
  simp only [opS] at hs ⊢
  split at hs
  ·split at hs
   ·exact qnt hs
   ·cases hs
  ·cases hs
theorem qxZ {nx:Nat} {o:IOper} {e:Env} {h:qam} {s:Step} (hs:qct IP (qdH IP) nx o e h = some s):∃ n0,∀ n,n0 <= n -> qct IP (qaB IP n).1 nx o e h = some s:=by
 simp only [qct] at hs ⊢
 split at hs
 ·cases hs
 ·exact ⟨0,fun n _=>hs⟩
 ·split at hs
  ·cases hs
  ·rename_i r hr
   split at hs
   ·cases hs
   ·rename_i v out w ho
    obtain ⟨n0,h0⟩:=qLS ho
    exact ⟨n0,fun n hn=>by simp only [h0 n hn]; exact hs⟩
   ·rename_i v out w ho
    obtain ⟨n0,h0⟩:=qLS ho
    exact ⟨n0,fun n hn=>by simp only [h0 n hn]; exact hs⟩
theorem qki:∀ {ops:List IOper} {e:Env} {h:qam} {nx:Nat} {log:List Step} {r:X × Env × qam × List Step},qcq IP (qdH IP) ops e h nx log = some r -> ∃ n0,∀ n,n0 <= n -> qcq IP (qaB IP n).1 ops e h nx log = some r
 | [],e,h,nx,log,r,hs=>⟨0,fun n _=>hs⟩
 | o :: ops,e,h,nx,log,r,hs=>by
  simp only [qcq] at hs ⊢
  cases hq:qct IP (qdH IP) nx o e h with
  | none=>simp [hq] at hs
  | some s=>
   obtain ⟨n0,h0⟩:=qxZ hq
   rw [hq] at hs
   cases s with
   | pan a b d=>exact ⟨n0,fun n hn=>by rw [h0 n hn]; exact hs⟩
   | skip=>
    obtain ⟨n1,h1⟩:=qki hs
    exact ⟨max n0 n1,fun n hn=>by rw [h0 n (by omega)]; exact h1 n (by omega)⟩
   | did a b d f=>
    obtain ⟨n1,h1⟩:=qki hs
    exact ⟨max n0 n1,fun n hn=>by rw [h0 n (by omega)]; exact h1 n (by omega)⟩
theorem qsP {base:Nat}:∀ {ops:List IOper} {i:Nat} {e:Env} {h:qam} {log:List Step} {r:Env × qam × List Step},qej IP (qdH IP) base i ops e h log = some r -> ∃ n0,∀ n,n0 <= n -> qej IP (qaB IP n).1 base i ops e h log = some r
 | [],i,e,h,log,r,hs=>⟨0,fun n _=>hs⟩
 | o :: ops,i,e,h,log,r,hs=>by
  simp only [qej] at hs ⊢
  cases hq:qct IP (qdH IP) (base + 16 * i) o e h with
  | none=>simp [hq] at hs
  | some s=>
   obtain ⟨n0,h0⟩:=qxZ hq
   rw [hq] at hs
   simp only at hs
   split at hs
   ·rename_i ht
    obtain ⟨n1,h1⟩:=qsP hs
    exact ⟨max n0 n1,fun n hn=>by rw [h0 n (by omega)]; simp only; rw [if_pos ht]; exact h1 n (by omega)⟩
   ·cases hs
theorem qus {ops:List IOper} {d:Option (List (List Nat))} {s:St} {r:X × St} (hs:qbg IP (qdH IP) ops d s = some r):∃ n0,∀ n,n0 <= n -> qbg IP (qaB IP n).1 ops d s = some r:=by
 simp only [qbg] at hs ⊢
 cases d with
 | none=>
  simp only at hs ⊢
  split at hs
  ·cases hs
  ·rename_i q
   obtain ⟨n0,h0⟩:=qki q
   exact ⟨n0,fun n hn=>by rw [h0 n hn]; exact hs⟩
 | some bf=>
  simp only at hs ⊢
  split at hs
  ·cases hs
  ·rename_i q
   obtain ⟨n0,h0⟩:=qsP q
   exact ⟨n0,fun n hn=>by simp only [h0 n hn]; exact hs⟩
theorem qAS:∀ {ic:ICode} {s:St} {r:X × St},qdz IP (qdH IP) (qih IP) ic s = some r -> ∃ n0,∀ n,n0 <= n -> qdz IP (qaB IP n).1 (qaB IP n).2 ic s = some r:=by
 intro ic
 induction ic with
 | skip=>intro s r h; exact ⟨0,fun n _=>h⟩
 | region ops d=>intro s r h; exact qus h
 | seq a b iha ihb=>
  intro s r h
  simp only [qdz] at h ⊢
  split at h
  ·rename_i s1 h1
   obtain ⟨n0,h0⟩:=iha h1
   obtain ⟨n1,h1⟩:=ihb h
   exact ⟨max n0 n1,fun n hn=>by rw [h0 n (by omega)]; exact h1 n (by omega)⟩
  ·rename_i hne
   obtain ⟨n0,h0⟩:=iha h
   refine ⟨n0,fun n hn=>?_⟩
   rw [h0 n hn]
   split
   ·rename_i s1 he
    cases he
    exact absurd h (hne s1)
   ·rfl
 | cond x a b iha ihb=>
  intro s r h
  simp only [qdz] at h ⊢
  split at h
  ·exact iha h
  ·exact ihb h
  ·cases h
 | block id a ih=>
  intro s r h
  simp only [qdz] at h ⊢
  split at h
  ·rename_i j s1 h1
   obtain ⟨n0,h0⟩:=ih h1
   exact ⟨n0,fun n hn=>by rw [h0 n hn]; exact h⟩
  ·rename_i hne
   obtain ⟨n0,h0⟩:=ih h
   refine ⟨n0,fun n hn=>?_⟩
   rw [h0 n hn]
   split
   ·rename_i j s1 he
    cases he
    exact absurd h (hne j s1)
   ·rfl
 | loop k a ih=>
  intro s r h
  obtain ⟨n0,h0⟩:=qeL.1 h
  exact ⟨n0,fun n hn=>(qb2 hn).2 _ _ _ _ h0⟩
 | exit id=>intro s r h; exact ⟨0,fun n _=>h⟩
 | ret=>intro s r h; exact ⟨0,fun n _=>h⟩
theorem qrE {f:Nat} {g:List AV -> qam -> Option (Res × qam)} (hF:IP.fn f = none) (hS:IP.spec f = some g) {a:List AV} {h:qam} {r:Res × qam} (hr:g a h = some r):qdH IP f a h = some r:=
 qcW.2 ⟨1,by simp only [qaB,hF,hS]; exact hr⟩
theorem qRj {f:Nat} {F:Fun} (hF:IP.fn f = some F) {a:List AV} {h:qam} {r:Res × qam} (hb:body IP (qdH IP) (qih IP) f F a h = some r):qdH IP f a h = some r:=by
 simp only [body] at hb
 cases hq:qdz IP (qdH IP) (qih IP) F.body ⟨params 0 a,h,h.length,h.length⟩ with
 | none=>simp [hq] at hb
 | some q=>
  obtain ⟨n0,h0⟩:=qAS hq
  refine qcW.2 ⟨n0 + 1,?_⟩
  simp only [qaB,hF,body,h0 n0 (Nat.le_refl _)]
  rw [hq] at hb
  exact hb
theorem qB9 {k:List Nat} {c:ICode} {s s1:St} (hn:norm (hk k) s = some s1) {x:X} {s2:St} (hx:qdz IP (qdH IP) (qih IP) c s1 = some (x,s2)) {r:X × St} (hr:(match x with | .normal=>qih IP k c s2 | x=>qRY k x s2) = some r):qih IP k c s = some r:=by
 obtain ⟨n0,h0⟩:=qAS hx
 cases x with
 | normal=>
  obtain ⟨n1,h1⟩:=qeL.1 hr
  refine qeL.2 ⟨max n0 n1 + 1,?_⟩
  simp only [qaB,hn,h0 (max n0 n1) (by omega)]
  exact (qb2 (by omega)).2 _ _ _ _ h1
 | _=>
  refine qeL.2 ⟨n0 + 1,?_⟩
  simp only [qaB,hn,h0 n0 (Nat.le_refl _)]
  exact hr
end
end Go.Eng
namespace Go.Eng
def qaO (s:List UInt8) (i:Int):Int:=((qd5 s i).getD 0).toNat
def inB (n:Nat) (i:Int):Bool:=decide (0 <= i) && decide (i < n)
theorem qIK {α:Type} {l:List α} {i:Int} (h:inB l.length i = true):∃ x,qd5 l i = some x:=by
 simp only [inB,Bool.and_eq_true,decide_eq_true_eq] at h
 have:i.toNat < l.length:=by omega
 exact ⟨l[i.toNat],by simp [qd5,h.1,this]⟩
def qLu:Option AV -> Nat
 | some (.int _ n)=>n.toNat
 | _=>0
def qj3 (len:Nat):Option AV -> Nat
 | some (.int _ n)=>n.toNat
 | _=>len
def leB (n:Int) (m:Nat):Bool:=decide (0 <= n) && decide (n <= m)
def q1s (len cap:Nat) (lo hi:Option AV):Bool:=
 (match hi with
  | none=>true
  | some (.int _ n)=>leB n cap
  | _=>false) &&
 (match lo with
  | none=>true
  | some (.int _ n)=>leB n (qj3 len hi)
  | _=>false)
theorem qiC {len cap:Nat} {lo hi:Option AV} (h:q1s len cap lo hi = true):qec len cap lo hi = some (qLu lo,qj3 len hi):=by
 simp only [q1s,Bool.and_eq_true] at h
 obtain ⟨h1,h2⟩:=h
 have e1:qEV len cap hi = some (qj3 len hi):=by
  cases hi with
  | none=>rfl
  | some v=>cases v <;> simp_all [leB,qEV,qj3]
 simp only [qec,e1]
 cases lo with
 | none=>rfl
 | some v=>cases v <;> simp_all [leB,qZN,qLu]
def q1u {α:Type} (es:List α) (lo hi:Option AV):List α:=match lo,hi with
 | none,none=>es
 | none,some h=>es.take (qj3 es.length (some h))
 | some l,none=>es.drop (qLu (some l))
 | some l,some h=>(es.drop (qLu (some l))).take (qj3 es.length (some h) - qLu (some l))
theorem qIR {α:Type} (es:List α) (lo hi:Option AV):q1u es lo hi = (es.drop (qLu lo)).take (qj3 es.length hi - qLu lo):=by
 cases lo <;> cases hi
 ·simp [q1u,qLu,qj3]
 ·simp [q1u,qLu]
 ·rename_i v
  simp only [q1u]
  rw [show qj3 es.length none = es.length from rfl,List.take_of_length_le (by simp)]
 ·rfl
abbrev Alt:=Bool × (Res × qam × Bool)
def room (n bytes:Nat):Bool:=decide (n * bytes <= lim)
def leO (off n:Nat):Bool:=match off with
 | 0=>true
 | k + 1=>decide (k + 1 <= n)
theorem q3n {off n:Nat} (h:leO off n = true):off <= n:=by
 cases off
 ·omega
 ·exact of_decide_eq_true h
def q9B (h:qam) (sz:Nat):AV -> Option (Bool × List AV)
 | .nils _=>some (true,[])
 | .view sz' es=>some (decide (sz' = sz),es)
 | .own id off lo=>match qaf h id with
  | some (.arr sz' es _)=>match lo with
   | some len=>some (decide (sz' = sz) && decide (off + len <= es.length),qx6 es off (some len))
   | none=>some (decide (sz' = sz),qvV es off)
  | _=>none
 | _=>none
theorem q0d {h:qam} {sz:Nat} {v:AV} {es:List AV} (hs:q9B h sz v = some (true,es)):quu h sz v = some es:=by
 cases v <;> simp only [q9B,quu] at hs ⊢ <;> try (simp at hs; done)
 case nils=>simpa using hs
 case view sz' es'=>simp at hs; simp [hs]
 case own id off lo=>
  split at hs
  ·rename_i sz' es' fz hl
   rw [hl]
   cases lo with
   | none=>simp at hs; simp [hs]
   | some len=>simp at hs; simp [hs]
  ·cases hs
def qtv (h:qam) (nx sz bytes:Nat) (s:AV) (b:Bool) (src:List AV):List Alt:=
  match s with
  | .nils ⟨_,.non⟩=>[(decide (src.length = 0) && b,.ret s,h,true)]
  | .nils _=>[(decide (src.length = 0) && b,.ret s,h,true),(decide (src.length ≠ 0) && (b && room src.length bytes),.ret (.own nx 0 none),qbE h nx (.arr sz src false),true)]
  | .own id off lo=>match qaf h id with
    | some (.arr sz' es false)=>match lo with
      | none=>
        [(decide (src.length = 0) && (decide (sz' = sz) && b),.ret s,h,true),
         (decide (src.length ≠ 0) && (decide (sz' = sz) && (b && (leO off es.length && room (qgb es.length off none + src.length) bytes))),.ret (.own nx 0 none),qbE (qzX h id) nx (.arr sz (qvV es off ++ src) false),true)]
      | some len=>
        [(decide (src.length = 0) && (decide (sz' = sz) && b),.ret s,h,true),
         (decide (src.length ≠ 0) && (decide (sz' = sz) && (decide (off + len + src.length <= es.length) && b)),.ret (.own id off (some (len + src.length))),qbE h id (.arr sz (es.take (off + len) ++ src ++ es.drop (off + len + src.length)) false),true),
         (decide (src.length ≠ 0) && (decide (sz' = sz) && (decide (es.length < off + len + src.length) && (b && (decide (off + len <= es.length) && room (len + src.length) bytes)))),.ret (.own nx 0 none),qbE (qzX h id) nx (.arr sz (qx6 es off (some len) ++ src) false),true)]
    | _=>[]
  | .view _ _=>[(decide (src.length = 0) && b,.ret s,h,true)]
  | _=>[]
def ownB (num off:Nat) (lo:Option Nat) (i:Int):Bool:=match off,lo with
 | 0,none=>inB num i
 | _,_=>inB (qgb num off lo) i && decide (off + i.toNat < num)
theorem ownB_of {num off:Nat} {lo:Option Nat} {i:Int} (h:ownB num off lo i = true):0 <= i /\ i < qgb num off lo /\ off + i.toNat < num:=by
 unfold ownB at h
 split at h
 ·simp only [inB,Bool.and_eq_true,decide_eq_true_eq] at h
  exact ⟨h.1,h.2,by omega⟩
 ·simp only [inB,Bool.and_eq_true,decide_eq_true_eq] at h
  exact ⟨h.1.1,h.1.2,h.2⟩
def q7r (num off:Nat) (lo:Option Nat) (hi:Option AV):Bool:=match off,lo,hi with
 | 0,none,none=>true
 | _,_,_=>decide (off + qj3 (qgb num off lo) hi <= num)
theorem qZw {num off:Nat} {lo:Option Nat} {hi:Option AV} (h:q7r num off lo hi = true):off + qj3 (qgb num off lo) hi <= num:=by
 unfold q7r at h
 split at h
 ·simp [qj3,qgb]
 ·exact of_decide_eq_true h
def q3v (ks:Key) (m:List (AV × AV)) (k v:AV):List (AV × AV):=(qFm ks m k v).getD []
def q3t (ks:Key) (m:List (AV × AV)) (k:AV):List (AV × AV):=(qRQ ks m k).getD []
def q3u (ks:Key) (m:List (AV × AV)) (k v:AV):Bool:=isKey ks k && (qFm ks m k v).isSome
def q3s (ks:Key) (m:List (AV × AV)) (k:AV):Bool:=isKey ks k && (qRQ ks m k).isSome
def alts (nx:Nat) (ev:Opd -> AV) (h:qam):IOp -> List Alt
 | .idxs x i=>match ev x,ev i with
  | .str s,.int _ j=>[(inB s.length j,.ret (.int .u8 (qaO s j)),h,false)]
  | _,_=>[]
 | .slc sz x lo hi=>match ev x with
  | .view sz' es=>[(decide (sz' = sz) && q1s es.length es.length (qa6 ev lo) (qa6 ev hi),.ret (.view sz (q1u es (qa6 ev lo) (qa6 ev hi))),h,false)]
  | .own id off len=>match qaf h id with
   | some (.arr sz' es _)=>[(decide (sz' = sz) && (q1s (qgb es.length off len) (qgb es.length off none) (qa6 ev lo) (qa6 ev hi) && q7r es.length off len (qa6 ev hi)),
     .ret (.own id (off + qLu (qa6 ev lo)) (q5q len hi (qj3 (qgb es.length off len) (qa6 ev hi) - qLu (qa6 ev lo)))),h,false)]
   | _=>[]
  | .nils z=>[(q1s 0 0 (qa6 ev lo) (qa6 ev hi),.ret (.nils z),h,false)]
  | _=>[]
 | .slcs x lo hi=>match ev x with
  | .str s=>[(q1s s.length s.length (qa6 ev lo) (qa6 ev hi),.ret (.str (q1u s (qa6 ev lo) (qa6 ev hi))),h,false)]
  | _=>[]
 | .slc3 x lo hi mx=>match ev lo,ev hi,ev mx with
  | .int _ l,.int _ u,.int _ m=>match ev x with
   | .view _ es=>[(decide (0 <= l) && decide (l <= u) && decide (u <= m) && decide (m <= es.length),.ret .junk,h,false)]
   | .own id off _=>match qaf h id with
    | some (.arr _ es _)=>[(decide (0 <= l) && decide (l <= u) && decide (u <= m) && decide (m <= ((es.length - off:Nat):Int)),.ret .junk,h,false)]
    | _=>[]
   | _=>[]
  | _,_,_=>[]
 | .iaddr sz _ x i=>match ev x,ev i with
  | .own id off len,.int _ i=>match qaf h id with
   | some (.arr sz' es _)=>[(decide (sz' = sz) && ownB es.length off len i,.ret (.ref id (q5u off i) 0),h,false)]
   | _=>[]
  | _,_=>[]
 | .eqn k neg x y=>match k,ev x,ev y with
  | .s,.view _ es,.nils ⟨_,.nil⟩=>[(decide (es.length ≠ 0),.ret (.bool neg),h,false)]
  | .s,.nils ⟨_,.nil⟩,.view _ es=>[(decide (es.length ≠ 0),.ret (.bool neg),h,false)]
  | _,_,_=>[]
 | .app sz bytes s x=>match q9B h sz (ev x) with
  | some (b,src)=>qtv h nx sz bytes (ev s) b src
  | none=>[]
 | .clr sz z x=>match ev x with
  | .own id off lo=>match qaf h id with
   | some (.arr sz' es false)=>[(decide (sz' = sz) && decide (off + qgb es.length off lo <= es.length),.ret unit,qbE h id (.arr sz (es.take off ++ List.replicate (qgb es.length off lo) (nz z) ++ es.drop (off + qgb es.length off lo)) false),true)]
   | _=>[]
  | _=>[]
 | .mks sz bytes z l c=>match ev l,ev c with
  | .int _ l',.int _ c'=>[(decide (0 <= l') && decide (l' <= c') && room c'.toNat bytes && decide (c' <= 4611686018427387904),.ret (.own nx 0 (if qR2 l c then none else some l'.toNat)),qbE h nx (.arr sz (List.replicate c'.toNat (nz z)) false),false)]
  | _,_=>[]
 | .mupd ks m k v=>match ev m with
  | .mref id=>match idsA (ev k),idsA (ev v),qaf h id with
   | [],[],some (.mp kvs)=>[(q3u ks kvs (ev k) (nz (ev v)),.ret unit,qbE h id (.mp (q3v ks kvs (ev k) (nz (ev v)))),true)]
   | _,_,_=>[]
  | _=>[]
 | .mdel ks m k=>match ev m with
  | .mref id=>match qaf h id with
   | some (.mp kvs)=>[(q3s ks kvs (ev k),.ret unit,qbE h id (.mp (q3t ks kvs (ev k))),true)]
   | _=>[]
  | _=>[]
 | .bin .quo x y=>match ev x,ev y with
  | .int k a,.int k' b=>[(decide (k = k') && decide (b ≠ 0),.ret (.int k (k.wrap (a.tdiv b))),h,false)]
  | _,_=>[]
 | .bin .rem x y=>match ev x,ev y with
  | .int k a,.int k' b=>[(decide (k = k') && decide (b ≠ 0),.ret (.int k (a.tmod b)),h,false)]
  | _,_=>[]
 | .bin .shl x y=>match ev x,ev y with
  | .int k a,.int _ b=>[(decide (0 <= b),.ret (.int k (k.wrap (a * 2 ^ (min b.toNat k.bits)))),h,false)]
  | _,_=>[]
 | .bin .shr x y=>match ev x,ev y with
  | .int k a,.int _ b=>[(decide (0 <= b),.ret (.int k (a.fdiv (2 ^ (min b.toNat k.bits)))),h,false)]
  | _,_=>[]
 | .bin .add x y=>match ev x,ev y with
  | .str a,.str b=>[(decide (a.length + b.length <= 4611686018427387904),.ret (.str (a ++ b)),h,false)]
  | _,_=>[]
 | _=>[]
theorem qCM {h:qam} {nx sz bytes:Nat} {s:AV} {src:List AV} {b:Bool} {r:Res × qam × Bool} (hm:(true,r) ∈ qtv h nx sz bytes s b src):b = true /\ ∃ v h',qCL h nx sz bytes s src = some (v,h') /\ r = (.ret v,h',true):=by
 cases s <;> simp only [qtv] at hm <;> try (simp at hm; done)
 case nils q=>
  obtain ⟨q,k⟩:=q
  cases k <;> simp only [qtv] at hm
  case non=>
   simp only [List.mem_cons,Prod.mk.injEq,List.not_mem_nil,or_false] at hm
   obtain ⟨hb,rfl⟩:=hm
   simp only [eq_comm (a:=true),Bool.and_eq_true,decide_eq_true_eq] at hb
   exact ⟨hb.2,_,_,by simp [qCL,hb.1],rfl⟩
  all_goals
   simp only [List.mem_cons,Prod.mk.injEq,List.not_mem_nil,or_false] at hm
   rcases hm with ⟨hb,rfl⟩ | ⟨hb,rfl⟩ <;> simp only [eq_comm (a:=true),Bool.and_eq_true,decide_eq_true_eq,room] at hb
   ·exact ⟨hb.2,_,_,by simp [qCL,hb.1],rfl⟩
   ·obtain ⟨h1,h0,h2⟩:=hb
    exact ⟨h0,_,_,by simp only [qCL]; rw [if_neg h1,if_pos h2],rfl⟩
 case view sz' es=>
  simp only [List.mem_cons,Prod.mk.injEq,List.not_mem_nil,or_false] at hm
  obtain ⟨hb,rfl⟩:=hm
  simp only [eq_comm (a:=true),Bool.and_eq_true,decide_eq_true_eq] at hb
  exact ⟨hb.2,_,_,by simp only [qCL]; rw [if_pos hb.1],rfl⟩
 case own id off lo=>
  split at hm
  ·rename_i sz' es hl
   cases lo with
   | none=>
    simp only [List.mem_cons,Prod.mk.injEq,List.not_mem_nil,or_false] at hm
    rcases hm with ⟨hb,rfl⟩ | ⟨hb,rfl⟩ <;> simp only [eq_comm (a:=true),Bool.and_eq_true,decide_eq_true_eq,room] at hb
    ·obtain ⟨h3,h1,h0⟩:=hb
     exact ⟨h0,_,_,by simp only [qCL,hl]; rw [if_pos h1,if_pos h3],rfl⟩
    ·obtain ⟨h3,h1,h0,h2,h5⟩:=hb
     exact ⟨h0,_,_,by simp only [qCL,hl]; rw [if_pos h1,if_neg h3,if_pos ⟨q3n h2,h5⟩],rfl⟩
   | some len=>
    simp only [List.mem_cons,Prod.mk.injEq,List.not_mem_nil,or_false] at hm
    rcases hm with ⟨hb,rfl⟩ | ⟨hb,rfl⟩ | ⟨hb,rfl⟩ <;> simp only [eq_comm (a:=true),Bool.and_eq_true,decide_eq_true_eq,room] at hb
    ·obtain ⟨h3,h1,h0⟩:=hb
     exact ⟨h0,_,_,by simp only [qCL,hl]; rw [if_pos h1,if_pos h3],rfl⟩
    ·obtain ⟨h3,h1,h4,h0⟩:=hb
     exact ⟨h0,_,_,by simp only [qCL,hl]; rw [if_pos h1,if_neg h3,if_pos (by omega),if_pos h4],rfl⟩
    ·obtain ⟨h3,h1,h4,h0,h2,h5⟩:=hb
     exact ⟨h0,_,_,by simp only [qCL,hl]; rw [if_pos h1,if_neg h3,if_pos h2,if_neg (by omega),if_pos h5],rfl⟩
  ·simp at hm
theorem qXw {P:Prog} {call:qa5} {nx:Nat} {ev:Opd -> AV} {h:qam} {io:IOp} {r:Res × qam × Bool} (hm:(true,r) ∈ alts nx ev h io):opS P call nx ev h io = some r:=by
 cases io <;> simp only [alts] at hm <;> try (simp at hm; done)
 case idxs x i=>
  split at hm
  ·rename_i s k j hx hi
   simp only [List.mem_cons,Prod.mk.injEq,List.not_mem_nil,or_false] at hm
   obtain ⟨hb,rfl⟩:=hm
   obtain ⟨c,hc⟩:=qIK hb.symm
   simp [opS,hx,hi,hc,qaO,val]
  ·simp at hm
 case slc sz x lo hi=>
  split at hm
  ·rename_i sz' es hx
   simp only [List.mem_cons,Prod.mk.injEq,List.not_mem_nil,or_false] at hm
   obtain ⟨hb,rfl⟩:=hm
   simp only [eq_comm (a:=true),Bool.and_eq_true,decide_eq_true_eq] at hb
   simp [opS,hx,qiC hb.2,hb.1,val,qIR]
  ·rename_i id off len hx
   split at hm
   ·rename_i sz' es fz hl
    simp only [List.mem_cons,Prod.mk.injEq,List.not_mem_nil,or_false] at hm
    obtain ⟨hb,rfl⟩:=hm
    simp only [eq_comm (a:=true),Bool.and_eq_true,decide_eq_true_eq] at hb
    obtain ⟨h1,h2,h3⟩:=hb
    rw [qcZ] at h2
    simp [opS,hx,hl,qiC h2,h1,qZw h3,val]
   ·simp at hm
  ·rename_i z hx
   simp only [List.mem_cons,Prod.mk.injEq,List.not_mem_nil,or_false] at hm
   obtain ⟨hb,rfl⟩:=hm
   simp [opS,hx,qiC hb.symm,val]
  ·simp at hm
 case slcs x lo hi=>
  split at hm
  ·rename_i s hx
   simp only [List.mem_cons,Prod.mk.injEq,List.not_mem_nil,or_false] at hm
   obtain ⟨hb,rfl⟩:=hm
   simp [opS,hx,qiC hb.symm,val,qIR]
  ·simp at hm
 case slc3 x lo hi mx=>
  split at hm
  ·rename_i k1 l k2 u k3 m h1 h2 h3
   split at hm
   ·rename_i sz es hx
    simp only [List.mem_cons,Prod.mk.injEq,List.not_mem_nil,or_false] at hm
    obtain ⟨hb,rfl⟩:=hm
    simp only [eq_comm (a:=true),Bool.and_eq_true,decide_eq_true_eq] at hb
    simp [opS,h1,h2,h3,hx,hb,val]
   ·rename_i id off len hx
    split at hm
    ·rename_i sz es fz hl
     simp only [List.mem_cons,Prod.mk.injEq,List.not_mem_nil,or_false] at hm
     obtain ⟨hb,rfl⟩:=hm
     simp only [eq_comm (a:=true),Bool.and_eq_true,decide_eq_true_eq] at hb
     simp only [opS,h1,h2,h3,hx,hl]
     rw [if_pos ⟨hb.1.1.1,hb.1.1.2,hb.1.2⟩,if_pos hb.2]; rfl
    ·simp at hm
   ·simp at hm
  ·simp at hm
 case iaddr sz ks x i=>
  split at hm
  ·rename_i id off len k j hx hi
   split at hm
   ·rename_i sz' es fz hl
    simp only [List.mem_cons,Prod.mk.injEq,List.not_mem_nil,or_false] at hm
    obtain ⟨hb,rfl⟩:=hm
    simp only [eq_comm (a:=true),Bool.and_eq_true,decide_eq_true_eq] at hb
    obtain ⟨h1,h2,h3⟩:=ownB_of hb.2
    simp [opS,hx,hi,hl,hb.1,h1,h2,h3,val]
   ·simp at hm
  ·simp at hm
 case eqn k neg x y=>
  split at hm
  ·rename_i h1 h2
   simp only [List.mem_cons,Prod.mk.injEq,List.not_mem_nil,or_false] at hm
   obtain ⟨hb,rfl⟩:=hm
   simp only [eq_comm (a:=true),decide_eq_true_eq] at hb
   simp only [opS,h1,h2,qdd,if_neg hb]
   cases neg <;> simp [val]
  ·rename_i h1 h2
   simp only [List.mem_cons,Prod.mk.injEq,List.not_mem_nil,or_false] at hm
   obtain ⟨hb,rfl⟩:=hm
   simp only [eq_comm (a:=true),decide_eq_true_eq] at hb
   simp only [opS,h1,h2,qdd,if_neg hb]
   cases neg <;> simp [val]
  ·simp at hm
 case app sz bytes s x=>
  split at hm
  ·rename_i b src hs
   obtain ⟨rfl,v,h',h1,rfl⟩:=qCM hm
   simp only [opS,q0d hs,h1]
  ·simp at hm
 case clr sz z x=>
  split at hm
  ·rename_i id off len hx
   split at hm
   ·rename_i sz' es hl
    simp only [List.mem_cons,Prod.mk.injEq,List.not_mem_nil,or_false] at hm
    obtain ⟨hb,rfl⟩:=hm
    simp only [eq_comm (a:=true),Bool.and_eq_true,decide_eq_true_eq] at hb
    simp [opS,hx,hl,hb]
   ·simp at hm
  ·simp at hm
 case mks sz bytes z l c=>
  split at hm
  ·rename_i k1 l' k2 c' h1 h2
   simp only [List.mem_cons,Prod.mk.injEq,List.not_mem_nil,or_false] at hm
   obtain ⟨hb,rfl⟩:=hm
   simp only [eq_comm (a:=true),Bool.and_eq_true,decide_eq_true_eq,room] at hb
   simp [opS,h1,h2,hb]
  ·simp at hm
 case mupd ks m k v=>
  split at hm
  ·rename_i id hx
   split at hm
   ·rename_i kvs h1 h2 h3
    simp only [List.mem_cons,Prod.mk.injEq,List.not_mem_nil,or_false] at hm
    obtain ⟨hb,rfl⟩:=hm
    simp only [eq_comm (a:=true),q3u,Bool.and_eq_true] at hb
    obtain ⟨kvs',hk⟩:=Option.isSome_iff_exists.1 hb.2
    simp [opS,hx,h1,h2,h3,hb.1,hk,q3v]
   ·simp at hm
  ·simp at hm
 case mdel ks m k=>
  split at hm
  ·rename_i id hx
   split at hm
   ·rename_i kvs h3
    simp only [List.mem_cons,Prod.mk.injEq,List.not_mem_nil,or_false] at hm
    obtain ⟨hb,rfl⟩:=hm
    simp only [eq_comm (a:=true),q3s,Bool.and_eq_true] at hb
    obtain ⟨kvs',hk⟩:=Option.isSome_iff_exists.1 hb.2
    simp [opS,hx,h3,hb.1,hk,q3t]
   ·simp at hm
  ·simp at hm
 case bin op x y=>
  cases op <;> simp only [alts] at hm <;> try (simp at hm; done)
  all_goals
   split at hm
   ·rename_i h1 h2
    simp only [List.mem_cons,Prod.mk.injEq,List.not_mem_nil,or_false] at hm
    obtain ⟨hb,rfl⟩:=hm
    simp only [eq_comm (a:=true),Bool.and_eq_true,decide_eq_true_eq] at hb
    simp [opS,h1,h2,q5l,q61,q62,hb,qyj]
   ·simp at hm
def qp1 (h:qam):Nat -> AV -> AV
 | 0,v=>v
 | n + 1,v=>match v with
  | .nils q=>.view q.sz []
  | .own id off lo=>match qaf h id with
   | some (.arr sz es _)=>.view sz (qx6 es off lo)
   | _=>.junk
  | .ref id _ off=>match qaf h id with
   | some (.box cs _)=>.ptr ((cs.map (qp1 h n)).drop off)
   | _=>.junk
  | .agg cs=>.agg (cs.map (qp1 h n))
  | .tup vs=>.tup (vs.map (qp1 h n))
  | .fn f cap=>.fn f (cap.map (qp1 h n))
  | .iface t v=>.iface t (qp1 h n v)
  | v=>v
def qlm (h:qam):Nat -> AV -> Bool
 | 0,_=>false
 | n + 1,v=>match v with
  | .own id off lo=>match qaf h id with
   | some (.arr _ es _)=>match lo with
    | some len=>decide (off + len <= es.length)
    | none=>true
   | _=>false
  | .ref id idx off=>match qaf h id with
   | some (.box cs _)=>decide (idx = 0 /\ off <= cs.length /\ qaK cs = true) && cs.all (qlm h n)
   | _=>false
  | .mref _=>false
  | .agg cs=>cs.all (qlm h n)
  | .tup vs=>vs.all (qlm h n)
  | .fn _ cap=>cap.all (qlm h n)
  | .iface _ v=>qlm h n v
  | _=>true
theorem qp2 {h:qam}:∀ (n:Nat) (v:AV),qlm h n v = true -> snap h n v = some (qp1 h n v)
 | 0,v,hb=>by simp [qlm] at hb
 | n + 1,v,hb=>by
  have hl:∀ vs:List AV,vs.all (qlm h n) = true -> qga (snap h n) vs = some (vs.map (qp1 h n)):=by
   intro vs
   induction vs with
   | nil=>intro _; rfl
   | cons v vs ih=>
    intro hb
    simp only [List.all_cons,Bool.and_eq_true] at hb
    simp only [qga,List.map_cons,qp2 n v hb.1,ih hb.2]
  cases v <;> simp only [qlm,snap,qp1] at hb ⊢
  case own id off lo=>
   split at hb
   ·rename_i hk
    simp only [hk]
    cases lo with
    | some len=>simp only at hb ⊢; rw [if_pos (of_decide_eq_true hb)]
    | none=>rfl
   ·cases hb
  case ref id idx off=>
   split at hb
   ·rename_i hk
    simp only [Bool.and_eq_true] at hb
    simp only [hk]
    rw [if_pos (of_decide_eq_true hb.1),hl _ hb.2]; rfl
   ·cases hb
  case mref=>cases hb
  case agg cs=>rw [hl _ hb]; rfl
  case tup cs=>rw [hl _ hb]; rfl
  case fn f cs=>rw [hl _ hb]; rfl
  case iface t v=>rw [qp2 n v hb]; rfl
end Go.Eng
namespace Go.Eng
def br {R:Type} (b:Bool) (x y:R):R:=match b with
 | true=>x
 | false=>y
theorem qft {R:Type} {b:Bool} {x:Option R} {r:R} (h:br b x none = some r):b = true /\ x = some r:=by
 cases b with
 | true=>exact ⟨rfl,h⟩
 | false=>cases h
def q1H:Env -> Nat -> AV -> Env
 | [],_,_=>[]
 | (j,v) :: e,t,u=>if t = j then (j,u) :: e else (j,v) :: q1H e t u
theorem qya:∀ {e:Env} {t:Nat} {v:AV},qb4 e t = v -> v ≠ .junk -> q1H e t v = e
 | [],t,v,h,hj=>rfl
 | (j,u) :: e,t,v,h,hj=>by
  simp only [qb4] at h
  simp only [q1H]
  split
  ·rename_i he; rw [if_pos he] at h; rw [h]
  ·rename_i he; rw [if_neg he] at h; rw [qya h hj]
section
variable {R:Type}
abbrev qhE (R:Type):=Nat -> List AV -> qam -> (Res -> qam -> Option R) -> Option R
abbrev qCG (R:Type):=List Nat -> ICode -> St -> (X -> St -> Option R) -> Option R
def intOf:AV -> Int
 | .int _ n=>n
 | _=>0
def qVe:AV -> Bool
 | .bool b=>b
 | _=>false
def strOf:AV -> List UInt8
 | .str s=>s
 | _=>[]
def qaq:AV -> List AV
 | .view _ es=>es
 | _=>[]
def q3P:AV -> List AV
 | .ptr cs=>cs
 | _=>[]
def qVw:AV -> Bool
 | .nilp=>true
 | _=>false
def okC:CS -> AV -> Bool
 | .int k,.int k' _=>decide (k' = k)
 | .bool,.bool _=>true
 | .str,.str _=>true
 | .slice k,.view sz _=>decide (sz = k)
 | .ptr _,.nilp=>true
 | .ptr _,.ptr _=>true
 | _,_=>false
def qiV:List CS -> List AV -> Bool
 | [],[]=>true
 | c :: cs,x :: xs=>okC c x && qiV cs xs
 | _,_=>false
def qaD (ks:List CS) (es:List AV) (i:Int):Bool:=match qd5 es i with
 | some e=>qiV ks (qad e)
 | none=>false
def cellAt (es:List AV) (i:Int) (j:Nat):AV:=(qad ((qd5 es i).getD .junk))[j]?.getD .junk
def qRX (c:CS) (x:AV) (K:AV -> Option R):Option R:=match c with
 | .int k=>K (.int k (intOf x))
 | .bool=>K (.bool (qVe x))
 | .str=>K (.str (strOf x))
 | .slice k=>K (.view k (qaq x))
 | .ptr _=>br (qVw x) (K .nilp) (K (.ptr (q3P x)))
def qsK (es:List AV) (i:Int):Nat -> List CS -> (List AV -> Option R) -> Option R
 | _,[],K=>K []
 | j,c :: cs,K=>qRX c (cellAt es i j) fun x=>qsK es i (j + 1) cs fun r=>K (x :: r)
theorem qCi {c:CS} {x:AV} (h:okC c x = true) {K:AV -> Option R}:qRX c x K = K x:=by
 cases c <;> cases x <;> simp_all [okC,qRX,intOf,qVe,strOf,qVw,qaq,q3P,br]
theorem qpk {es:List AV} {i:Int} {e:AV} (he:qd5 es i = some e):∀ (ks:List CS) (j:Nat) {K:List AV -> Option R},qiV ks ((qad e).drop j) = true -> qsK es i j ks K = K ((qad e).drop j)
 | [],j,K,h=>by
  cases hd:(qad e).drop j with
  | nil=>rfl
  | cons=>rw [hd] at h; simp [qiV] at h
 | c :: cs,j,K,h=>by
  cases hd:(qad e).drop j with
  | nil=>rw [hd] at h; simp [qiV] at h
  | cons x xs=>
   rw [hd] at h
   simp only [qiV,Bool.and_eq_true] at h
   have hx:cellAt es i j = x:=by
    have h0:=congrArg (·[0]?) hd
    simp only [List.getElem?_drop,Nat.add_zero,List.getElem?_cons_zero] at h0
    simp [cellAt,he,h0]
   have hxs:(qad e).drop (j + 1) = xs:=by
    have h0:=congrArg (List.drop 1) hd
    simpa using h0
   simp only [qsK,hx,qCi h.1]
   have:=qpk he cs (j + 1) (K:=fun r=>K (x :: r)) (by rw [hxs]; exact h.2)
   rw [this,hxs]
def qsM (h:qam) (all:Bool):List AV -> (List AV -> List Nat -> Option R) -> Option R
 | [],K=>K [] []
 | v :: vs,K=>if qVx v || all then qsM h all vs fun vs b=>K (v :: vs) ([] ++ b) else match idsA v with
  | []=>qsM h all vs fun vs b=>K (nz v :: vs) ([] ++ b)
  | ids=>br (qlm h qdb v) (qsM h all vs fun vs b=>K (qp1 h qdb v :: vs) (ids ++ b)) none
theorem qeh {h:qam} {all:Bool} {ρ:R}:∀ {vs:List AV} {K:List AV -> List Nat -> Option R},qsM h all vs K = some ρ -> ∃ a b,quj h all vs = some (a,b) /\ K a b = some ρ
 | [],K,hs=>⟨_,_,rfl,hs⟩
 | v :: vs,K,hs=>by
  simp only [qsM] at hs
  split at hs
  ·rename_i hc
   obtain ⟨a,b,h1,h2⟩:=qeh hs
   exact ⟨_,_,by simp only [quj,q1A,hc,if_true,h1],h2⟩
  ·rename_i hc
   split at hs
   ·rename_i hi
    obtain ⟨a,b,h1,h2⟩:=qeh hs
    refine ⟨_,_,?_,h2⟩
    simp only [quj,q1A,h1]
    rw [if_neg hc,hi]
   ·rename_i ids hi
    obtain ⟨hb,hs⟩:=qft hs
    obtain ⟨a,b,h1,h2⟩:=qeh hs
    refine ⟨_,_,?_,h2⟩
    simp only [quj,q1A,h1,if_neg hc,qp2 _ _ hb]
def qvS (P:Prog) (cK:qhE R) (h:qam) (nx f:Nat) (args:List AV) (K:Res × qam × Bool -> Option R):Option R:=
 qsM h (P.mv f) args fun args' roots=>
  match qbq qdb h (idsA.idsL args') [],qbq qdb h roots [] with
  | some moved,some shown=>
   if qQP moved shown then
    cK f (ren.renL (place moved) args') (qgB (place moved) (sub h moved)) fun r h'=>
     if h'.all (fun p=>decide (p.1 < moved.length + 16)) then
      let touched:=!shown.isEmpty && (shows (qR0 r) || !h'.isEmpty)
      let old:=qaP h moved
      K (qVG (ren (back moved nx)) r,qgB (back moved nx) h' ++ (if touched then freeze old shown else old),!moved.isEmpty || touched)
     else none
   else none
  | _,_=>none
def qLJ:qa5:=fun _ _ _=>none
def q9J (K:Res × qam × Bool -> Option R):List Alt -> Option R
 | []=>none
 | (b,r) :: l=>br b (K r) (q9J K l)
def qjB (P:Prog) (nx:Nat) (ev:Opd -> AV) (h:qam) (io:IOp) (K:Res × qam × Bool -> Option R):Option R:=
 match alts nx ev h io with
 | []=>match opS P qLJ nx ev h io with
  | some r=>K r
  | none=>none
 | l=>q9J K l
def okE (ag:Bool) (ks:List CS) (es:List AV) (i:Int):Bool:=match qd5 es i with
 | some (.agg cs)=>ag && qiV ks cs
 | some e=>!ag && qiV ks [e]
 | none=>false
def qyT (ag:Bool) (cs:List AV):AV:=match ag,cs with
 | true,cs=>.agg cs
 | false,[v]=>v
 | false,_=>.junk
theorem q3J {ag:Bool} {ks:List CS} {es:List AV} {i:Int} (h:okE ag ks es i = true):∃ e,qd5 es i = some e /\ qiV ks (qad e) = true /\ ∀ cs,elemOf e cs = qyT ag cs:=by
 simp only [okE] at h
 split at h
 ·rename_i cs he
  simp only [Bool.and_eq_true] at h
  exact ⟨_,he,h.2,fun cs'=>by simp [elemOf,qyT,h.1]⟩
 ·rename_i e hne he
  simp only [Bool.and_eq_true,Bool.not_eq_true'] at h
  have hc:qad e = [e]:=by cases e <;> first | rfl | exact absurd rfl (hne _)
  refine ⟨_,he,by rw [hc]; exact h.2,fun cs'=>?_⟩
  rw [h.1]
  cases e <;> first | exact absurd rfl (hne _) | (rcases cs' with _ | ⟨v,_ | ⟨w,vs⟩⟩ <;> rfl)
 ·cases h
def csZ:AV -> Option CS
 | .int k _=>some (.int k)
 | .bool _=>some .bool
 | .str _=>some .str
 | .nils q=>some (.slice q.sz)
 | .view k _=>some (.slice k)
 | _=>none
def zaY:List AV -> Option (List CS)
 | []=>some []
 | v :: vs=>match csZ v,zaY vs with
  | some c,some cs=>some (c :: cs)
  | _,_=>none
def ksZ:AV -> Option (Bool × List CS)
 | .agg cs=>(zaY cs).map fun ks=>(true,ks)
 | v=>(csZ v).map fun k=>(false,[k])
def qcO (ks:Key) (m:List (AV × AV)) (k:AV):AV:=match qpf ks m k with
 | some (some v)=>v
 | _=>.junk
def qrj (ks:Key) (m:List (AV × AV)) (k:AV):Bool:=isKey ks k && match qpf ks m k with
 | some (some _)=>true
 | _=>false
def qsG (ks:Key) (m:List (AV × AV)) (k:AV):Bool:=isKey ks k && match qpf ks m k with
 | some none=>true
 | _=>false
def qjy (es:List AV) (i j:Nat):AV:=(qad (es[i]?.getD .junk))[j]?.getD .junk
def okP (ks:List CS) (es:List AV) (i off:Nat):Bool:=match es[i]? with
 | some e=>qiV ks (((qad e).drop off).take ks.length)
 | none=>false
def qLT (es:List AV) (i:Nat):Nat -> List CS -> (List AV -> Option R) -> Option R
 | _,[],K=>K []
 | j,c :: cs,K=>qRX c (qjy es i j) fun x=>qLT es i (j + 1) cs fun r=>K (x :: r)
theorem qCj {es:List AV} {i:Nat} {e:AV} (he:es[i]? = some e):∀ (ks:List CS) (j:Nat) {K:List AV -> Option R},qiV ks (((qad e).drop j).take ks.length) = true -> qLT es i j ks K = K (((qad e).drop j).take ks.length)
 | [],j,K,h=>by simp [qLT]
 | c :: cs,j,K,h=>by
  cases hd:(qad e).drop j with
  | nil=>rw [hd] at h; simp [qiV] at h
  | cons x xs=>
   rw [hd] at h
   simp only [List.length_cons,List.take_succ_cons,qiV,Bool.and_eq_true] at h
   have hx:qjy es i j = x:=by
    have h0:=congrArg (·[0]?) hd
    simp only [List.getElem?_drop,Nat.add_zero,List.getElem?_cons_zero] at h0
    simp [qjy,he,h0]
   have hxs:(qad e).drop (j + 1) = xs:=by
    have h0:=congrArg (List.drop 1) hd
    simpa using h0
   simp only [qLT,hx,qCi h.1,List.length_cons,List.take_succ_cons]
   have:=qCj he cs (j + 1) (K:=fun r=>K (x :: r)) (by rw [hxs]; exact h.2)
   rw [this,hxs]
theorem qCh:∀ {ks:List CS} {xs:List AV},qiV ks xs = true -> xs.length = ks.length
 | [],[],_=>rfl
 | [],_ :: _,h=>by simp [qiV] at h
 | _ :: _,[],h=>by simp [qiV] at h
 | k :: ks,x :: xs,h=>by
  simp only [qiV,Bool.and_eq_true] at h
  simp [qCh h.2]
def q1C (es:List AV) (i off:Nat) (vs:List AV):List AV:=match es[i]? with
 | some e=>es.set i (elemOf e (splice (qad e) off vs))
 | none=>es
def okS (es:List AV) (i off n:Nat):Bool:=match es[i]? with
 | some e=>decide (off + n <= (qad e).length)
 | none=>false
def qPv (h:qam) (v:AV) (K:AV -> qam -> Option R):Option R:=match idsA v with
 | []=>K (nz v) h
 | ids=>match qbq qdb h ids [] with
  | some r=>br (qlm h qdb v) (K (qp1 h qdb v) (freeze h r)) none
  | none=>none
theorem qx4 {h:qam} {v:AV} {K:AV -> qam -> Option R} {ρ:R} (hs:qPv h v K = some ρ):∃ v' h',still h v = some (v',h') /\ K v' h' = some ρ:=by
 simp only [qPv] at hs
 split at hs
 ·rename_i hi
  exact ⟨_,_,by simp only [still,hi],hs⟩
 ·rename_i ids hi
  split at hs
  ·rename_i r hr
   obtain ⟨hb,hs⟩:=qft hs
   refine ⟨_,_,?_,hs⟩
   cases hq:idsA v with
   | nil=>exact absurd hq hi
   | cons i is=>
    rw [hq] at hr
    simp only [still,hq,qp2 _ _ hb,hr]
  ·cases hs
def q3l (agg:Bool) (sz:Nat) (cs:List AV) (j:Int) (h:qam) (K:Res × qam × Bool -> Option R):Nat -> Nat -> Option R
 | 0,_=>none
 | r + 1,k=>br (decide (j = Int.ofNat k)) (if k * sz <= cs.length then match part agg sz (cs.drop (k * sz)) with
   | some v=>K (.ret v,h,false)
   | none=>none else none) (q3l agg sz cs j h K r (k + 1))
def q3o (F:Nat -> Option R) (j:Int):Nat -> Nat -> Option R
 | 0,_=>none
 | r + 1,k=>br (decide (j = Int.ofNat k)) (F k) (q3o F j r (k + 1))
def zaW (sz:Nat) (v:AV) (h:qam) (K:Res × qam × Bool -> Option R) (k:Nat):Option R:=match v with
 | .ptr cs=>if k * sz <= cs.length then K (.ret (.ptr (cs.drop (k * sz))),h,false) else none
 | .ref id idx o=>K (.ret (.ref id idx (o + k * sz)),h,false)
 | _=>none
def opK (P:Prog) (cK:qhE R) (nx:Nat) (ev:Opd -> AV) (h:qam) (io:IOp) (K:Res × qam × Bool -> Option R):Option R:=
 match io with
 | .iaddr sz ks x i=>match ks,ev x,ev i with
  | _ :: _,.view sz' es,.int _ j=>if sz' = sz then br (qaD ks es j) (qsK es j 0 ks fun cs=>K (.ret (.ptr cs),h,false)) none else none
  | _,_,_=>qjB P nx ev h (.iaddr sz ks x i) K
 | .load agg n ks x=>match ev x with
  | .ref id idx off=>match qaf h id with
   | some (.arr _ es _)=>if ks.length = n /\ 0 < n /\ (agg = true \/ n = 1) then
     br (okP ks es idx off) (qLT es idx off ks fun cs=>K (.ret (if agg then .agg cs else cs.headD .junk),h,false)) none
    else none
   | _=>qjB P nx ev h (.load agg n ks x) K
  | _=>qjB P nx ev h (.load agg n ks x) K
 | .store n x v=>match ev x with
  | .ref id idx off=>match qaf h id with
   | some (.arr _ es false)=>qPv h (ev v) fun v h=>match qaf h id with
    | some (.arr sz _ false)=>if (qad v).length = n /\ qaK (qad v) = true then
      br (okS es idx off n) (K (.ret unit,qbE h id (.arr sz (q1C es idx off (qad v)) false),true)) none
     else none
    | _=>none
   | _=>qjB P nx ev h (.store n x v) K
  | _=>qjB P nx ev h (.store n x v) K
 | .look ks z ok m k=>match ev m with
  | .mref id=>match qaf h id with
   | some (.mp kvs)=>match ksZ z with
    | some (ag,cs)=>br (qrj ks kvs (ev k)) (br (okE ag cs [qcO ks kvs (ev k)] 0) (qsK [qcO ks kvs (ev k)] 0 0 cs fun cs=>K (.ret (if ok then .tup [qyT ag cs,.bool true] else qyT ag cs),h,false)) none)
      (br (qsG ks kvs (ev k)) (K (.ret (if ok then .tup [z,.bool false] else z),h,false)) none)
    | none=>qjB P nx ev h (.look ks z ok m k) K
   | _=>qjB P nx ev h (.look ks z ok m k) K
  | _=>qjB P nx ev h (.look ks z ok m k) K
 | .pick c a b=>match ev c with
  | .bool t=>br t (K (.ret (ev a),h,false)) (K (.ret (ev b),h,false))
  | _=>none
 | .idxa agg n sz x i=>match ev x,ev i with
  | .agg cs,.int _ j=>if n <= 16 then q3l agg sz cs j h K n 0 else qjB P nx ev h (.idxa agg n sz x i) K
  | _,_=>none
 | .aaddr n sz x i=>match ev i with
  | .int _ j=>if n <= 16 then q3o (zaW sz (ev x) h K) j n 0 else qjB P nx ev h (.aaddr n sz x i) K
  | _=>none
 | .call f args=>qvS P cK h nx f (args.map ev) K
 | .callv fv args=>match ev fv with
  | .fn (.func f) cap=>qvS P cK h nx f (args.map ev ++ cap) K
  | _=>none
 | .invk tbl x args=>match ev x with
  | .iface t v=>match qAw tbl t with
   | some f=>qvS P cK h nx f (v :: args.map ev) K
   | none=>none
  | _=>none
 | io=>qjB P nx ev h io K
def q0I (e:Env) (g:Option (Nat × Bool)) (K:Env -> Bool -> Option R):Option R:=match g with
 | none=>K e true
 | some (t,want)=>match qb4 e t with
  | .bool b=>br b (K (q1H e t (.bool true)) want) (K (q1H e t (.bool false)) (!want))
  | .tup []=>K e false
  | _=>none
def qR6 (P:Prog) (cK:qhE R) (nx:Nat) (o:IOper) (e:Env) (h:qam) (K:Env -> Step -> Option R):Option R:=
 q0I e o.guard fun e b=>match b with
  | false=>K e .skip
  | true=>match qbq qdb h (qFJ e o.op) [] with
   | none=>none
   | some r=>opK P cK nx (qaE e) (sub h r) o.op fun x=>match x with
    | (.ret v,out,w)=>K e (.did r w v out)
    | (.pan v,out,_)=>K e (.pan r v out)
def sm {α:Type} (o:Option α):Bool:=match o with
 | some _=>true
 | none=>false
def gv {α:Type} [Inhabited α] (o:Option α):α:=match o with
 | some x=>x
 | none=>default
@[simp] theorem sm_some {α:Type} (x:α):sm (some x) = true:=rfl
@[simp] theorem sm_none {α:Type}:sm (none:Option α) = false:=rfl
@[simp] theorem gv_some {α:Type} [Inhabited α] (x:α):gv (some x) = x:=rfl
theorem qR4 {α:Type} [Inhabited α] {o:Option α} (h:sm o = true):o = some (gv o):=by cases o <;> first | rfl | cases h
def frcA:AV -> (AV -> Option R) -> Option R
 | .int k n,K=>K (.int k n)
 | .bool b,K=>K (.bool b)
 | .str s,K=>K (.str s)
 | .nilp,K=>K .nilp
 | .nilm,K=>K .nilm
 | .nilf,K=>K .nilf
 | .nili,K=>K .nili
 | .nils ⟨n,.nil⟩,K=>K (.nils ⟨n,.nil⟩)
 | .nils ⟨n,.any⟩,K=>K (.nils ⟨n,.any⟩)
 | .nils ⟨n,.non⟩,K=>K (.nils ⟨n,.non⟩)
 | .agg cs,K=>frcL cs fun cs=>K (.agg cs)
 | .tup cs,K=>frcL cs fun cs=>K (.tup cs)
 | .view n es,K=>K (.view n es)
 | .ptr cs,K=>frcL cs fun cs=>K (.ptr cs)
 | .own a b c,K=>K (.own a b c)
 | .ref a b c,K=>K (.ref a b c)
 | .mref a,K=>K (.mref a)
 | .fn f cs,K=>frcL cs fun cs=>K (.fn f cs)
 | .iface t v,K=>frcA v fun v=>K (.iface t v)
 | .junk,K=>K .junk
where frcL:List AV -> (List AV -> Option R) -> Option R
 | [],K=>K []
 | v :: vs,K=>frcA v fun v=>frcL vs fun vs=>K (v :: vs)
mutual
theorem qoG:∀ (v:AV) (K:AV -> Option R),frcA v K = K v
 | .nils ⟨_,k⟩,K=>by cases k <;> simp only [frcA]
 | .int ..,K | .bool ..,K | .str ..,K | .nilp,K | .nilm,K | .nilf,K | .nili,K | .view ..,K | .own ..,K | .ref ..,K | .mref _,K | .junk,K=>by simp only [frcA]
 | .agg cs,K=>by simp only [frcA]; exact qj2 cs _
 | .tup cs,K=>by simp only [frcA]; exact qj2 cs _
 | .ptr cs,K=>by simp only [frcA]; exact qj2 cs _
 | .fn f cs,K=>by simp only [frcA]; exact qj2 cs _
 | .iface t v,K=>by simp only [frcA]; exact qoG v _
theorem qj2:∀ (vs:List AV) (K:List AV -> Option R),frcA.frcL vs K = K vs
 | [],K=>by simp only [frcA.frcL]
 | v :: vs,K=>by simp only [frcA.frcL]; rw [qoG v]; exact qj2 vs _
end
def q7x:Blk -> (Blk -> Option R) -> Option R
 | .box cs true,K=>frcA.frcL cs fun cs=>K (.box cs true)
 | .box cs false,K=>frcA.frcL cs fun cs=>K (.box cs false)
 | .arr sz es true,K=>K (.arr sz es true)
 | .arr sz es false,K=>K (.arr sz es false)
 | .mp kvs,K=>K (.mp kvs)
theorem qZA (b:Blk) (K:Blk -> Option R):q7x b K = K b:=by
 cases b with
 | box cs fz=>cases fz <;> simp only [q7x] <;> exact qj2 _ _
 | arr sz es fz=>cases fz <;> rfl
 | mp kvs=>rfl
def q3d (n:Nat) (K:Nat -> Option R):Option R:=match n with
 | 0=>K 0
 | n + 1=>K (n + 1)
theorem qoI (n:Nat) (K:Nat -> Option R):q3d n K = K n:=by cases n <;> rfl
def q5s:qam -> (qam -> Option R) -> Option R
 | [],K=>K []
 | (i,b) :: h,K=>q3d i fun i=>q7x b fun b=>q5s h fun h=>K ((i,b) :: h)
theorem qJ0:∀ (h:qam) (K:qam -> Option R),q5s h K = K h
 | [],K=>rfl
 | (i,b) :: h,K=>by simp only [q5s]; rw [qoI,qZA]; exact qJ0 h _
def q1w:Env -> (Env -> Option R) -> Option R
 | [],K=>K []
 | (i,v) :: h,K=>q1w h fun h=>K ((i,v) :: h)
theorem qoH:∀ (h:Env) (K:Env -> Option R),q1w h K = K h
 | [],K=>rfl
 | (i,v) :: h,K=>by simp only [q1w]; exact qoH h _
def quk (P:Prog) (cK:qhE R):List IOper -> Env -> qam -> Nat -> (Env -> Option R) -> Option R
 | [],e,_,_,K=>K e
 | o :: ops,e,h,nx,K=>qR6 P cK nx o e h fun e s=>match s with
  | .skip=>quk P cK ops (qhq o (qa1 e o.dst .skip)) h (nx + 16) K
  | .did r w v out=>match w,out.all (fun p=>r.contains p.1) with
   | false,true=>frcA v fun v=>q3d (nx + 16) fun nx=>q1w (qhq o (qAl e o.dst v)) fun e=>quk P cK ops e h nx K
   | _,_=>none
  | .pan _ _ _=>none
def qsa (t:Nat):List IOper -> Option (List IOper × IOper × List IOper)
 | []=>none
 | o :: os=>match o.op with
  | .pick (.t c) _ _=>match Nat.beq c t with
   | true=>some ([],o,os)
   | false=>match qsa t os with
    | some (g,p,r)=>some (o :: g,p,r)
    | none=>none
  | _=>match qsa t os with
   | some (g,p,r)=>some (o :: g,p,r)
   | none=>none
def q7a:IOp -> Bool
 | .bslice .. | .app .. | .store .. | .mupd .. | .mdel .. | .clr .. | .alloc .. | .box .. | .mkm | .mks .. | .pan ..=>false
 | _=>true
def within (c d:Nat) (o:IOper):Bool:=(match o.dst with
 | some j=>Nat.blt c j && Nat.blt j d
 | none=>false) && q7a o.op && match o.op with
 | .pick (.t k) _ _=>Nat.ble c k
 | _=>true
def q3k (o:IOper) (ops:List IOper):Option (Nat × Nat × List IOper × IOper × List IOper):=match o.guard with
 | none=>none
 | some (t,_)=>match qsa t ops with
  | none=>none
  | some (g,p,r)=>match p.guard,p.dst with
   | none,some d=>match (o :: g).all (within t d) with
    | true=>some (t,d,o :: g,p,r)
    | false=>none
   | _,_=>none
def qRh (d:Nat) (e:Env):Option Bool:=match qb4 e d with
 | .bool b=>some b
 | _=>none
def qZ7 (P:Prog) (cK:(R:Type) -> qhE R):Nat -> List IOper -> Env -> qam -> Nat -> (X -> Env -> qam -> Option R) -> Option R
 | 0,_,_,_,_,_=>none
 | _ + 1,[],e,h,_,K=>K .normal e h
 | n + 1,o :: ops,e,h,nx,K=>match q3k o ops with
  | some (t,d,g,p,rest)=>
   let v:=quk P (cK Bool) g e h nx fun e1=>quk P (cK Bool) [p] e1 h (nx + 16 * g.length) (qRh d)
   br (sm v) (q3d (nx + 16 * (g.length + 1)) fun nx=>q1w (qcD t d e) fun e=>qZ7 P cK n rest ((d,.bool (gv v)) :: e) h nx K) none
  | none=>qR6 P (cK R) nx o e h fun e s=>match s with
   | .pan r v out=>K (.pan v) e (qaN h (.pan r v out))
   | .skip=>qZ7 P cK n ops (qhq o (qa1 e o.dst .skip)) h (nx + 16) K
   | .did r w v out=>frcA v fun v=>q5s (qaN h (.did r w v out)) fun h=>q3d (nx + 16) fun nx=>q1w (qhq o (qAl e o.dst v)) fun e=>qZ7 P cK n ops e h nx K
def q11 (P:Prog) (cK:qhE R) (base:Nat):Nat -> List IOper -> Env -> qam -> List Step -> (Env -> qam -> List Step -> Option R) -> Option R
 | _,[],e,h,log,K=>K e h log
 | i,o :: ops,e,h,log,K=>qR6 P cK (base + 16 * i) o e h fun e s=>
  if tidy (base + 16 * i) (qbM e o) h s then match lost h (qbM e o) s with
   | []=>q11 P cK base (i + 1) ops (qa1 e o.dst s) (qaN h s) (log ++ [s]) K
   | q :: g=>q11 P cK base (i + 1) ops (qa1 e o.dst s) (qaN h s) (log ++ [mark (q :: g) s]) K
  else none
def qiH (P:Prog) (cK:(R:Type) -> qhE R) (lK:qCG R):ICode -> St -> (X -> St -> Option R) -> Option R
 | .skip,s,K=>K .normal s
 | .region ops d,s,K=>match d with
  | none=>qZ7 P cK (ops.length + 1) ops s.tm s.hp s.nx fun x e h=>K x ⟨e,h,s.nx + 16 * ops.length,s.k⟩
  | some befs=>q11 P (cK R) s.nx 0 ops s.tm s.hp [] fun e h log=>if calm s.nx befs ops e log then K .normal ⟨e,h,s.nx + 16 * ops.length,s.k⟩ else none
 | .seq a b,s,K=>qiH P cK lK a s fun x s=>match x with
  | .normal=>qiH P cK lK b s K
  | x=>K x s
 | .cond c a b,s,K=>match qaE s.tm c with
  | .bool t=>br t (qiH P cK lK a s K) (qiH P cK lK b s K)
  | _=>none
 | .block id c,s,K=>qiH P cK lK c s fun x s=>match x with
  | .exit j=>if j = id then K .normal s else K (.exit j) s
  | x=>K x s
 | .loop k c,s,K=>lK k c s K
 | .exit id,s,K=>K (.exit id) s
 | .ret,s,K=>K .ret s
def qs6 (call:qa5) (cK:qhE R):Prop:=∀ f a h K ρ,cK f a h K = some ρ -> ∃ r h',call f a h = some (r,h') /\ K r h' = some ρ
def qtl (loop:qho) (lK:qCG R):ICode -> Prop
 | .seq a b=>qtl loop lK a /\ qtl loop lK b
 | .cond _ a b=>qtl loop lK a /\ qtl loop lK b
 | .block _ a=>qtl loop lK a
 | .loop k c=>∀ s K ρ,lK k c s K = some ρ -> ∃ x s',loop k c s = some (x,s') /\ K x s' = some ρ
 | _=>True
def loops:ICode -> List (List Nat × ICode)
 | .seq a b=>loops a ++ loops b
 | .cond _ a b=>loops a ++ loops b
 | .block _ a=>loops a
 | .loop k c=>(k,c) :: loops c
 | _=>[]
def qae (F:Fun) (i:Nat):List Nat × ICode:=(loops F.body).getD i ([],.skip)
variable {P:Prog} {call:qa5} {cK:qhE R} {loop:qho} {lK:qCG R}
theorem qgh (hc:qs6 call cK) {h:qam} {nx f:Nat} {args:List AV} {K:Res × qam × Bool -> Option R} {ρ:R} (hs:qvS P cK h nx f args K = some ρ):∃ r,qgg P call h nx f args = some r /\ K r = some ρ:=by
 simp only [qvS] at hs
 obtain ⟨args',roots,hp,hs⟩:=qeh hs
 split at hs
 ·rename_i moved shwn h1 h2
  split at hs
  ·rename_i hd
   obtain ⟨r,h',hcl,hK⟩:=hc _ _ _ _ _ hs
   split at hK
   ·rename_i hall
    refine ⟨_,?_,hK⟩
    simp only [qgg,hp,h1,h2,hd,if_true,hcl,hall]
   ·cases hK
  ·cases hs
 ·cases hs
theorem qLK (call:qa5):LeC qLJ call:=fun f a h r hr=>by simp [qLJ] at hr
theorem qs3 {K:Res × qam × Bool -> Option R} {ρ:R}:∀ {l:List Alt},q9J K l = some ρ -> ∃ r,(true,r) ∈ l /\ K r = some ρ
 | [],h=>by cases h
 | (b,r) :: l,h=>by
  cases b with
  | true=>exact ⟨r,by simp,h⟩
  | false=>
   obtain ⟨r',h1,h2⟩:=qs3 (l:=l) h
   exact ⟨r',by simp [h1],h2⟩
theorem qa4 {nx:Nat} {ev:Opd -> AV} {h:qam} {io:IOp} {K:Res × qam × Bool -> Option R} {ρ:R} (hs:qjB P nx ev h io K = some ρ):∃ r,opS P call nx ev h io = some r /\ K r = some ρ:=by
 simp only [qjB] at hs
 split at hs
 ·split at hs
  ·rename_i r hr; exact ⟨r,qui (qLK call) hr,hs⟩
  ·cases hs
 ·obtain ⟨r,h1,h2⟩:=qs3 hs
  exact ⟨r,qXw h1,h2⟩
theorem qZW {es:List AV} {i:Int} {ag:Bool} {ks:List CS} {K:List AV -> Option R} {ρ:R} (hs:br (okE ag ks es i) (qsK es i 0 ks K) none = some ρ):∃ e,qd5 es i = some e /\ K (qad e) = some ρ /\ ∀ cs,elemOf e cs = qyT ag cs:=by
 obtain ⟨hok,hs⟩:=qft hs
 obtain ⟨e,he,hk,hel⟩:=q3J hok
 have:=qpk he ks 0 (K:=K) (by simpa using hk)
 rw [this] at hs
 exact ⟨e,he,by simpa using hs,hel⟩
theorem qCW {e:AV} {ag:Bool} (h:∀ cs,elemOf e cs = qyT ag cs):qyT ag (qad e) = e:=by
 rw [<- h]
 cases e <;> rfl
theorem qJ1 {h:qam} {r:List Nat} {id sz sz2:Nat} {es es2:List AV} {f1 f2:Bool} (hl:qaf h id = some (.arr sz es f1)) (h2:qaf (freeze h r) id = some (.arr sz2 es2 f2)):sz = sz2:=by
 have:Globs:=⟨fun _=>none⟩
 rw [qbB] at h2
 split at h2
 ·rw [hl] at h2; simp [qid] at h2; exact h2.1
 ·rw [hl] at h2; simp at h2; exact h2.1
theorem qR7 {h h':qam} {v v':AV} {id sz sz2:Nat} {es es2:List AV} {f1 f2:Bool} (hl:qaf h id = some (.arr sz es f1)) (hst:still h v = some (v',h')) (h2:qaf h' id = some (.arr sz2 es2 f2)):sz = sz2:=by
 simp only [still] at hst
 split at hst
 ·simp at hst
  obtain ⟨_,rfl⟩:=hst
  rw [hl] at h2; simp at h2; exact h2.1
 ·split at hst
  ·simp at hst
   obtain ⟨_,rfl⟩:=hst
   exact qJ1 hl h2
  ·cases hst
theorem qsb {agg:Bool} {sz:Nat} {cs:List AV} {j:Int} {h:qam} {K:Res × qam × Bool -> Option R} {ρ:R}:∀ {r k:Nat},q3l agg sz cs j h K r k = some ρ -> ∃ q v,j = Int.ofNat q /\ q < k + r /\ q * sz <= cs.length /\ part agg sz (cs.drop (q * sz)) = some v /\ K (.ret v,h,false) = some ρ
 | 0,k,hs=>by simp [q3l] at hs
 | r + 1,k,hs=>by
  simp only [q3l] at hs
  by_cases hj:j = Int.ofNat k
  ·have hd:decide (j = Int.ofNat k) = true:=by simpa using hj
   rw [hd] at hs
   simp only [br] at hs
   split at hs
   ·rename_i hle
    split at hs
    ·rename_i v hv
     exact ⟨k,v,hj,by omega,hle,hv,hs⟩
    ·cases hs
   ·cases hs
  ·have hd:decide (j = Int.ofNat k) = false:=by simpa using hj
   rw [hd] at hs
   simp only [br] at hs
   obtain ⟨q,v,h1,h2,h3⟩:=qsb hs
   exact ⟨q,v,h1,by omega,h3⟩
theorem qsE {F:Nat -> Option R} {j:Int} {ρ:R}:∀ {r k:Nat},q3o F j r k = some ρ -> ∃ q,j = Int.ofNat q /\ q < k + r /\ F q = some ρ
 | 0,k,hs=>by simp [q3o] at hs
 | r + 1,k,hs=>by
  simp only [q3o] at hs
  by_cases hj:j = Int.ofNat k
  ·have hd:decide (j = Int.ofNat k) = true:=by simpa using hj
   rw [hd] at hs
   exact ⟨k,hj,by omega,hs⟩
  ·have hd:decide (j = Int.ofNat k) = false:=by simpa using hj
   rw [hd] at hs
   obtain ⟨q,h1,h2,h3⟩:=qsE (k:=k + 1) hs
   exact ⟨q,h1,by omega,h3⟩
theorem qLQ (hc:qs6 call cK) {nx:Nat} {ev:Opd -> AV} {h:qam} {io:IOp} {K:Res × qam × Bool -> Option R} {ρ:R} (hs:opK P cK nx ev h io K = some ρ):∃ r,opS P call nx ev h io = some r /\ K r = some ρ:=by
 cases io <;> simp only [opK] at hs
 case idxa agg n sz x i=>
  split at hs
  ·rename_i cs k j h1 h2
   split at hs
   ·obtain ⟨q,v,rfl,hq,hle,hv,hs⟩:=qsb hs
    refine ⟨_,?_,hs⟩
    have e1:(0:Int) <= Int.ofNat q:=Int.natCast_nonneg q
    have e2:Int.ofNat q < (n:Int):=by show (q:Int) < (n:Int); omega
    have e3:(Int.ofNat q).toNat = q:=rfl
    simp only [opS,h1,h2,e3]
    rw [if_pos ⟨e1,e2,hle⟩,hv]
    rfl
   ·exact qa4 hs
  ·cases hs
 case aaddr n sz x i=>
  split at hs
  ·rename_i k j h2
   split at hs
   ·obtain ⟨q,rfl,hq,hs⟩:=qsE hs
    have e1:(0:Int) <= Int.ofNat q:=Int.natCast_nonneg q
    have e2:Int.ofNat q < (n:Int):=by show (q:Int) < (n:Int); omega
    have e3:(Int.ofNat q).toNat = q:=rfl
    unfold zaW at hs
    split at hs
    ·rename_i cs h1
     split at hs
     ·rename_i hle
      refine ⟨_,?_,hs⟩
      simp only [opS,h1,h2,e3]
      rw [if_pos ⟨e1,e2⟩,if_pos hle]; rfl
     ·cases hs
    ·rename_i id idx o h1
     refine ⟨_,?_,hs⟩
     simp only [opS,h1,h2,e3]
     rw [if_pos ⟨e1,e2⟩]; rfl
    ·cases hs
   ·exact qa4 hs
  ·cases hs
 case iaddr sz ks x i=>
  split at hs
  ·rename_i c ks' sz' es k j h1 h2
   split at hs
   ·rename_i hsz
    obtain ⟨hok,hs⟩:=qft hs
    simp only [qaD] at hok
    split at hok
    ·rename_i e he
     have:=qpk he _ 0 (K:=fun cs=>K (.ret (.ptr cs),h,false)) (by simpa using hok)
     rw [this] at hs
     refine ⟨_,?_,hs⟩
     simp [opS,h1,h2,he,hsz,val]
    ·cases hok
   ·cases hs
  ·exact qa4 hs
 case load agg n ks x=>
  split at hs
  ·rename_i id idx off hx
   split at hs
   ·rename_i sz es fz hl
    split at hs
    ·rename_i hcd
     obtain ⟨hk,hn,ha⟩:=hcd
     obtain ⟨hok,hs⟩:=qft hs
     simp only [okP] at hok
     split at hok
     ·rename_i e he
      rw [qCj he ks off hok] at hs
      have hlen:=qCh hok
      have hle:ks.length <= ((qad e).drop off).length:=by
       rw [List.length_take] at hlen; omega
      refine ⟨_,?_,hs⟩
      have hoff:off <= (qad e).length:=by rw [List.length_drop] at hle; omega
      simp only [opS,hx,qnu,hl,he,if_pos hoff,qyj,part]
      cases agg with
      | true=>
       simp only [if_true]
       rw [if_pos (by omega),hk]
      | false=>
       have h1:n = 1:=by simpa using ha
       subst h1
       simp only [Bool.false_eq_true,if_false,hk]
       cases hd:(qad e).drop off with
       | nil=>rw [hd] at hle; simp only [List.length_nil] at hle; omega
       | cons y ys=>simp
     ·cases hok
    ·cases hs
   ·exact qa4 hs
  ·exact qa4 hs
 case store n x v=>
  split at hs
  ·rename_i id idx off hx
   split at hs
   ·rename_i sz es hl
    obtain ⟨v',h',hst,hs⟩:=qx4 hs
    split at hs
    ·rename_i sz2 es2 hl2
     split at hs
     ·rename_i hcd
      obtain ⟨hok,hs⟩:=qft hs
      simp only [okS] at hok
      split at hok
      ·rename_i e he
       refine ⟨_,?_,hs⟩
       have hsz:sz = sz2:=qR7 hl hst hl2
       simp only [opS,hx,qPw,hl,hst,hl2,he]
       rw [if_pos ⟨hcd.1,of_decide_eq_true hok,hcd.2⟩]
       simp only [q1C,he,hsz]
      ·cases hok
     ·cases hs
    ·cases hs
   ·exact qa4 hs
  ·exact qa4 hs
 case look ks z ok m k=>
  split at hs
  ·rename_i id hx
   split at hs
   ·rename_i kvs hl
    split at hs
    ·rename_i ag cs hz
     cases hh:qrj ks kvs (ev k) with
     | true=>
      rw [hh] at hs
      simp only [br] at hs
      obtain ⟨e,he,hs,hel⟩:=qZW hs
      have he':qcO ks kvs (ev k) = e:=by simpa [qd5] using he
      simp only [qrj,Bool.and_eq_true] at hh
      obtain ⟨h1,h2⟩:=hh
      split at h2
      ·rename_i v hv
       simp only [qcO,hv] at he'
       subst he'
       refine ⟨_,?_,hs⟩
       simp only [opS,hx,hl,h1,if_true,hv,qCW hel,val]
      ·cases h2
     | false=>
      rw [hh] at hs
      obtain ⟨h1,hs⟩:=qft hs
      simp only [qsG,Bool.and_eq_true] at h1
      obtain ⟨h1,h2⟩:=h1
      split at h2
      ·rename_i hv
       refine ⟨_,?_,hs⟩
       simp only [opS,hx,hl,h1,if_true,hv,val]
      ·cases h2
    ·exact qa4 hs
   ·exact qa4 hs
  ·exact qa4 hs
 case pick c a b=>
  split at hs
  ·rename_i t ht
   cases t
   ·exact ⟨_,by simp [opS,ht,val],hs⟩
   ·exact ⟨_,by simp [opS,ht,val],hs⟩
  ·cases hs
 case call f args=>exact qgh hc hs
 case callv fv args=>
  split at hs
  ·rename_i f cap hf
   obtain ⟨r,h1,h2⟩:=qgh hc hs
   exact ⟨r,by simp only [opS,hf]; exact h1,h2⟩
  ·cases hs
 case invk tbl x args=>
  split at hs
  ·rename_i t v hf
   split at hs
   ·rename_i f hq
    obtain ⟨r,h1,h2⟩:=qgh hc hs
    exact ⟨r,by simp only [opS,hf,hq]; exact h1,h2⟩
   ·cases hs
  ·cases hs
 all_goals exact qa4 hs
theorem qAD {e:Env} {g:Option (Nat × Bool)} {K:Env -> Bool -> Option R} {ρ:R} (hs:q0I e g K = some ρ):∃ b,qiu e g = some b /\ K e b = some ρ:=by
 cases g with
 | none=>exact ⟨true,rfl,hs⟩
 | some tw=>
  obtain ⟨t,want⟩:=tw
  simp only [q0I] at hs
  split at hs
  ·rename_i b hb
   have hset:q1H e t (.bool b) = e:=qya hb (by simp)
   cases b with
   | true=>
    simp only [br] at hs
    rw [hset] at hs
    exact ⟨want,by simp [qiu,hb],hs⟩
   | false=>
    simp only [br] at hs
    rw [hset] at hs
    exact ⟨!want,by cases want <;> simp [qiu,hb],hs⟩
  ·rename_i hb
   exact ⟨false,by simp [qiu,hb],hs⟩
  ·cases hs
theorem qfT (hc:qs6 call cK) {nx:Nat} {o:IOper} {e:Env} {h:qam} {K:Env -> Step -> Option R} {ρ:R} (hs:qR6 P cK nx o e h K = some ρ):∃ s,qct P call nx o e h = some s /\ K e s = some ρ:=by
 obtain ⟨b,hw,hs⟩:=qAD hs
 cases b with
 | false=>exact ⟨.skip,by simp [qct,hw],hs⟩
 | true=>
  simp only at hs
  split at hs
  ·cases hs
  ·rename_i r hr
   obtain ⟨⟨x,out,w⟩,h1,h2⟩:=qLQ hc hs
   cases x with
   | ret v=>exact ⟨.did r w v out,by simp only [qct,hw,hr,h1],h2⟩
   | pan v=>exact ⟨.pan r v out,by simp only [qct,hw,hr,h1],h2⟩
theorem qwv {c d t:Nat} {v:AV} {e:Env} (h:(Nat.blt c t && Nat.blt t d) = true):qcD c d (qAl e (some t) v) = qcD c d e:=by
 simp only [qAl,qcD,h]
theorem qgO {c d c' d':Nat} (hc:c <= c') (hd:d' <= d):∀ e:Env,qcD c d (qcD c' d' e) = qcD c d e
 | []=>rfl
 | (j,v) :: e=>by
  by_cases h:(Nat.blt c' j && Nat.blt j d') = true
  ·have h2:(Nat.blt c j && Nat.blt j d) = true:=by
    simp only [Bool.and_eq_true,Nat.blt_eq] at h ⊢
    omega
   simp only [qcD,h,h2]
   exact qgO hc hd e
  ·have h1:(Nat.blt c' j && Nat.blt j d') = false:=by cases hq:(Nat.blt c' j && Nat.blt j d') <;> first | rfl | exact absurd hq h
   simp only [qcD,h1]
   by_cases h2:(Nat.blt c j && Nat.blt j d) = true
   ·simp only [h2]; exact qgO hc hd e
   ·have h3:(Nat.blt c j && Nat.blt j d) = false:=by cases hq:(Nat.blt c j && Nat.blt j d) <;> first | rfl | exact absurd hq h2
    simp only [h3,qgO hc hd e]
theorem qra {c d:Nat} {o:IOper} (h:within c d o = true) (e:Env) (s:Step) (hs:∀ r v out,s ≠ .pan r v out):qcD c d (qhq o (qa1 e o.dst s)) = qcD c d e:=by
 obtain ⟨dst,op,g⟩:=o
 simp only [within,Bool.and_eq_true] at h
 obtain ⟨⟨h1,_⟩,h2⟩:=h
 cases dst with
 | none=>cases h1
 | some j=>
  simp only at h1
  have qbE:qcD c d (qa1 e (some j) s) = qcD c d e:=by
   cases s with
   | skip=>exact qwv h1
   | did r w v out=>exact qwv h1
   | pan r v out=>exact absurd rfl (hs r v out)
  by_cases hp:∃ k a b,op = .pick (.t k) a b
  ·obtain ⟨k,a,b,rfl⟩:=hp
   simp only at h2
   simp only [qhq]
   rw [qgO (Nat.le_of_ble_eq_true h2) (by
    have:=(Bool.and_eq_true _ _ ▸ h1).2
    simp only [Nat.blt_eq] at this
    omega),qbE]
  ·have:∀ e2,qhq ⟨some j,op,g⟩ e2 = e2:=by
    intro e2
    simp only [qhq]
    split
    ·exact absurd ⟨_,_,_,rfl⟩ hp
    ·rfl
   rw [this]; exact qbE
theorem quc {r:List Nat}:∀ {out:qam},out.all (fun p=>r.contains p.1) = true -> news r out = []
 | [],_=>rfl
 | (i,b) :: h,hs=>by
  simp only [List.all_cons,Bool.and_eq_true] at hs
  simp only [news,hs.1,if_true,quc hs.2]
theorem qrB {e:Env} {dst:Option Nat} {r:List Nat} {w:Bool} {v:AV} {out:qam}:qa1 e dst (.did r w v out) = qAl e dst v:=rfl
theorem qii (hc:qs6 call cK) {c d:Nat}:∀ {ops:List IOper} {e:Env} {h:qam} {nx:Nat} {K:Env -> Option R} {ρ:R},quk P cK ops e h nx K = some ρ -> ∀ log,∃ e' log',K e' = some ρ /\
  (ops.all (within c d) = true -> qcD c d e' = qcD c d e) /\ ∀ more (out:Option (X × Env × qam × List Step)),qcq P call more e' h (nx + 16 * ops.length) log' = out -> qcq P call (ops ++ more) e h nx log = out
 | [],e,h,nx,K,ρ,hs,log=>⟨e,log,hs,fun _=>rfl,fun more out ho=>by simpa using ho⟩
 | o :: ops,e,h,nx,K,ρ,hs,log=>by
  simp only [quk] at hs
  obtain ⟨s,h1,h2⟩:=qfT hc hs
  cases s with
  | pan r v out=>cases h2
  | skip=>
   obtain ⟨e',log',h3,h4,h5⟩:=qii (c:=c) (d:=d) hc h2 (log ++ [.skip])
   refine ⟨e',log',h3,fun ha=>?_,fun more out ho=>?_⟩
   ·simp only [List.all_cons,Bool.and_eq_true] at ha
    rw [h4 ha.2,qra ha.1 _ _ (fun _ _ _ h=>by cases h)]
   ·simp only [List.cons_append,qcq,h1]
    refine h5 more out ?_
    rw [<- ho]; congr 1; simp; omega
  | did r w v out0=>
   simp only at h2
   split at h2
   ·rename_i hall
    rw [qoG,qoI,qoH] at h2
    obtain ⟨e',log',h3,h4,h5⟩:=qii (c:=c) (d:=d) hc h2 (log ++ [.did r false v out0])
    refine ⟨e',log',h3,fun ha=>?_,fun more out ho=>?_⟩
    ·simp only [List.all_cons,Bool.and_eq_true] at ha
     rw [h4 ha.2,<- qrB (r:=r) (w:=false) (out:=out0),qra ha.1 _ _ (fun _ _ _ h=>by cases h)]
    ·simp only [List.cons_append,qcq,h1]
     have hh:qaN h (.did r false v out0) = h:=by simp [qaN,quc hall]
     rw [hh]
     refine h5 more out ?_
     rw [<- ho]; congr 1; simp; omega
   ·cases h2
theorem qoN {t:Nat}:∀ {os g r:List IOper} {p:IOper},qsa t os = some (g,p,r) -> os = g ++ p :: r /\ ∃ a b,p.op = .pick (.t t) a b
 | [],g,r,p,h=>by simp [qsa] at h
 | o :: os,g,r,p,h=>by
  simp only [qsa] at h
  split at h
  ·rename_i c a b ho
   split at h
   ·rename_i hb
    cases h
    have:c = t:=Nat.eq_of_beq_eq_true hb
    subst this
    exact ⟨rfl,a,b,ho⟩
   ·split at h
    ·rename_i q
     cases h
     obtain ⟨h1,h2⟩:=qoN q
     exact ⟨by rw [h1]; rfl,h2⟩
    ·cases h
  ·split at h
   ·rename_i q
    cases h
    obtain ⟨h1,h2⟩:=qoN q
    exact ⟨by rw [h1]; rfl,h2⟩
   ·cases h
theorem qg2 {cK:(R:Type) -> qhE R} (hc:∀ R,qs6 call (cK R)):∀ {n:Nat} {ops:List IOper} {e:Env} {h:qam} {nx:Nat} {K:X -> Env -> qam -> Option R} {ρ:R},qZ7 P cK n ops e h nx K = some ρ -> ∀ log,∃ x e' h' log',qcq P call ops e h nx log = some (x,e',h',log') /\ K x e' h' = some ρ
 | 0,ops,e,h,nx,K,ρ,hs,log=>by simp [qZ7] at hs
 | n + 1,[],e,h,nx,K,ρ,hs,log=>⟨_,_,_,_,rfl,hs⟩
 | n + 1,o :: ops,e,h,nx,K,ρ,hs,log=>by
  simp only [qZ7] at hs
  split at hs
  ·rename_i t d g p rest hg
   obtain ⟨hb,hs⟩:=qft hs
   rw [qoI,qoH] at hs
   simp only [q3k] at hg
   split at hg
   ·cases hg
   ·split at hg
    ·cases hg
    ·rename_i g0 p0 r0 he
     split at hg
     ·rename_i hpg hpd
      split at hg
      ·rename_i hall
       cases hg
       obtain ⟨hops,a,b,hpo⟩:=qoN he
       have hv:=qR4 hb
       generalize gv (quk P (cK Bool) (o :: g0) e h nx fun e1=>quk P (cK Bool) [p] e1 h (nx + 16 * (o :: g0).length) (qRh d)) = bv at hv hs
       obtain ⟨e1,log1,h3,h4,h5⟩:=qii (c:=t) (d:=d) (hc Bool) hv log
       have hkill:=h4 hall
       simp only [quk] at h3
       obtain ⟨s,k1,k2⟩:=qfT (hc Bool) h3
       have htrim:∀ e2,qhq p e2 = qcD t d e2:=fun e2=>by unfold qhq; rw [hpo,hpd]
       have hself:∀ (v:AV) (e2:Env),qcD t d ((d,v) :: e2) = (d,v) :: qcD t d e2:=fun v e2=>by
        have hb:(Nat.blt t d && Nat.blt d d) = false:=by
         have:Nat.blt d d = false:=by
          cases hq:Nat.blt d d with
          | false=>rfl
          | true=>exact absurd (Nat.blt_eq ▸ hq) (Nat.lt_irrefl d)
         rw [this,Bool.and_false]
        simp only [qcD,hb]
       cases s with
       | pan r v out=>cases k2
       | skip=>
        exfalso
        rw [htrim,hpd,show qa1 e1 (some d) Step.skip = (d,unit) :: e1 from rfl,hself] at k2
        simp [qRh,qb4,unit] at k2
       | did r w v out=>
        simp only at k2
        split at k2
        ·rename_i hall2
         rw [qoG,qoI,qoH,htrim,hpd,show qAl e1 (some d) v = (d,v) :: e1 from rfl,hself] at k2
         simp only [qRh,qb4,if_true] at k2
         split at k2
         ·rename_i b0
          cases k2
          have hh:qaN h (.did r false (.bool bv) out) = h:=by simp [qaN,quc hall2]
          obtain ⟨x,e',h',log',q1,q2⟩:=qg2 hc hs (log1 ++ [.did r false (.bool bv) out])
          refine ⟨x,e',h',log',?_,q2⟩
          have hsplit:o :: ops = (o :: g0) ++ p :: rest:=by rw [hops]; rfl
          rw [hsplit]
          refine h5 (p :: rest) _ ?_
          simp only [qcq,k1,hh]
          rw [htrim,qrB,hpd,show qAl e1 (some d) (AV.bool bv) = (d,.bool bv) :: e1 from rfl,hself,hkill]
          rw [<- q1]; congr 1
         ·cases k2
        ·cases k2
      ·cases hg
     ·cases hg
  ·obtain ⟨s,h1,h2⟩:=qfT (hc R) hs
   simp only [qcq,h1]
   cases s with
   | pan r v out=>exact ⟨_,_,_,_,rfl,h2⟩
   | skip=>exact qg2 hc h2 _
   | did r w v out=>
    simp only at h2
    rw [qoG,qJ0,qoI,qoH] at h2
    exact qg2 hc h2 _
theorem qjv (hc:qs6 call cK) {base:Nat}:∀ {ops:List IOper} {i:Nat} {e:Env} {h:qam} {log:List Step} {K:Env -> qam -> List Step -> Option R} {ρ:R},q11 P cK base i ops e h log K = some ρ -> ∃ e' h' log',qej P call base i ops e h log = some (e',h',log') /\ K e' h' log' = some ρ
 | [],i,e,h,log,K,ρ,hs=>⟨_,_,_,rfl,hs⟩
 | o :: ops,i,e,h,log,K,ρ,hs=>by
  simp only [q11] at hs
  obtain ⟨s,h1,h2⟩:=qfT hc hs
  split at h2
  ·rename_i ht
   split at h2
   ·rename_i hl
    obtain ⟨e',h',log',h3,h4⟩:=qjv hc h2
    exact ⟨e',h',log',by simp only [qej,h1,ht,if_true,hl]; exact h3,h4⟩
   ·rename_i q g hl
    obtain ⟨e',h',log',h3,h4⟩:=qjv hc h2
    exact ⟨e',h',log',by simp only [qej,h1,ht,if_true,hl]; exact h3,h4⟩
  ·cases h2
theorem qhI {cK:(R:Type) -> qhE R} (hc:∀ R,qs6 call (cK R)):∀ {c:ICode},qtl loop lK c -> ∀ {s:St} {K:X -> St -> Option R} {ρ:R},qiH P cK lK c s K = some ρ -> ∃ x s',qdz P call loop c s = some (x,s') /\ K x s' = some ρ:=by
 intro c
 induction c with
 | skip=>intro _ s K ρ h; exact ⟨_,_,rfl,h⟩
 | region ops d=>
  intro _ s K ρ h
  simp only [qiH] at h
  cases d with
  | none=>
   obtain ⟨x,e',h',log',h1,h2⟩:=qg2 hc h []
   exact ⟨x,_,by simp only [qdz,qbg,h1],h2⟩
  | some befs=>
   obtain ⟨e',h',log',h1,h2⟩:=qjv (hc R) h
   split at h2
   ·rename_i hcalm
    exact ⟨_,_,by simp only [qdz,qbg,h1,hcalm,if_true],h2⟩
   ·cases h2
 | seq a b iha ihb=>
  intro hl s K ρ h
  simp only [qiH] at h
  obtain ⟨x,s1,h1,h2⟩:=iha hl.1 h
  cases x with
  | normal=>
   obtain ⟨x2,s2,h3,h4⟩:=ihb hl.2 h2
   exact ⟨x2,s2,by simp only [qdz,h1]; exact h3,h4⟩
  | _=>exact ⟨_,_,by simp only [qdz,h1],h2⟩
 | cond c a b iha ihb=>
  intro hl s K ρ h
  simp only [qiH] at h
  split at h
  ·rename_i t ht
   cases t with
   | true=>
    obtain ⟨x,s1,h1,h2⟩:=iha hl.1 h
    exact ⟨x,s1,by simp only [qdz,ht]; exact h1,h2⟩
   | false=>
    obtain ⟨x,s1,h1,h2⟩:=ihb hl.2 h
    exact ⟨x,s1,by simp only [qdz,ht]; exact h1,h2⟩
  ·cases h
 | block id a ih=>
  intro hl s K ρ h
  simp only [qiH] at h
  obtain ⟨x,s1,h1,h2⟩:=ih hl h
  cases x with
  | exit j=>
   simp only at h2
   split at h2
   ·rename_i hj; exact ⟨_,_,by simp only [qdz,h1,hj,if_true],h2⟩
   ·rename_i hj; exact ⟨_,_,by simp only [qdz,h1,hj,if_false],h2⟩
  | _=>exact ⟨_,_,by simp only [qdz,h1],h2⟩
 | loop k a ih=>intro hl s K ρ h; exact hl _ _ _ h
 | exit id=>intro _ s K ρ h; exact ⟨_,_,rfl,h⟩
 | ret=>intro _ s K ρ h; exact ⟨_,_,rfl,h⟩
def qBI (P:Prog) (f k:Nat) (v:AV) (h:qam) (K:AV -> qam -> Option R):Option R:=
 let rest (v:AV) (h:qam):Option R:=match qbq qdb h (idsA v ++ brought h k) (List.range k) with
  | none=>none
  | some r=>K (ren (place r) v) (qgB (place r) (sub h r))
 if P.fresh f then rest v h else match idsA v with
  | []=>rest (nz v) h
  | ids=>br (qlm h qdb v) (match qbq qdb h ids [] with
   | some r=>rest (qp1 h qdb v) (freeze h r)
   | none=>none) none
theorem qgx {f k:Nat} {v:AV} {h:qam} {K:AV -> qam -> Option R} {ρ:R} (hs:qBI P f k v h K = some ρ):∃ v' h',qt5 P f k v h = some (v',h') /\ K v' h' = some ρ:=by
 simp only [qBI] at hs
 split at hs
 ·rename_i hf
  split at hs
  ·cases hs
  ·rename_i r hr; exact ⟨_,_,by simp only [qt5,hf,if_true,hr],hs⟩
 ·rename_i hf
  split at hs
  ·rename_i hi
   split at hs
   ·cases hs
   ·rename_i r hr; exact ⟨_,_,by simp only [qt5,if_neg hf,still,hi,hr],hs⟩
  ·rename_i ids hi
   obtain ⟨hb,hs⟩:=qft hs
   split at hs
   ·rename_i r0 hr0
    split at hs
    ·cases hs
    ·rename_i r hr
     refine ⟨_,_,?_,hs⟩
     simp only [qt5,if_neg hf,still,qp2 _ _ hb,hr0,hr]
   ·cases hs
def qIO (P:Prog) (cK:(R:Type) -> qhE R) (lK:qCG R) (f:Nat) (F:Fun) (args:List AV) (h:qam) (K:Res -> qam -> Option R):Option R:=
 qiH P cK lK F.body ⟨params 0 args,h,h.length,h.length⟩ fun x s=>
  let fin (_:Unit):Option R:=match qpT s F.results with
   | some vs=>qBI P f h.length (one vs) s.hp fun v h=>K (.ret v) h
   | none=>none
  match x with
  | .normal=>fin ()
  | .ret=>fin ()
  | .pan v=>qBI P f h.length v s.hp fun v h=>K (.pan v) h
  | .exit _=>none
theorem qnq {cK:(R:Type) -> qhE R} (hc:∀ R,qs6 call (cK R)) {f:Nat} {F:Fun} (hl:qtl loop lK F.body) {args:List AV} {h:qam} {K:Res -> qam -> Option R} {ρ:R} (hs:qIO P cK lK f F args h K = some ρ):∃ r h',body P call loop f F args h = some (r,h') /\ K r h' = some ρ:=by
 obtain ⟨x,s,h1,h2⟩:=qhI hc hl hs
 simp only [body,h1]
 cases x with
 | exit j=>cases h2
 | pan v=>
  simp only at h2 ⊢
  obtain ⟨v',h',hv,h2⟩:=qgx h2
  exact ⟨_,_,by simp only [hv],h2⟩
 | normal=>
  simp only at h2 ⊢
  split at h2
  ·rename_i hv
   obtain ⟨v',h',hw,h2⟩:=qgx h2
   exact ⟨_,_,by simp only [hv,hw],h2⟩
  ·cases h2
 | ret=>
  simp only at h2 ⊢
  split at h2
  ·rename_i hv
   obtain ⟨v',h',hw,h2⟩:=qgx h2
   exact ⟨_,_,by simp only [hv,hw],h2⟩
  ·cases h2
def q9L (K:Res -> qam -> Option R):List (Bool × Res × qam) -> Option R
 | []=>none
 | (b,r,h) :: l=>br b (K r h) (q9L K l)
theorem qs5 {K:Res -> qam -> Option R} {ρ:R}:∀ {l:List (Bool × Res × qam)},q9L K l = some ρ -> ∃ r h,(true,r,h) ∈ l /\ K r h = some ρ
 | [],h=>by cases h
 | (b,r,h) :: l,hs=>by
  cases b with
  | true=>exact ⟨r,h,by simp,hs⟩
  | false=>
   obtain ⟨r',h',h1,h2⟩:=qs5 (l:=l) hs
   exact ⟨r',h',by simp [h1],h2⟩
def q9K (K:X -> St -> Option R):List (Bool × X × St) -> Option R
 | []=>none
 | (b,x,s) :: l=>br b (K x s) (q9K K l)
theorem qs4 {K:X -> St -> Option R} {ρ:R}:∀ {l:List (Bool × X × St)},q9K K l = some ρ -> ∃ x s,(true,x,s) ∈ l /\ K x s = some ρ
 | [],h=>by cases h
 | (b,x,s) :: l,hs=>by
  cases b with
  | true=>exact ⟨x,s,by simp,hs⟩
  | false=>
   obtain ⟨x',s',h1,h2⟩:=qs4 (l:=l) hs
   exact ⟨x',s',by simp [h1],h2⟩
end
end Go.Eng
namespace Go.Eng
theorem qsF {IP:Prog} {keep:List Nat} {c:ICode} {s s':St} (h:norm (hk keep) s = norm (hk keep) s') {r:X × St} (hr:qih IP keep c s' = some r):qih IP keep c s = some r:=by
 obtain ⟨n,hn⟩:=qeL.1 hr
 refine qeL.2 ⟨n,?_⟩
 cases n with
 | zero=>simp [qaB] at hn
 | succ n=>simp only [qaB] at hn ⊢; rw [h]; exact hn
@[simp] theorem br_true {R:Type} (x y:R):br true x y = x:=rfl
@[simp] theorem br_false {R:Type} (x y:R):br false x y = y:=rfl
theorem getD_some {α:Type} {l:List α} {i:Nat} {d:α} (h:i < l.length):l[i]?.getD d = l[i]:=by simp [h]
end Go.Eng
namespace Go.Eng
inductive Rd (τ:Type) where
 | next (v:τ)
 | done (j:Nat)
inductive Rx (τ:Type) where
 | next (v:τ)
 | out (x:X) (s:St)
def qgr {τ:Type} (st:τ -> Option (Rd τ)):Nat -> τ -> Option (Nat × τ)
 | 0,_=>none
 | n + 1,v=>match st v with
  | some (.next v')=>qgr st n v'
  | some (.done j)=>some (j,v)
  | none=>none
theorem qsg {τ:Type} {st:τ -> Option (Rd τ)}:∀ {n:Nat} {v:τ} {r:Nat × τ},qgr st n v = some r -> qgr st (n + 1) v = some r
 | 0,v,r,h=>by simp [qgr] at h
 | n + 1,v,r,h=>by
  simp only [qgr] at h ⊢
  cases hs:st v with
  | none=>rw [hs] at h; cases h
  | some q=>
   rw [hs] at h
   cases q with
   | next v'=>exact qsg h
   | done j=>exact h
theorem qsf {τ:Type} {st:τ -> Option (Rd τ)} {n m:Nat} (hnm:n <= m) {v:τ} {r:Nat × τ} (h:qgr st n v = some r):qgr st m v = some r:=by
 induction hnm with
 | refl=>exact h
 | step _ ih=>exact qsg ih
open Classical in
noncomputable def qap {τ:Type} (st:τ -> Option (Rd τ)) (v:τ):Option (Nat × τ):=
 if h:∃ r n,qgr st n v = some r then some h.choose else none
theorem qdR {τ:Type} {st:τ -> Option (Rd τ)} {v:τ} {r:Nat × τ}:qap st v = some r ↔ ∃ n,qgr st n v = some r:=by
 unfold qap
 split
 ·rename_i h
  obtain ⟨n,hn⟩:=h.choose_spec
  constructor
  ·intro hr; cases hr; exact ⟨n,hn⟩
  ·rintro ⟨m,hm⟩
   have h1:=qsf (Nat.le_max_left n m) hn
   have h2:=qsf (Nat.le_max_right n m) hm
   rw [h1] at h2; exact h2
 ·rename_i h
  constructor
  ·intro hr; cases hr
  ·rintro ⟨n,hn⟩; exact absurd ⟨r,n,hn⟩ h
theorem qsh {τ:Type} (st:τ -> Option (Rd τ)) (v:τ):qap st v = match st v with
  | some (.next v')=>qap st v'
  | some (.done j)=>some (j,v)
  | none=>none:=by
 cases hs:st v with
 | none=>
  simp only
  cases hi:qap st v with
  | none=>rfl
  | some r=>
   obtain ⟨n,hn⟩:=qdR.1 hi
   cases n with
   | zero=>simp [qgr] at hn
   | succ n=>simp [qgr,hs] at hn
 | some q=>
  cases q with
  | done j=>exact qdR.2 ⟨1,by simp [qgr,hs]⟩
  | next v'=>
   simp only
   cases hi:qap st v' with
   | some r=>
    obtain ⟨n,hn⟩:=qdR.1 hi
    exact qdR.2 ⟨n + 1,by simp [qgr,hs,hn]⟩
   | none=>
    cases hj:qap st v with
    | none=>rfl
    | some r=>
     obtain ⟨n,hn⟩:=qdR.1 hj
     cases n with
     | zero=>simp [qgr] at hn
     | succ n=>
      simp only [qgr,hs] at hn
      rw [qdR.2 ⟨n,hn⟩] at hi; cases hi
theorem qaA {τ:Type} {st:τ -> Option (Rd τ)} {v v':τ} (h:st v = some (.next v')):qap st v = qap st v':=by rw [qsh,h]
theorem qak {τ:Type} {st:τ -> Option (Rd τ)} {v:τ} {j:Nat} (h:st v = some (.done j)):qap st v = some (j,v):=by rw [qsh,h]
def qZx {τ:Type} (keep:List Nat) (dec:St -> Option τ) (x:X) (s:St):Option (Rx τ):=match x with
 | .normal=>match norm (hk keep) s with
  | some s=>match dec s with
   | some v=>some (.next v)
   | none=>none
  | none=>none
 | x=>match qRY keep x s with
  | some (x,s)=>some (.out x s)
  | none=>none
def cv {τ:Type} (ex:Nat -> X × St):Option (Rd τ) -> Option (Rx τ)
 | some (.next v)=>some (.next v)
 | some (.done j)=>some (.out (ex j).1 (ex j).2)
 | none=>none
section
variable {IP:Prog} {τ:Type} {cK:(R:Type) -> qhE R} {lK:qCG (Rx τ)} {keep:List Nat} {c:ICode}
end
def Told (IP:Prog) (keep:List Nat) (c:ICode) (g:St -> List (Bool × X × St)):Prop:=
 (∀ s x s',(true,x,s') ∈ g s -> qih IP keep c s = some (x,s')) /\ ∀ s,g s ≠ [] -> norm (hk keep) s = some s
theorem qxv {IP:Prog} {keep:List Nat} {c:ICode} {g:St -> List (Bool × X × St)} (h:Told IP keep c g) {s s1:St} (hn:norm (hk keep) s = some s1) {x:X} {s':St} (hm:(true,x,s') ∈ g s1):qih IP keep c s = some (x,s'):=
 qsF (by rw [hn,h.2 s1 (fun he=>by rw [he] at hm; cases hm)]) (h.1 s1 x s' hm)
end Go.Eng
namespace Go.Eng
inductive Lf where
 | i (n:Int)
 | b (x:Bool)
 | s (s:List UInt8)
 | l (es:List AV)
 | n (k:Nat)
 | m (kvs:List (AV × AV))
inductive PA where
 | int (k:IntKind)
 | bool
 | str
 | nilp | nilm | nilf | nili | junk
 | nils (q:NilS)
 | agg (ps:List PA)
 | tup (ps:List PA)
 | view (sz:Nat)
 | ptr (ps:List PA)
 | own (id off:Nat)
 | ownn (id off:Nat)
 | ref (id idx off:Nat)
 | mref (id:Nat)
 | fn (f:FnId) (ps:List PA)
 | iface (t:Nat) (p:PA)
def qRc:Option (List Lf) -> Option (List Lf) -> Option (List Lf)
 | some a,some b=>some (a ++ b)
 | _,_=>none
def mA:PA -> AV -> Option (List Lf)
 | .int k,.int k' n=>if k' = k then some [.i n] else none
 | .bool,.bool x=>some [.b x]
 | .str,.str x=>some [.s x]
 | .nilp,.nilp=>some []
 | .nilm,.nilm=>some []
 | .nilf,.nilf=>some []
 | .nili,.nili=>some []
 | .junk,.junk=>some []
 | .nils q,.nils q'=>if q' = q then some [] else none
 | .agg ps,.agg cs=>mAs ps cs
 | .tup ps,.tup cs=>mAs ps cs
 | .view sz,.view sz' es=>if sz' = sz then some [.l es] else none
 | .ptr ps,.ptr cs=>mAs ps cs
 | .own id off,.own id' off' none=>if id' = id /\ off' = off then some [] else none
 | .ownn id off,.own id' off' (some k)=>if id' = id /\ off' = off then some [.n k] else none
 | .ref id idx off,.ref id' idx' off'=>if id' = id /\ idx' = idx /\ off' = off then some [] else none
 | .mref id,.mref id'=>if id' = id then some [] else none
 | .fn f ps,.fn f' cs=>if f' = f then mAs ps cs else none
 | .iface t p,.iface t' v=>if t' = t then mA p v else none
 | _,_=>none
where mAs:List PA -> List AV -> Option (List Lf)
 | [],[]=>some []
 | p :: ps,v :: vs=>qRc (mA p v) (mAs ps vs)
 | _,_=>none
def lfI:List Lf -> Int
 | .i n :: _=>n
 | _=>0
def lfB:List Lf -> Bool
 | .b n :: _=>n
 | _=>false
def lfS:List Lf -> List UInt8
 | .s n :: _=>n
 | _=>[]
def lfL:List Lf -> List AV
 | .l n :: _=>n
 | _=>[]
def lfN:List Lf -> Nat
 | .n n :: _=>n
 | _=>0
def lfM:List Lf -> List (AV × AV)
 | .m n :: _=>n
 | _=>[]
def szA:PA -> Nat
 | .int _ | .bool | .str | .view _ | .ownn _ _=>1
 | .agg ps | .tup ps | .ptr ps | .fn _ ps=>szAs ps
 | .iface _ p=>szA p
 | _=>0
where szAs:List PA -> Nat
 | []=>0
 | p :: ps=>szA p + szAs ps
def fA:PA -> List Lf -> AV
 | .int k,ls=>.int k (lfI ls)
 | .bool,ls=>.bool (lfB ls)
 | .str,ls=>.str (lfS ls)
 | .nilp,_=>.nilp
 | .nilm,_=>.nilm
 | .nilf,_=>.nilf
 | .nili,_=>.nili
 | .junk,_=>.junk
 | .nils sz,_=>.nils sz
 | .agg ps,ls=>.agg (fAs ps ls)
 | .tup ps,ls=>.tup (fAs ps ls)
 | .view sz,ls=>.view sz (lfL ls)
 | .ptr ps,ls=>.ptr (fAs ps ls)
 | .own id off,_=>.own id off none
 | .ownn id off,ls=>.own id off (some (lfN ls))
 | .ref id idx off,_=>.ref id idx off
 | .mref id,_=>.mref id
 | .fn f ps,ls=>.fn f (fAs ps ls)
 | .iface t p,ls=>.iface t (fA p ls)
where fAs:List PA -> List Lf -> List AV
 | [],_=>[]
 | p :: ps,ls=>fA p ls :: fAs ps (ls.drop (szA p))
theorem qeD {a b:Option (List Lf)} {r:List Lf} (h:qRc a b = some r):∃ x y,a = some x /\ b = some y /\ r = x ++ y:=by
 cases a <;> cases b <;> simp [qRc] at h
 exact ⟨_,_,rfl,rfl,h.symm⟩
mutual
theorem qRN:∀ (p:PA) {v:AV} {ls:List Lf},mA p v = some ls -> ls.length = szA p /\ ∀ r,fA p (ls ++ r) = v
 | .int k,v,ls,h=>by
  cases v <;> simp only [mA,reduceCtorEq] at h
  split at h
  ·rename_i hk; subst hk; simp at h; subst h; exact ⟨rfl,fun r=>rfl⟩
  ·cases h
 | .bool,v,ls,h=>by cases v <;> simp [mA] at h; subst h; exact ⟨rfl,fun r=>rfl⟩
 | .str,v,ls,h=>by cases v <;> simp [mA] at h; subst h; exact ⟨rfl,fun r=>rfl⟩
 | .nilp,v,ls,h=>by cases v <;> simp [mA] at h; subst h; exact ⟨rfl,fun r=>rfl⟩
 | .nilm,v,ls,h=>by cases v <;> simp [mA] at h; subst h; exact ⟨rfl,fun r=>rfl⟩
 | .nilf,v,ls,h=>by cases v <;> simp [mA] at h; subst h; exact ⟨rfl,fun r=>rfl⟩
 | .nili,v,ls,h=>by cases v <;> simp [mA] at h; subst h; exact ⟨rfl,fun r=>rfl⟩
 | .junk,v,ls,h=>by cases v <;> simp [mA] at h; subst h; exact ⟨rfl,fun r=>rfl⟩
 | .nils sz,v,ls,h=>by
  cases v <;> simp only [mA,reduceCtorEq] at h
  split at h
  ·rename_i hk; subst hk; simp at h; subst h; exact ⟨rfl,fun r=>rfl⟩
  ·cases h
 | .agg ps,v,ls,h=>by
  cases v <;> simp only [mA,reduceCtorEq] at h
  obtain ⟨h1,h2⟩:=qpd ps h
  exact ⟨h1,fun r=>by simp only [fA,h2]⟩
 | .tup ps,v,ls,h=>by
  cases v <;> simp only [mA,reduceCtorEq] at h
  obtain ⟨h1,h2⟩:=qpd ps h
  exact ⟨h1,fun r=>by simp only [fA,h2]⟩
 | .view sz,v,ls,h=>by
  cases v <;> simp only [mA,reduceCtorEq] at h
  split at h
  ·rename_i hk; subst hk; simp at h; subst h; exact ⟨rfl,fun r=>rfl⟩
  ·cases h
 | .ptr ps,v,ls,h=>by
  cases v <;> simp only [mA,reduceCtorEq] at h
  obtain ⟨h1,h2⟩:=qpd ps h
  exact ⟨h1,fun r=>by simp only [fA,h2]⟩
 | .own id off,v,ls,h=>by
  cases v <;> first | (exfalso; revert h; simp [mA]; done) | skip
  rename_i a b lo
  cases lo <;> first | (exfalso; revert h; simp [mA]; done) | skip
  simp only [mA] at h
  split at h
  ·rename_i hk; obtain ⟨rfl,rfl⟩:=hk; simp at h; subst h; exact ⟨rfl,fun r=>rfl⟩
  ·cases h
 | .ownn id off,v,ls,h=>by
  cases v <;> first | (exfalso; revert h; simp [mA]; done) | skip
  rename_i a b lo
  cases lo <;> first | (exfalso; revert h; simp [mA]; done) | skip
  simp only [mA] at h
  split at h
  ·rename_i hk; obtain ⟨rfl,rfl⟩:=hk; simp at h; subst h; exact ⟨rfl,fun r=>rfl⟩
  ·cases h
 | .ref id idx off,v,ls,h=>by
  cases v <;> simp only [mA,reduceCtorEq] at h
  split at h
  ·rename_i hk; obtain ⟨rfl,rfl,rfl⟩:=hk; simp at h; subst h; exact ⟨rfl,fun r=>rfl⟩
  ·cases h
 | .mref id,v,ls,h=>by
  cases v <;> simp only [mA,reduceCtorEq] at h
  split at h
  ·rename_i hk; subst hk; simp at h; subst h; exact ⟨rfl,fun r=>rfl⟩
  ·cases h
 | .fn f ps,v,ls,h=>by
  cases v <;> simp only [mA,reduceCtorEq] at h
  split at h
  ·rename_i hk; subst hk
   obtain ⟨h1,h2⟩:=qpd ps h
   exact ⟨h1,fun r=>by simp only [fA,h2]⟩
  ·cases h
 | .iface t p,v,ls,h=>by
  cases v <;> simp only [mA,reduceCtorEq] at h
  split at h
  ·rename_i hk; subst hk
   obtain ⟨h1,h2⟩:=qRN p h
   exact ⟨h1,fun r=>by simp only [fA,h2]⟩
  ·cases h
theorem qpd:∀ (ps:List PA) {vs:List AV} {ls:List Lf},mA.mAs ps vs = some ls -> ls.length = szA.szAs ps /\ ∀ r,fA.fAs ps (ls ++ r) = vs
 | [],vs,ls,h=>by cases vs <;> simp [mA.mAs] at h; subst h; exact ⟨rfl,fun r=>rfl⟩
 | p :: ps,vs,ls,h=>by
  cases vs <;> simp only [mA.mAs,reduceCtorEq] at h
  obtain ⟨x,y,h1,h2,rfl⟩:=qeD h
  obtain ⟨g1,g2⟩:=qRN p h1
  obtain ⟨g3,g4⟩:=qpd ps h2
  refine ⟨by simp [szA.szAs,g1,g3],fun r=>?_⟩
  simp only [fA.fAs]
  rw [List.append_assoc,g2]
  congr 1
  rw [<- g1,List.drop_left]
  exact g4 r
end
inductive PB where
 | box (ps:List PA) (fz:Bool)
 | arr (sz:Nat) (fz:Bool)
 | mp
def mB:PB -> Blk -> Option (List Lf)
 | .box ps fz,.box cs fz'=>if fz' = fz then mA.mAs ps cs else none
 | .arr sz fz,.arr sz' es fz'=>if sz' = sz /\ fz' = fz then some [.l es] else none
 | .mp,.mp kvs=>some [.m kvs]
 | _,_=>none
def szB:PB -> Nat
 | .box ps _=>szA.szAs ps
 | _=>1
def fB:PB -> List Lf -> Blk
 | .box ps fz,ls=>.box (fA.fAs ps ls) fz
 | .arr sz fz,ls=>.arr sz (lfL ls) fz
 | .mp,ls=>.mp (lfM ls)
theorem q7H {p:PB} {v:Blk} {ls:List Lf} (h:mB p v = some ls):ls.length = szB p /\ ∀ r,fB p (ls ++ r) = v:=by
 cases p <;> cases v <;> simp only [mB,reduceCtorEq] at h
 ·split at h
  ·rename_i hk; subst hk
   obtain ⟨h1,h2⟩:=qpd _ h
   exact ⟨h1,fun r=>by simp only [fB,h2]⟩
  ·cases h
 ·split at h
  ·rename_i hk; obtain ⟨rfl,rfl⟩:=hk; simp at h; subst h; exact ⟨rfl,fun r=>rfl⟩
  ·cases h
 ·simp at h; subst h; exact ⟨rfl,fun r=>rfl⟩
def mH:List (Nat × PB) -> qam -> Option (List Lf)
 | [],[]=>some []
 | (i,p) :: ps,(j,b) :: h=>if j = i then qRc (mB p b) (mH ps h) else none
 | _,_=>none
def szH:List (Nat × PB) -> Nat
 | []=>0
 | (_,p) :: ps=>szB p + szH ps
def fH:List (Nat × PB) -> List Lf -> qam
 | [],_=>[]
 | (i,p) :: ps,ls=>(i,fB p ls) :: fH ps (ls.drop (szB p))
theorem qRP:∀ {ps:List (Nat × PB)} {h:qam} {ls:List Lf},mH ps h = some ls -> ls.length = szH ps /\ ∀ r,fH ps (ls ++ r) = h
 | [],h,ls,hh=>by cases h <;> simp [mH] at hh; subst hh; exact ⟨rfl,fun r=>rfl⟩
 | (i,p) :: ps,h,ls,hh=>by
  cases h with
  | nil=>simp [mH] at hh
  | cons jb h=>
   obtain ⟨j,b⟩:=jb
   simp only [mH] at hh
   split at hh
   ·rename_i hk; subst hk
    obtain ⟨x,y,h1,h2,rfl⟩:=qeD hh
    obtain ⟨g1,g2⟩:=q7H h1
    obtain ⟨g3,g4⟩:=qRP h2
    refine ⟨by simp [szH,g1,g3],fun r=>?_⟩
    simp only [fH]
    rw [List.append_assoc,g2,<- g1,List.drop_left,g4]
   ·cases hh
def mE:List (Nat × PA) -> Env -> Option (List Lf)
 | [],[]=>some []
 | (i,p) :: ps,(j,b) :: h=>if j = i then qRc (mA p b) (mE ps h) else none
 | _,_=>none
def szE:List (Nat × PA) -> Nat
 | []=>0
 | (_,p) :: ps=>szA p + szE ps
def fE:List (Nat × PA) -> List Lf -> Env
 | [],_=>[]
 | (i,p) :: ps,ls=>(i,fA p ls) :: fE ps (ls.drop (szA p))
theorem q3r:∀ {ps:List (Nat × PA)} {h:Env} {ls:List Lf},mE ps h = some ls -> ls.length = szE ps /\ ∀ r,fE ps (ls ++ r) = h
 | [],h,ls,hh=>by cases h <;> simp [mE] at hh; subst hh; exact ⟨rfl,fun r=>rfl⟩
 | (i,p) :: ps,h,ls,hh=>by
  cases h with
  | nil=>simp [mE] at hh
  | cons jb h=>
   obtain ⟨j,b⟩:=jb
   simp only [mE] at hh
   split at hh
   ·rename_i hk; subst hk
    obtain ⟨x,y,h1,h2,rfl⟩:=qeD hh
    obtain ⟨g1,g2⟩:=qRN p h1
    obtain ⟨g3,g4⟩:=q3r h2
    refine ⟨by simp [szE,g1,g3],fun r=>?_⟩
    simp only [fE]
    rw [List.append_assoc,g2,<- g1,List.drop_left,g4]
   ·cases hh
structure PSt where
 tm:List (Nat × PA)
 hp:List (Nat × PB)
 nx:Nat
 k:Nat
def mSt (p:PSt) (s:St):Option (List Lf):=if s.nx = p.nx /\ s.k = p.k then qRc (mE p.tm s.tm) (mH p.hp s.hp) else none
def fSt (p:PSt) (ls:List Lf):St:=⟨fE p.tm ls,fH p.hp (ls.drop (szE p.tm)),p.nx,p.k⟩
theorem qVF {p:PSt} {s:St} {ls:List Lf} (h:mSt p s = some ls):fSt p ls = s:=by
 simp only [mSt] at h
 split at h
 ·rename_i hk
  obtain ⟨x,y,h1,h2,rfl⟩:=qeD h
  obtain ⟨g1,g2⟩:=q3r h1
  obtain ⟨g3,g4⟩:=qRP h2
  have:=g4 []
  rw [List.append_nil] at this
  obtain ⟨tm,hp,nx,k⟩:=s
  simp only at hk
  simp only [fSt,g2,<- g1,List.drop_left,this,hk.1,hk.2]
 ·cases h
structure PArgs where
 as:List PA
 hp:List (Nat × PB)
def q3q (p:PArgs) (a:List AV) (h:qam):Option (List Lf):=qRc (mA.mAs p.as a) (mH p.hp h)
def qRt (p:PArgs) (ls:List Lf):List AV × qam:=(fA.fAs p.as ls,fH p.hp (ls.drop (szA.szAs p.as)))
theorem qRO {p:PArgs} {a:List AV} {h:qam} {ls:List Lf} (hh:q3q p a h = some ls):(a,h) = qRt p ls:=by
 obtain ⟨x,y,h1,h2,rfl⟩:=qeD hh
 obtain ⟨g1,g2⟩:=qpd _ h1
 obtain ⟨g3,g4⟩:=qRP h2
 have:=g4 []
 rw [List.append_nil] at this
 simp only [qRt,g2,<- g1,List.drop_left,this]
structure PRes where
 pan:Bool
 v:PA
 hp:List (Nat × PB)
def q5v (p:PRes) (r:Res) (h:qam):Option (List Lf):=match p.pan,r with
 | false,.ret v=>qRc (mA p.v v) (mH p.hp h)
 | true,.pan v=>qRc (mA p.v v) (mH p.hp h)
 | _,_=>none
def q1v (p:PRes) (ls:List Lf):Res × qam:=((match p.pan with | false=>.ret (fA p.v ls) | true=>.pan (fA p.v ls)),fH p.hp (ls.drop (szA p.v)))
theorem qLA {p:PRes} {r:Res} {h:qam} {ls:List Lf} (hh:q5v p r h = some ls):(r,h) = q1v p ls:=by
 obtain ⟨pan,pv,php⟩:=p
 cases pan <;> cases r <;> simp only [q5v,reduceCtorEq] at hh
 all_goals
  obtain ⟨x,y,h1,h2,rfl⟩:=qeD hh
  obtain ⟨g1,g2⟩:=qRN _ h1
  obtain ⟨g3,g4⟩:=qRP h2
  have:=g4 []
  rw [List.append_nil] at this
  simp only [q1v,g2,<- g1,List.drop_left,this]
end Go.Eng
namespace Go.Eng
instance instSumInh {α β:Type} [Inhabited α]:Inhabited (α ⊕ β):=⟨.inl default⟩
inductive DT (α:Type) where
 | no
 | at (a:α)
 | br (b:Bool) (x y:DT α)
def DT.ev {α:Type}:DT α -> Option α
 | .no=>none
 | .at a=>some a
 | .br b x y=>Go.Eng.br b x.ev y.ev
@[simp] theorem ev_no {α:Type}:(DT.no:DT α).ev = none:=rfl
@[simp] theorem ev_at {α:Type} (a:α):(DT.at a).ev = some a:=rfl
@[simp] theorem ev_br {α:Type} (b:Bool) (x y:DT α):(DT.br b x y).ev = bif b then x.ev else y.ev:=by cases b <;> rfl
noncomputable def DT.bi {α β:Type} [Inhabited β] (o:Option β) (k:β -> DT α) (e:DT α):DT α:=.br (sm o) (k (gv o)) e
@[simp] theorem ev_bi_some {α β:Type} [Inhabited β] (y:β) (k:β -> DT α) (e:DT α):(DT.bi (some y) k e).ev = (k y).ev:=rfl
@[simp] theorem ev_bi_none {α β:Type} [Inhabited β] (k:β -> DT α) (e:DT α):(DT.bi (none:Option β) k e).ev = e.ev:=rfl
@[simp] theorem br_eq {R:Type} (b:Bool) (x y:R):Go.Eng.br b x y = bif b then x else y:=by cases b <;> rfl
@[simp] theorem cond_some {α:Type} (b:Bool) (x y:α):(bif b then some x else some y) = some (bif b then x else y):=by cases b <;> rfl
noncomputable def qay {α:Type} (x:α):α:=Classical.choose (⟨x,rfl⟩:∃ y,y = x)
theorem qaa {α:Type} (x:α):qay x = x:=Classical.choose_spec (⟨x,rfl⟩:∃ y,y = x)
def pl {α β:Type} (o:Option (α ⊕ β)):Option α:=match o with
 | some (.inl x)=>some x
 | _=>none
def pr {α β:Type} (o:Option (α ⊕ β)):Option β:=match o with
 | some (.inr x)=>some x
 | _=>none
def sl {α β:Type} [Inhabited α] (o:α ⊕ β):α:=match o with
 | .inl x=>x
 | _=>default
def sr {α β:Type} [Inhabited β] (o:α ⊕ β):β:=match o with
 | .inr x=>x
 | _=>default
def pj {τ:Type} (j:Nat) (o:Option (Nat × τ)):Option τ:=match o with
 | some (k,w)=>if k = j then some w else none
 | none=>none
@[simp] theorem pl_inl {α β:Type} (x:α):pl (some (Sum.inl x):Option (α ⊕ β)) = some x:=rfl
@[simp] theorem pl_inr {α β:Type} (x:β):pl (some (Sum.inr x):Option (α ⊕ β)) = none:=rfl
@[simp] theorem pl_none {α β:Type}:pl (none:Option (α ⊕ β)) = none:=rfl
@[simp] theorem pr_inl {α β:Type} (x:α):pr (some (Sum.inl x):Option (α ⊕ β)) = none:=rfl
@[simp] theorem pr_inr {α β:Type} (x:β):pr (some (Sum.inr x):Option (α ⊕ β)) = some x:=rfl
@[simp] theorem pr_none {α β:Type}:pr (none:Option (α ⊕ β)) = none:=rfl
@[simp] theorem sl_inl {α β:Type} [Inhabited α] (x:α):sl (Sum.inl x:α ⊕ β) = x:=rfl
@[simp] theorem sr_inr {α β:Type} [Inhabited β] (x:β):sr (Sum.inr x:α ⊕ β) = x:=rfl
@[simp] theorem pj_some {τ:Type} (j k:Nat) (w:τ):pj j (some (k,w)) = if k = j then some w else none:=rfl
@[simp] theorem pj_none {τ:Type} (j:Nat):pj j (none:Option (Nat × τ)) = none:=rfl
theorem qZY {α β:Type} {o:Option (α ⊕ β)} {x:α} (h:pl o = some x):o = some (.inl x):=by
 unfold pl at h; split at h
 ·cases h; rfl
 ·cases h
theorem qZZ {α β:Type} {o:Option (α ⊕ β)} {x:β} (h:pr o = some x):o = some (.inr x):=by
 unfold pr at h; split at h
 ·cases h; rfl
 ·cases h
theorem q9k {τ:Type} {j:Nat} {o:Option (Nat × τ)} {w:τ} (h:pj j o = some w):o = some (j,w):=by
 unfold pj at h
 split at h
 ·split at h
  ·rename_i hk; cases h; rw [hk]
  ·cases h
 ·cases h
abbrev Ent:=List AV -> qam -> List (Bool × Res × qam)
abbrev Tab:=List (Nat × Ent)
def q1E:Tab -> Nat -> List AV -> qam -> List (Bool × Res × qam)
 | [],_,_,_=>[]
 | (i,g) :: t,f,a,h=>if f = i then g a h ++ q1E t f a h else q1E t f a h
def Snd (IP:Prog) (f:Nat) (g:Ent):Prop:=∀ a h r h',(true,r,h') ∈ g a h -> qdH IP f a h = some (r,h')
def qai (IP:Prog):Tab -> Prop
 | []=>True
 | (i,g) :: t=>Snd IP i g /\ qai IP t
def qyO (T:Tab) (R:Type):qhE R:=fun f a h K=>q9L K (q1E T f a h)
theorem qAv {IP:Prog}:∀ {T:Tab},qai IP T -> ∀ {f:Nat} {a:List AV} {h:qam} {r:Res} {h':qam},(true,r,h') ∈ q1E T f a h -> qdH IP f a h = some (r,h')
 | [],_,f,a,h,r,h',hm=>by simp [q1E] at hm
 | (i,g) :: t,hT,f,a,h,r,h',hm=>by
  simp only [q1E] at hm
  split at hm
  ·rename_i hf
   subst hf
   rcases List.mem_append.1 hm with hm | hm
   ·exact hT.1 _ _ _ _ hm
   ·exact qAv hT.2 hm
  ·exact qAv hT.2 hm
theorem qty {IP:Prog} {T:Tab} (h:qai IP T) {R:Type}:qs6 (qdH IP) (qyO T R):=by
 intro f a hp K ρ hs
 obtain ⟨r,h',h1,h2⟩:=qs5 hs
 exact ⟨r,h',qAv h h1,h2⟩
abbrev qbz:=St -> List (Bool × X × St)
abbrev qCF:=List (Nat × qbz)
def q1D:qCF -> Nat -> St -> List (Bool × X × St)
 | [],_,_=>[]
 | (i,g) :: t,id,s=>if id = i then g s ++ q1D t id s else q1D t id s
def qt6 {R:Type} (T:qCF):qCG R:=fun k _ s K=>match k with
 | []=>none
 | id :: _=>match norm (hk k) s with
  | none=>none
  | some s1=>q9K K (q1D T id s1)
def qPm:qCF -> List Nat -> List qbz
 | [],_=>[]
 | (i,g) :: t,k=>match k with
  | []=>[]
  | id :: _=>if id = i then g :: qPm t k else qPm t k
def LOk (IP:Prog) (T:qCF):List (List Nat × ICode) -> Prop
 | []=>True
 | p :: r=>(∀ g ∈ qPm T p.1,Told IP p.1 p.2 g) /\ LOk IP T r
theorem quC {id:Nat} {rest:List Nat} {s:St} {e:Bool × X × St}:∀ {T:qCF},e ∈ q1D T id s -> ∃ g ∈ qPm T (id :: rest),e ∈ g s
 | [],h=>by simp [q1D] at h
 | (i,g) :: t,h=>by
  simp only [q1D] at h
  split at h
  ·rename_i hi
   rcases List.mem_append.1 h with h | h
   ·exact ⟨g,by simp [qPm,hi],h⟩
   ·obtain ⟨g',h1,h2⟩:=quC h
    exact ⟨g',by simp [qPm,hi]; exact Or.inr (by rw [<- hi]; exact h1),h2⟩
  ·rename_i hi
   obtain ⟨g',h1,h2⟩:=quC h
   exact ⟨g',by simp [qPm,hi]; exact h1,h2⟩
theorem qjt {IP:Prog} {T:qCF}:∀ {a b:List (List Nat × ICode)},LOk IP T (a ++ b) -> LOk IP T a /\ LOk IP T b
 | [],_,h=>⟨trivial,h⟩
 | _ :: _,_,h=>⟨⟨h.1,(qjt h.2).1⟩,(qjt h.2).2⟩
theorem qt7 {IP:Prog} {T:qCF} {R:Type}:∀ {c:ICode},LOk IP T (loops c) -> qtl (R:=R) (qih IP) (qt6 T) c:=by
 intro c
 induction c with
 | seq a b iha ihb=>intro h; exact ⟨iha (qjt h).1,ihb (qjt h).2⟩
 | cond x a b iha ihb=>intro h; exact ⟨iha (qjt h).1,ihb (qjt h).2⟩
 | block id a ih=>intro h; exact ih h
 | loop k a ih=>
  intro h s K ρ hs
  have hk:=h.1
  cases k with
  | nil=>simp [qt6] at hs
  | cons id rest=>
   simp only [qt6] at hs
   split at hs
   ·cases hs
   ·rename_i s1 hn
    obtain ⟨x,s',h1,h2⟩:=qs4 hs
    obtain ⟨g,h3,h4⟩:=quC (rest:=rest) h1
    exact ⟨x,s',qxv (hk g h3) hn h4,h2⟩
 | _=>intro _; exact trivial
theorem qab {IP:Prog} {T:qCF} {c:ICode} {l:List (List Nat × ICode)} (h:loops c = l) (hl:LOk IP T l):LOk IP T (loops c):=h ▸ hl
theorem qas {IP:Prog} {T:qCF} {p:List Nat × ICode} {g:qbz} (h:qPm T p.1 = [g]) (t:Told IP p.1 p.2 g):∀ g ∈ qPm T p.1,Told IP p.1 p.2 g:=by
 rw [h]; intro g' hg'; rw [List.mem_singleton] at hg'; subst hg'; exact t
theorem qCr {IP:Prog} {T:qCF} {p:List Nat × ICode} (h:qPm T p.1 = []):∀ g ∈ qPm T p.1,Told IP p.1 p.2 g:=by
 rw [h]; intro g' hg'; cases hg'
section
variable {R:Type} {ls:List Lf} {v:R}
end
def E2 {α β:Type} [Inhabited α] (e:α -> Res × qam) (E:Option β -> List (Bool × Res × qam)) (o:Option (α ⊕ β)):List (Bool × Res × qam):=(sm (pl o),(e (gv (pl o))).1,(e (gv (pl o))).2) :: E (pr o)
theorem q3e {IP:Prog} {T:Tab} {L:qCF} {f:Nat} {F:Fun} {args:List AV} {h:qam} {β:Type} {dec:Res -> qam -> Option β} {er:β -> Res × qam} {t:DT β} {y:β} (hT:qai IP T) (hF:IP.fn f = some F) (hL:LOk IP L (loops F.body))
  (hdec:∀ r h y,dec r h = some y -> (r,h) = er y) (hb:qIO (R:=β) IP (qyO T) (qt6 L) f F args h dec = t.ev) (ht:t.ev = some y):qdH IP f args h = some (er y):=by
 rw [ht] at hb
 obtain ⟨r,h',h1,h2⟩:=qnq (fun R=>qty hT) (qt7 hL) hb
 rw [<- hdec _ _ _ h2]
 exact qRj hF h1
def cvR {τ:Type} (ex:Nat -> X × St):Rd τ -> Rx τ
 | .next v=>.next v
 | .done j=>.out (ex j).1 (ex j).2
def cvD {τ:Type} (ex:Nat -> X × St):DT (Rd τ) -> DT (Rx τ)
 | .no=>.no
 | .at r=>.at (cvR ex r)
 | .br b x y=>.br b (cvD ex x) (cvD ex y)
theorem qIS {τ:Type} {ex:Nat -> X × St}:∀ {t:DT (Rd τ)},(cvD ex t).ev = cv ex t.ev
 | .no=>rfl
 | .at r=>by cases r <;> rfl
 | .br b x y=>by
  cases b
  ·exact qIS (t:=y)
  ·exact qIS (t:=x)
def q9j:X -> Bool
 | .normal=>false
 | _=>true
open Classical in
noncomputable def qka {β:Type} (s:Nat -> Option β):Option β:=if h:∃ r n,∀ m,n <= m -> s m = some r then some h.choose else none
theorem qKP {β:Type} {s:Nat -> Option β} {r:β} (h:qka s = some r):∃ n,s n = some r:=by
 unfold qka at h
 split at h
 ·rename_i hx
  obtain ⟨n,hn⟩:=hx.choose_spec
  cases h
  exact ⟨n,hn n (Nat.le_refl n)⟩
 ·cases h
theorem qb0 {β:Type} {s:Nat -> Option β} {r:β} {n:Nat} (h:∀ m,n <= m -> s m = some r):qka s = some r:=by
 unfold qka
 have hx:∃ r n,∀ m,n <= m -> s m = some r:=⟨r,n,h⟩
 rw [dif_pos hx]
 obtain ⟨k,hk⟩:=hx.choose_spec
 have h1:=hk (max n k) (Nat.le_max_right _ _)
 rw [h _ (Nat.le_max_left _ _)] at h1
 exact h1.symm
end Go.Eng
namespace Go.Eng
set_option linter.unusedSectionVars false
variable [Globs]
def noC:qa5:=fun _ _ _=>none
def noL:qho:=fun _ _ _=>none
def qkY (sz bytes:Nat):List AV -> qam -> Option (Res × qam)
 | [.view sz' es],[]=>if sz' = sz then
   if es.length = 0 then some (.ret (.nils ⟨sz,.any⟩),[])
   else if es.length * bytes <= lim then some (.ret (.own 0 0 none),[(0,.arr sz es false)]) else none
  else none
 | _,_=>none
theorem qCR {P:Program} {w:World} {I:Imm} {m:Names} {h:qam} {f:Nat} {vs:Array Value} {v v':AV} {h':qam} (hc:Calls P f vs w (qQN w I m h (.ret v) h')) (hw:∀ {w I m u},Rel w I v m u -> Rel w I v' m u) :
  Calls P f vs w (qQN w I m h (.ret v') h'):=by
 refine hc.mono ?_
 rintro e w' ⟨I',m',ha,u,he,hu⟩
 exact ⟨I',m',ha,u,he,hw hu⟩
theorem qjA {P:Program} {IP:Prog} {f:Nat} {F:Fun} {sz bytes:Nat} (hF:qal P f F)
  (h1:body IP noC noL f F [.nils ⟨sz,.nil⟩] [] = some (.ret (.nils ⟨sz,.nil⟩),[]))
  (h2:body IP noC noL f F [.nils ⟨sz,.non⟩] [] = some (.ret (.nils ⟨sz,.any⟩),[]))
  (h3:∀ es:List AV,es.length ≠ 0 -> es.length * bytes <= lim -> body IP noC noL f F [.view sz es] [] = some (.ret (.own 0 0 none),[(0,.arr sz es false)])):qeb P f (qkY sz bytes):=by
 have hC:qfV P noC:=fun _ _ _ _ _ h=>by cases h
 have hL:qAF P noL:=fun _ _ _ _ _ h=>by cases h
 intro args h r h' hg
 unfold qkY at hg
 split at hg
 ·rename_i sz' es
  split at hg
  ·rename_i hsz
   subst hsz
   split at hg
   ·rename_i h0
    cases hg
    refine fun w I m vs H hm hr=>.inl ⟨(qb5 hC hL hF h1).1,?_⟩
    obtain ⟨v,vs',rfl,hv,hvs⟩:=by simpa only [qaC] using hr
    obtain ⟨a,cap,rfl,hcap,_,hz⟩:=by simpa only [Rel] using hv
    subst hvs
    cases a with
    | none=>
     have hc0:=hz rfl
     subst hc0
     refine qCR ((qb5 hC hL hF h1).2 w I m _ H hm ?_) ?_
     ·simp only [qaC,Rel]
      exact ⟨_,_,rfl,⟨none,0,by rw [h0],by simp,by simp,by simp⟩,rfl⟩
     ·intro w I m u hu
      simp only [Rel] at hu ⊢
      obtain ⟨b,cap,rfl,g1,_,_⟩:=hu
      exact ⟨b,cap,rfl,fun _=>g1 (by simp),by simp,by simp⟩
    | some ad=>
     refine (qb5 hC hL hF h2).2 w I m _ H hm ?_
     simp only [qaC,Rel]
     exact ⟨_,_,rfl,⟨some ad,cap,by rw [h0],by simp,by simp,fun _=>⟨_,rfl⟩⟩,rfl⟩
   ·rename_i h0
    split at hg
    ·rename_i hb
     cases hg
     exact fun w I m vs H hm hr=>.inl ⟨(qb5 hC hL hF (h3 es h0 hb)).1,(qb5 hC hL hF (h3 es h0 hb)).2 w I m vs H hm hr⟩
    ·cases hg
  ·cases hg
 ·cases hg
theorem qgW {R:Type} {loop:qho}:∀ c:ICode,qtl (R:=R) loop (fun _ _ _ _=>none) c
 | .seq a b=>⟨qgW a,qgW b⟩
 | .cond _ a b=>⟨qgW a,qgW b⟩
 | .block _ a=>qgW a
 | .loop _ _=>fun _ _ _ h=>by cases h
 | .skip | .region _ _ | .exit _ | .ret=>trivial
theorem qjz {IP:Prog} {f:Nat} {F:Fun} {sz bytes:Nat} {b c:Bool} {x:Res × qam}
  (hb:∀ es:List AV,qIO (R:=Res × qam) IP (fun _ _ _ _ _=>none) (fun _ _ _ _=>none) f F [.view sz es] [] (fun r h=>some (r,h)) =
   br (decide (es.length ≠ 0)) (br (decide (es.length = 0) && b) (some x) (br (decide (es.length ≠ 0) && (c && room es.length bytes)) (some (.ret (.own 0 0 none),[(0,.arr sz es false)])) none)) none) (hc:c = true) (es:List AV)
  (h0:es.length ≠ 0) (h1:es.length * bytes <= lim):body IP noC noL f F [.view sz es] [] = some (.ret (.own 0 0 none),[(0,.arr sz es false)]):=by
 have hq:=hb es
 have e1:decide (es.length ≠ 0) = true:=decide_eq_true h0
 have e2:decide (es.length = 0) = false:=decide_eq_false h0
 have e3:room es.length bytes = true:=decide_eq_true h1
 rw [e1,e2,e3,hc] at hq
 obtain ⟨r,h',h2,h3⟩:=qnq (call:=noC) (loop:=noL) (fun R f a h K ρ hs=>by cases hs) (qgW _) hq
 rw [h2]
 exact h3
def qkX (sz bytes:Nat):Ent:=fun a h=>match a,h with
 | [.view sz' es],[]=>if sz' = sz then [(decide (es.length = 0),.ret (.nils ⟨sz,.any⟩),[]),(decide (es.length ≠ 0) && decide (es.length * bytes <= lim),.ret (.own 0 0 none),[(0,.arr sz es false)])] else []
 | _,_=>[]
theorem qnw {IP:Prog} {f sz bytes:Nat} (hF:IP.fn f = none) (hS:IP.spec f = some (qkY sz bytes)):Snd IP f (qkX sz bytes):=by
 intro a h r h' hm
 refine qrE hF hS ?_
 unfold qkX at hm
 split at hm
 ·rename_i sz' es
  split at hm
  ·rename_i hs
   subst hs
   simp only [List.mem_cons,Prod.mk.injEq,List.not_mem_nil,or_false] at hm
   rcases hm with ⟨hb,rfl,rfl⟩ | ⟨hb,rfl,rfl⟩ <;> simp only [eq_comm (a:=true),Bool.and_eq_true,decide_eq_true_eq] at hb
   ·simp [qkY,hb]
   ·simp only [qkY,if_true]
    rw [if_neg hb.1,if_pos hb.2]
  ·cases hm
 ·cases hm
end Go.Eng
namespace Go.Eng
def big:Nat:=9223372036854775807
theorem wrap64 {n:Int} (h1:-9223372036854775808 <= n) (h2:n <= 9223372036854775807):IntKind.i64.wrap n = n:=by
 simp [IntKind.wrap,IntKind.signed,IntKind.bits]
 split <;> omega
theorem qah {n m:Nat} (h:n < m) (hm:m <= big):IntKind.i64.wrap ((n:Int) + 1) = ((n + 1:Nat):Int):=by
 simp only [big] at hm
 rw [wrap64 (by omega) (by omega)]; simp
section
variable {τ:Type} {av:τ -> AV} {ks:List CS}
theorem qvO (l:List τ) (n:Nat):qd5 (l.map av) (n:Int) = (l[n]?).map av:=by simp [qd5]
theorem qRV (hk:∀ x,qiV ks (qad (av x)) = true) (l:List τ) (n:Nat):qaD ks (l.map av) (n:Int) = decide (n < l.length):=by
 simp only [qaD,qvO]
 by_cases h:n < l.length
 ·simp [h,hk]
 ·simp [h]
theorem qdV (hk:∀ x,qiV ks (qad (av x)) = true) {l:List τ} {n:Nat} (h:n < l.length):qaD ks (l.map av) (n:Int) = true:=by
 rw [qRV hk,decide_eq_true h]
theorem qat {l:List τ} {n:Nat} (h:n < l.length) (j:Nat):cellAt (l.map av) (n:Int) j = ((qad (av l[n]))[j]?).getD .junk:=by
 simp [cellAt,qvO,h]
theorem qiE {l:List τ} {n:Nat} (h:n < l.length) (j:Nat):qjy (l.map av) n j = ((qad (av l[n]))[j]?).getD .junk:=by
 simp [qjy,h]
theorem qZU {l:List τ} {n off:Nat} (h:n < l.length):okP ks (l.map av) n off = qiV ks (((qad (av l[n])).drop off).take ks.length):=by
 simp [okP,h]
theorem qZV {l:List τ} {n off m:Nat} (h:n < l.length):okS (l.map av) n off m = decide (off + m <= (qad (av l[n])).length):=by
 simp [okS,h]
theorem qR3 {l:List τ} {n off:Nat} {vs:List AV} (h:n < l.length) {y:τ} (hy:elemOf (av l[n]) (splice (qad (av l[n])) off vs) = av y):q1C (l.map av) n off vs = (l.set n y).map av:=by
 simp [q1C,h,hy,List.map_set]
theorem qiN {l n:Nat} (h:n < l):inB l (n:Int) = true:=by simp [inB,h]
theorem qcV {s:List UInt8} {n:Nat} (h:n < s.length):qaO s (n:Int) = ((s[n]).toNat:Int):=by
 simp [qaO,qd5,h]
theorem qaI {n m:Nat} (h:n < m):decide ((n:Int) < (m:Int)) = true:=by simp [h]
theorem qVE {n m:Nat} (h:¬ n < m):decide ((n:Int) < (m:Int)) = false:=by simp; omega
theorem qil {n b:Nat} (h:n * b <= lim):room n b = true:=decide_eq_true h
end
theorem drop_at {τ:Type} {l:List τ} {n:Nat} (h:n < l.length):l.drop n = l[n] :: l.drop (n + 1):=List.drop_eq_getElem_cons h
theorem qcG {τ:Type} {st:τ -> Option (Rd τ)} (hd:Nat -> τ) (K j:Nat):∀ (n:Nat),n <= K -> (∀ m,n <= m -> m < K -> st (hd m) = some (.next (hd (m + 1)))) -> st (hd K) = some (.done j) -> qap st (hd n) = some (j,hd K):=by
 intro n hn hs he
 obtain ⟨d,rfl⟩:∃ d,K = n + d:=⟨K - n,by omega⟩
 clear hn
 induction d generalizing n with
 | zero=>exact qak he
 | succ d ih=>
  rw [qaA (hs n (Nat.le_refl _) (by omega))]
  have:=ih (n + 1) (fun m h1 h2=>hs m (by omega) (by omega)) (by rw [show n + 1 + d = n + (d + 1) by omega]; exact he)
  rw [this,show n + 1 + d = n + (d + 1) by omega]
def qgE {α:Type} (p:α -> Bool) (jx:α -> Nat) (je:Nat) (l:List α):Nat:=match l.find? p with
 | some x=>jx x
 | none=>je
theorem qaz {α τ:Type} {st:τ -> Option (Rd τ)} {l:List α} (hd:Nat -> τ) (p:α -> Bool) (jx:α -> Nat) (je:Nat)
  (hs:∀ n (h:n < l.length),st (hd n) = some (bif p l[n] then .done (jx l[n]) else .next (hd (n + 1)))) (he:st (hd l.length) = some (.done je)) :
  qap st (hd 0) = some (qgE p jx je l,hd (l.findIdx p)):=by
 unfold qgE
 cases hf:l.find? p with
 | none=>
  have hn:∀ x ∈ l,¬ p x = true:=by simpa using List.find?_eq_none.1 hf
  have hi:l.findIdx p = l.length:=List.findIdx_eq_length.2 (by intro x hx; simpa using hn x hx)
  rw [hi]
  exact qcG hd l.length je 0 (Nat.zero_le _) (fun m _ hm=>by rw [hs m hm,Bool.eq_false_iff.2 (hn _ (List.getElem_mem hm))]; rfl) he
 | some x=>
  have hp:p x = true:=List.find?_some hf
  have hlt:l.findIdx p < l.length:=List.findIdx_lt_length.2 ⟨x,List.mem_of_find?_eq_some hf,hp⟩
  have hx:l[l.findIdx p] = x:=by
   have:=List.getElem?_eq_getElem hlt
   rw [List.find?_eq_getElem?_findIdx] at hf
   rw [this] at hf; exact Option.some.inj hf
  refine qcG hd (l.findIdx p) (jx x) 0 (Nat.zero_le _) (fun m _ hm=>?_) ?_
  ·rw [hs m (by omega),List.not_of_lt_findIdx hm]; rfl
  ·rw [hs _ hlt,hx,hp]; rfl
theorem qa3 {τ:Type} {st:τ -> Option (Rd τ)} (N:Nat) (hd:Nat -> τ) (p:Nat -> Bool) (jx:Nat -> Nat) (je:Nat)
  (hs:∀ n,n < N -> st (hd n) = some (bif p n then .done (jx n) else .next (hd (n + 1)))) (he:st (hd N) = some (.done je)) :
  qap st (hd 0) = some (qgE p jx je (List.range N),hd ((List.range N).findIdx p)):=
 qaz (l:=List.range N) hd p jx je (fun n h=>by rw [List.getElem_range]; exact hs n (by simpa using h)) (by simpa using he)
theorem qax {α:Type} {p:α -> Bool} {j je:Nat} {l:List α}:qgE p (fun _=>j) je l = bif l.any p then j else je:=by
 unfold qgE
 cases hf:l.find? p with
 | none=>
  have:l.any p = false:=by simpa using hf
  rw [this]; rfl
 | some x=>
  have:l.any p = true:=List.any_eq_true.2 ⟨x,List.mem_of_find?_eq_some hf,List.find?_some hf⟩
  rw [this]; rfl
def qwu {α σ:Type} (f:Nat -> σ -> α -> σ):Nat -> σ -> List α -> σ
 | _,a,[]=>a
 | n,a,x :: l=>qwu f (n + 1) (f n a x) l
theorem qoF {α σ:Type} {f:σ -> α -> σ}:∀ {l:List α} {n:Nat} {a:σ},qwu (fun _=>f) n a l = l.foldl f a
 | [],_,_=>rfl
 | x :: l,n,a=>by simp only [qwu,List.foldl_cons]; exact qoF
theorem qFj {α σ τ:Type} {st:τ -> Option (Rd τ)} {l:List α} (hd:Nat -> σ -> τ) (f:Nat -> σ -> α -> σ) (jx:σ -> Nat) (inv:Nat -> σ -> Prop) {a:σ} (h0:inv 0 a)
  (hi:∀ n a (h:n < l.length),inv n a -> inv (n + 1) (f n a l[n]))
  (hs:∀ n a (h:n < l.length),inv n a -> st (hd n a) = some (.next (hd (n + 1) (f n a l[n])))) (he:∀ a,inv l.length a -> st (hd l.length a) = some (.done (jx a))) :
  qap st (hd 0 a) = some (jx (qwu f 0 a l),hd l.length (qwu f 0 a l)):=by
 have key:∀ (k n:Nat) (a:σ),n + k = l.length -> inv n a -> qap st (hd n a) = some (jx (qwu f n a (l.drop n)),hd l.length (qwu f n a (l.drop n))):=by
  intro k
  induction k with
  | zero=>
   intro n a hn ha
   have:n = l.length:=by omega
   subst this
   rw [qak (he a ha)]; simp [qwu]
  | succ k ih=>
   intro n a hn ha
   have h:n < l.length:=by omega
   rw [qaA (hs n a h ha),ih (n + 1) _ (by omega) (hi n a h ha),drop_at h]
   rfl
 have:=key l.length 0 a (by omega) h0
 simpa using this
theorem qpc {α σ τ:Type} {st:τ -> Option (Rd τ)} {l:List α} (hd:Nat -> σ -> τ) (f:σ -> α -> σ) (jx:σ -> Nat) (inv:Nat -> σ -> Prop) {a:σ} (h0:inv 0 a)
  (hi:∀ n a (h:n < l.length),inv n a -> inv (n + 1) (f a l[n]))
  (hs:∀ n a (h:n < l.length),inv n a -> st (hd n a) = some (.next (hd (n + 1) (f a l[n])))) (he:∀ a,inv l.length a -> st (hd l.length a) = some (.done (jx a))) :
  qap st (hd 0 a) = some (jx (l.foldl f a),hd l.length (l.foldl f a)):=by
 have:=qFj (st:=st) (l:=l) hd (fun _=>f) jx inv h0 hi hs he
 rwa [qoF] at this
end Go.Eng
namespace Go.Eng
inductive LKd where
 | i | b | s | l | n | m
def kdA:PA -> List LKd
 | .int _=>[.i]
 | .bool=>[.b]
 | .str=>[.s]
 | .view _=>[.l]
 | .ownn _ _=>[.n]
 | .agg ps=>kdAs ps
 | .tup ps=>kdAs ps
 | .ptr ps=>kdAs ps
 | .fn _ ps=>kdAs ps
 | .iface _ p=>kdA p
 | _=>[]
where kdAs:List PA -> List LKd
 | []=>[]
 | p :: ps=>kdA p ++ kdAs ps
def kdB:PB -> List LKd
 | .box ps _=>kdA.kdAs ps
 | .arr _ _=>[.l]
 | .mp=>[.m]
def kdH:List (Nat × PB) -> List LKd
 | []=>[]
 | (_,b) :: r=>kdB b ++ kdH r
def kdE:List (Nat × PA) -> List LKd
 | []=>[]
 | (_,b) :: r=>kdA b ++ kdE r
def qcv (p:PArgs):List LKd:=kdA.kdAs p.as ++ kdH p.hp
def qtT (p:PRes):List LKd:=kdA p.v ++ kdH p.hp
def qtU (p:PSt):List LKd:=kdE p.tm ++ kdH p.hp
abbrev TyK:LKd -> Type
 | .i=>Int
 | .b=>Bool
 | .s=>List UInt8
 | .l=>List AV
 | .n=>Nat
 | .m=>List (AV × AV)
abbrev Tup:List LKd -> Type
 | []=>Unit
 | [k]=>TyK k
 | k :: ks=>TyK k × Tup ks
abbrev qvI:List (List LKd) -> Type
 | []=>Empty
 | [k]=>Tup k
 | k :: ks=>Tup k ⊕ qvI ks
def q9I:(k:LKd) -> TyK k -> Lf
 | .i,x=>.i x
 | .b,x=>.b x
 | .s,x=>.s x
 | .l,x=>.l x
 | .n,x=>.n x
 | .m,x=>.m x
def q5x:(k:LKd) -> Lf -> Option (TyK k)
 | .i,.i x=>some x
 | .b,.b x=>some x
 | .s,.s x=>some x
 | .l,.l x=>some x
 | .n,.n x=>some x
 | .m,.m x=>some x
 | _,_=>none
theorem qLO:∀ {k:LKd} {x:Lf} {v:TyK k},q5x k x = some v -> x = q9I k v:=by
 intro k x v h
 cases k <;> cases x <;> simp only [q5x,Option.some.injEq,reduceCtorEq] at h <;> subst h <;> rfl
def toL:(ks:List LKd) -> Tup ks -> List Lf
 | [],_=>[]
 | [k],v=>[q9I k v]
 | k :: k' :: ks,v=>q9I k v.1 :: toL (k' :: ks) v.2
def ofL:(ks:List LKd) -> List Lf -> Option (Tup ks)
 | [],[]=>some ()
 | [k],[x]=>q5x k x
 | k :: k' :: ks,x :: ls=>match q5x k x with
  | some y=>match ofL (k' :: ks) ls with
   | some ys=>some (y,ys)
   | none=>none
  | none=>none
 | _,_=>none
theorem qsJ:∀ {ks:List LKd} {ls:List Lf} {v:Tup ks},ofL ks ls = some v -> ls = toL ks v
 | [],[],v,_=>rfl
 | [],_ :: _,v,h=>by simp [ofL] at h
 | [k],[],v,h=>by simp [ofL] at h
 | [k],[x],v,h=>by simp only [ofL] at h; rw [qLO h]; rfl
 | [k],_ :: _ :: _,v,h=>by simp [ofL] at h
 | k :: k' :: ks,[],v,h=>by simp [ofL] at h
 | k :: k' :: ks,x :: ls,v,h=>by
  simp only [ofL] at h
  split at h
  ·rename_i y hy
   split at h
   ·rename_i ys hys
    cases h
    rw [qLO hy,qsJ hys]; rfl
   ·cases h
  ·cases h
def aE (p:PArgs) (v:Tup (qcv p)):List AV:=(qRt p (toL (qcv p) v)).1
def aH (p:PArgs) (v:Tup (qcv p)):qam:=(qRt p (toL (qcv p) v)).2
def aD (p:PArgs) (a:List AV) (h:qam):Option (Tup (qcv p)):=match q3q p a h with
 | some ls=>ofL (qcv p) ls
 | none=>none
theorem q6W {p:PArgs} {a:List AV} {h:qam} {v:Tup (qcv p)} (hh:aD p a h = some v):a = aE p v /\ h = aH p v:=by
 unfold aD at hh
 split at hh
 ·rename_i ls hm
  have h1:=qRO hm
  rw [qsJ hh] at h1
  exact ⟨congrArg Prod.fst h1,congrArg Prod.snd h1⟩
 ·cases hh
abbrev RT (rs:List PRes):Type:=qvI (rs.map qtT)
def rE:(rs:List PRes) -> RT rs -> Res × qam
 | [],v=>nomatch v
 | [r],v=>q1v r (toL (qtT r) v)
 | r :: _ :: _,.inl v=>q1v r (toL (qtT r) v)
 | _ :: r' :: rs,.inr v=>rE (r' :: rs) v
def rD:(rs:List PRes) -> Res -> qam -> Option (RT rs)
 | [],_,_=>none
 | [r],x,h=>match q5v r x h with
  | some ls=>ofL (qtT r) ls
  | none=>none
 | r :: r' :: rs,x,h=>match q5v r x h with
  | some ls=>match ofL (qtT r) ls with
   | some v=>some (.inl v)
   | none=>none
  | none=>match rD (r' :: rs) x h with
   | some v=>some (.inr v)
   | none=>none
theorem q3R:∀ {rs:List PRes} {x:Res} {h:qam} {v:RT rs},rD rs x h = some v -> (x,h) = rE rs v
 | [],x,h,v,hh=>by simp [rD] at hh
 | [r],x,h,v,hh=>by
  simp only [rD] at hh
  split at hh
  ·rename_i ls hm
   rw [qLA hm,qsJ hh]; rfl
  ·cases hh
 | r :: r' :: rs,x,h,v,hh=>by
  simp only [rD] at hh
  split at hh
  ·rename_i ls hm
   split at hh
   ·rename_i w hw
    cases hh
    rw [qLA hm,qsJ hw]; rfl
   ·cases hh
  ·split at hh
   ·rename_i w hw
    cases hh
    exact (q3R hw).trans rfl
   ·cases hh
instance instTupI:∀ ks:List LKd,Inhabited (Tup ks)
 | []=>⟨()⟩
 | [.i]=>⟨0⟩ | [.b]=>⟨false⟩ | [.s]=>⟨[]⟩ | [.l]=>⟨[]⟩ | [.n]=>⟨0⟩ | [.m]=>⟨[]⟩
 | .i :: k :: ks=>⟨(0,(instTupI (k :: ks)).default)⟩
 | .b :: k :: ks=>⟨(false,(instTupI (k :: ks)).default)⟩
 | .s :: k :: ks=>⟨([],(instTupI (k :: ks)).default)⟩
 | .l :: k :: ks=>⟨([],(instTupI (k :: ks)).default)⟩
 | .n :: k :: ks=>⟨(0,(instTupI (k :: ks)).default)⟩
 | .m :: k :: ks=>⟨([],(instTupI (k :: ks)).default)⟩
def rL:(rs:List PRes) -> Option (RT rs) -> List (Bool × Res × qam)
 | [],_=>[]
 | [r],o=>[(sm o,q1v r (toL (qtT r) (@gv _ (instTupI _) o)))]
 | r :: r' :: rs,o=>(sm (pl o),q1v r (toL (qtT r) (@gv _ (instTupI _) (pl o)))) :: rL (r' :: rs) (pr o)
end Go.Eng
namespace Go.Eng
def FE (p:PArgs) (rs:List PRes) (G:Tup (qcv p) -> Option (RT rs)):Ent:=fun a h=>match aD p a h with
 | some v=>rL rs (G v)
 | none=>[]
def FH (IP:Prog) (f:Nat) (p:PArgs) (rs:List PRes) (G:Tup (qcv p) -> Option (RT rs)):Prop:=∀ v y,G v = some y -> qdH IP f (aE p v) (aH p v) = some (rE rs y)
theorem q3S:∀ {rs:List PRes} {o:Option (RT rs)} {r:Res} {h:qam},(true,r,h) ∈ rL rs o -> ∃ y,o = some y /\ rE rs y = (r,h)
 | [],o,r,h,hm=>by cases hm
 | [a],o,r,h,hm=>by
  simp only [rL,List.mem_singleton,Prod.mk.injEq] at hm
  obtain ⟨hb,hr⟩:=hm
  exact ⟨_,@qR4 _ (instTupI (qtT a)) o hb.symm,hr.symm⟩
 | a :: b :: rs,o,r,h,hm=>by
  simp only [rL,List.mem_cons,Prod.mk.injEq] at hm
  rcases hm with ⟨hb,hr⟩ | hm
  ·exact ⟨_,qZY (@qR4 _ (instTupI (qtT a)) (pl o) hb.symm),hr.symm⟩
  ·obtain ⟨y,h1,h2⟩:=q3S hm
   exact ⟨_,qZZ h1,h2⟩
theorem qaj {IP:Prog} {f:Nat} {p:PArgs} {rs:List PRes} {G:Tup (qcv p) -> Option (RT rs)} (hG:FH IP f p rs G):Snd IP f (FE p rs G):=by
 intro a h r h' hm
 unfold FE at hm
 split at hm
 ·rename_i v hv
  obtain ⟨y,h1,h2⟩:=q3S hm
  obtain ⟨rfl,rfl⟩:=q6W hv
  rw [hG _ _ h1,h2]
 ·cases hm
theorem qag {IP:Prog} {T:Tab} {L:qCF} {f:Nat} {F:Fun} {p:PArgs} {rs:List PRes} {G:Tup (qcv p) -> Option (RT rs)} {t:Tup (qcv p) -> DT (RT rs)} (hT:qai IP T) (hL:LOk IP L (loops F.body)) (hF:IP.fn f = some F)
  (hb:∀ v,qIO (R:=RT rs) IP (qyO T) (qt6 L) f F (aE p v) (aH p v) (rD rs) = (t v).ev) (hG:∀ v,G v = (t v).ev):FH IP f p rs G:=
 fun v _ h=>q3e hT hF hL (fun _ _ _ h=>q3R h) (hb v) ((hG v).symm.trans h)
theorem qbK {IP:Prog} {f:Nat} {p:PArgs} {rs:List PRes} {s:Nat -> Tup (qcv p) -> Option (RT rs)} (h:∀ n,FH IP f p rs (s n)):FH IP f p rs (fun v=>qka fun n=>s n v):=
 fun v y hv=>(qKP hv).elim fun n hn=>h n v y hn
theorem q21 {IP:Prog} {f:Nat} {p:PArgs} {rs:List PRes} {G:Tup (qcv p) -> Option (RT rs)} {y0:RT rs} (hG:∀ v,G v = some y0) (hc:∀ v,(qaB IP 60).1 f (aE p v) (aH p v) = some (rE rs y0)):FH IP f p rs G:=
 fun v y h=>by
  rw [hG v] at h; cases h
  exact qcW.2 ⟨60,hc v⟩
def hE:(hs:List PSt) -> qvI (hs.map qtU) -> St
 | [],v=>nomatch v
 | [r],v=>fSt r (toL (qtU r) v)
 | r :: _ :: _,.inl v=>fSt r (toL (qtU r) v)
 | _ :: r' :: rs,.inr v=>hE (r' :: rs) v
def hD:(hs:List PSt) -> St -> Option (qvI (hs.map qtU))
 | [],_=>none
 | [r],s=>match mSt r s with
  | some ls=>ofL (qtU r) ls
  | none=>none
 | r :: r' :: rs,s=>match mSt r s with
  | some ls=>match ofL (qtU r) ls with
   | some v=>some (.inl v)
   | none=>none
  | none=>match hD (r' :: rs) s with
   | some v=>some (.inr v)
   | none=>none
theorem qRD:∀ {hs:List PSt} {s:St} {v:qvI (hs.map qtU)},hD hs s = some v -> s = hE hs v
 | [],s,v,hh=>by simp [hD] at hh
 | [r],s,v,hh=>by
  simp only [hD] at hh
  split at hh
  ·rename_i ls hm
   rw [<- qVF hm,qsJ hh]; rfl
  ·cases hh
 | r :: r' :: rs,s,v,hh=>by
  simp only [hD] at hh
  split at hh
  ·rename_i ls hm
   split at hh
   ·rename_i w hw
    cases hh
    rw [<- qVF hm,qsJ hw]; rfl
   ·cases hh
  ·split at hh
   ·rename_i w hw
    cases hh
    exact (qRD hw).trans rfl
   ·cases hh
def exN {τ:Type} (l:List (τ -> X × St)) (j:Nat) (v:τ):X × St:=match l[j]? with
 | some g=>g v
 | none=>(.ret,⟨[],[],0,0⟩)
def exB {τ:Type} (l:List (τ -> X × St)) (j:Nat) (v:τ):Bool:=q9j (exN l j v).1
def q24 {τ:Type} [Inhabited τ] (o:Option (Nat × τ)) (l:List (τ -> X × St)):Nat -> Nat -> List (Bool × X × St)
 | _,0=>[]
 | j,n + 1=>((match exB l j (gv (pj j o)) with | true=>sm (pj j o) | false=>false),(exN l j (gv (pj j o))).1,(exN l j (gv (pj j o))).2) :: q24 o l (j + 1) n
theorem qI1 {τ:Type} [Inhabited τ] {o:Option (Nat × τ)} {l:List (τ -> X × St)} {x:X} {s:St}:∀ {j n:Nat},(true,x,s) ∈ q24 o l j n -> ∃ k w,o = some (k,w) /\ (x,s) = exN l k w /\ q9j (exN l k w).1 = true
 | j,0,h=>by simp [q24] at h
 | j,n + 1,h=>by
  simp only [q24,List.mem_cons,Prod.mk.injEq] at h
  rcases h with ⟨hb,hx,hs⟩ | h
  ·cases hq:exB l j (gv (pj j o)) with
   | false=>rw [hq] at hb; cases hb
   | true=>
    rw [hq] at hb
    exact ⟨j,_,q9k (qR4 hb.symm),by rw [hx,hs],hq⟩
  ·exact qI1 h
def LE {τ:Type} [Inhabited τ] (dec:St -> Option τ) (lo:τ -> Option (Nat × τ)) (l:List (τ -> X × St)):qbz:=fun s=>match dec s with
 | some v=>q24 (lo v) l 0 l.length
 | none=>[]
def cvX {τ:Type} (l:List (τ -> X × St)) (v:τ):DT (Rd τ) -> DT (Rx τ)
 | .no=>.no
 | .at (.next w)=>.at (.next w)
 | .at (.done j)=>.at (.out (exN l j v).1 (exN l j v).2)
 | .br b x y=>.br b (cvX l v x) (cvX l v y)
theorem qIT {τ:Type} {l:List (τ -> X × St)} {v:τ}:∀ {t:DT (Rd τ)},cvX l v t = cvD (fun j=>exN l j v) t
 | .no=>rfl
 | .at (.next w)=>rfl
 | .at (.done j)=>rfl
 | .br b x y=>by simp only [cvX,cvD,qIT (t:=x),qIT (t:=y)]
theorem qar {IP:Prog} {T:Tab} {L:qCF} {keep:List Nat} {c:ICode} {hs:List PSt} (I:Inhabited (qvI (hs.map qtU))) {ex:List (qvI (hs.map qtU) -> X × St)} {st:qvI (hs.map qtU) -> DT (Rd (qvI (hs.map qtU)))} {lo:qvI (hs.map qtU) -> Option (Nat × qvI (hs.map qtU))} (hT:qai IP T) (hL:LOk IP L (loops c))
  (hlo:∀ v,lo v = qap (fun v=>(st v).ev) v) (hn:∀ v,norm (hk keep) (hE hs v) = some (hE hs v))
  (hst:∀ v,qiH IP (qyO T) (qt6 L) c (hE hs v) (qZx keep (hD hs)) = (cvX ex v (st v)).ev):Told IP keep c (LE (hD hs) lo ex):=by
 have key:∀ v j w,lo v = some (j,w) -> q9j (exN ex j w).1 = true -> qih IP keep c (hE hs v) = some (exN ex j w):=by
  intro v j w h ho
  rw [hlo] at h
  have h2:∀ v,qiH IP (qyO T) (qt6 L) c (hE hs v) (qZx keep (hD hs)) = cv (fun j=>exN ex j v) ((st v).ev):=fun v=>(hst v).trans (by rw [qIT,qIS])
  replace h:=qdR.1 h
  obtain ⟨n,h⟩:=h
  induction n generalizing v with
  | zero=>simp [qgr] at h
  | succ n ih=>
   simp only [qgr] at h
   split at h
   ·rename_i v' hs'
    have hx:=h2 v
    rw [hs'] at hx
    obtain ⟨x,s',h3,h4⟩:=qhI (fun R=>qty hT) (qt7 hL) hx
    cases x with
    | normal=>
     simp only [qZx] at h4
     split at h4
     ·rename_i s1 hs1
      split at h4
      ·rename_i v2 hv2
       cases h4
       have:=qRD hv2
       subst this
       exact qB9 (hn v) h3 (qsF (by rw [hs1,hn v']) (ih v' h))
      ·cases h4
     ·cases h4
    | _=>
     simp only [qZx] at h4
     split at h4 <;> cases h4
   ·rename_i j' hs'
    cases h
    have hx:=h2 w
    rw [hs'] at hx
    obtain ⟨x,s',h3,h4⟩:=qhI (fun R=>qty hT) (qt7 hL) hx
    cases x with
    | normal=>
     simp only [qZx] at h4
     split at h4
     ·split at h4 <;> cases h4
     ·cases h4
    | _=>
     simp only [qZx] at h4
     split at h4
     ·rename_i x2 s2 ho
      simp only [Option.some.injEq,Rx.out.injEq] at h4
      obtain ⟨h5,h6⟩:=h4
      exact qB9 (hn w) h3 (by simp only [ho,h5,h6])
     ·cases h4
   ·cases h
 refine ⟨fun s x s' hm=>?_,fun s hne=>?_⟩
 ·unfold LE at hm
  split at hm
  ·rename_i v hv
   obtain ⟨k,w,h1,h2,h3⟩:=qI1 hm
   rw [qRD hv,key v k w h1 h3,<- h2]
  ·cases hm
 ·unfold LE at hne
  split at hne
  ·rename_i v hv
   rw [qRD hv]; exact hn v
  ·exact absurd rfl hne
end Go.Eng
namespace Go.Eng
section
variable {T:TypeId -> List Sh}
theorem qaX {d:Nat} {k:IntKind} {x:AV} (h:Fit maxLen T d (.int k) x):∃ n,x = .int k n /\ (Lit.int k n).wf = true:=by
 cases d with
 | zero=>exact h.elim
 | succ d=>exact h
theorem qls {d:Nat} {x:AV} (h:Fit maxLen T d .bool x):∃ b,x = .bool b:=by
 cases d with
 | zero=>exact h.elim
 | succ d=>exact h
theorem qfK {d:Nat} {x:AV} (h:Fit maxLen T d .str x):∃ s,x = .str s /\ s.length <= big:=by
 cases d with
 | zero=>exact h.elim
 | succ d=>obtain ⟨n,h,hl⟩:=h; exact ⟨n,h,Nat.le_trans hl (by decide)⟩
theorem qAf {α τ:Type} {f:τ -> α} {p:τ -> Prop}:∀ {l:List α},(∀ e ∈ l,∃ x,e = f x /\ p x) -> ∃ m:List τ,l = m.map f /\ ∀ x ∈ m,p x
 | [],_=>⟨[],rfl,by simp⟩
 | e :: l,h=>by
  obtain ⟨x,rfl,hx⟩:=h e (by simp)
  obtain ⟨m,rfl,hm⟩:=qAf (l:=l) fun e he=>h e (by simp [he])
  refine ⟨x :: m,rfl,fun y hy=>?_⟩
  rcases List.mem_cons.1 hy with rfl | hy
  ·exact hx
  ·exact hm y hy
theorem qlu {d sz:Nat} {t:TypeId} {x:AV} {τ:Type} {av:τ -> AV} {p:τ -> Prop} (h:Fit maxLen T d (.slice sz true t) x)
  (he:∀ d xs,qgd (Fit maxLen T d) (T t) xs -> ∃ y:τ,.agg xs = av y /\ p y):∃ l:List τ,x = .view sz (l.map av) /\ l.length <= big /\ ∀ y ∈ l,p y:=by
 cases d with
 | zero=>exact h.elim
 | succ d=>
  obtain ⟨es,rfl,hl,hx⟩:=h
  obtain ⟨m,rfl,hm⟩:=qAf (f:=av) (p:=p) (l:=es) fun e hx'=>by
   obtain ⟨xs,rfl,hf⟩:=hx e hx'
   exact he d xs hf
  exact ⟨m,rfl,Nat.le_trans (by simpa using hl) (by decide),hm⟩
end
end Go.Eng

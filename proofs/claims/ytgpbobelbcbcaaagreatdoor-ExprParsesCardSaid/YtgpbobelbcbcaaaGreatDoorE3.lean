/- A machine of plain values, and that what it says holds of the program. -/
import Derived.Test.YtgpbobelbcbcaaaGreatDoorE2
import Derived.KernelRfl
set_option linter.unusedVariables false
set_option linter.unusedSimpArgs false
set_option linter.unnecessarySimpa false
namespace Go.Eng
set_option linter.unusedSectionVars false
variable [Globs]
def qje (P:Program):List TypeId -> Option (List (Bool × List Sh))
 | []=>some []
 | t :: ts=>match qbf P t,qje P ts with
  | some g,some r=>if g = true \/ (shT P t).length = 1 then some ((g,shT P t) :: r) else none
  | _,_=>none
def qCL (f:Sh -> AV -> Prop):List (Bool × List Sh) -> List AV -> Prop
 | [],avs=>avs = []
 | (true,cs) :: ps,avs=>∃ xs r,avs = .agg xs :: r /\ qhU f cs xs /\ qCL f ps r
 | (false,cs) :: ps,avs=>∃ x r,avs = x :: r /\ qhU f cs [x] /\ qCL f ps r
theorem qmY {f g:Sh -> AV -> Prop} (hfg:∀ c x,f c x -> g c x):∀ {ps:List (Bool × List Sh)} {xs:List AV},qCL f ps xs -> qCL g ps xs
 | [],xs,h=>h
 | (true,cs) :: ps,xs,h=>by
  obtain ⟨ys,r,he,h1,h2⟩:=h
  exact ⟨ys,r,he,qdC hfg h1,qmY hfg h2⟩
 | (false,cs) :: ps,xs,h=>by
  obtain ⟨y,r,he,h1,h2⟩:=h
  exact ⟨y,r,he,qdC hfg h1,qmY hfg h2⟩
theorem qOF {N:Nat} {T:TypeId -> List Sh} {a b:Nat} (h:a <= b) {c:Sh} {x:AV} (hx:Fit N T a c x):Fit N T b c x:=by
 induction h with
 | refl=>exact hx
 | step _ ih=>exact qiW _ _ _ ih
section
variable {H:Type} {enc:TypeId × Value -> H} {P:Program} {w:World} {base:Nat} {spare:Nat -> Bool} {held:Bool} {I:Imm}
theorem qSm {W:World} {r:Reach} {b:Nat} {t:TypeId} {v:Value} (hg:qbf P t = some false) (hv:Value.okWide P W r b t v):v.cells = #[v]:=by
 simp only [qbf,Option.map_eq_some_iff] at hg
 obtain ⟨d,hd,hda⟩:=hg
 cases v with
 | agg cs=>cases d <;> simp_all [Value.okWide,Cell.okWide,Cell.ok]
 | _=>rfl
theorem qVK {W:World} {r:Reach} {b:Nat} {t:TypeId} {v:Value} (hg:qbf P t = some true) (hv:Value.okWide P W r b t v):∃ cs:Array Value,v = .agg cs:=by
 simp only [qbf,Option.map_eq_some_iff] at hg
 obtain ⟨d,hd,hda⟩:=hg
 cases d <;> simp at hda
 ·simp only [Value.okWide,hd] at hv
  obtain ⟨cs,h,_⟩:=hv
  exact ⟨cs,h⟩
 ·simp only [Value.okWide,hd] at hv
  obtain ⟨cs,h,_⟩:=hv
  exact ⟨cs,h⟩
theorem qxQ {qs:List TypeId} (hT:q1q P qs = true) {W:World} {r:Reach} {b0:Nat}:∀ {ts:List TypeId} {ps:List (Bool × List Sh)} {vs:List Value} {ds:List (DataW H)} {pl:List MemPlace},(∀ t ∈ ts,t ∈ qs) -> qje P ts = some ps -> DataW.TrodAll enc P w base spare held ts vs ds pl ->
  (∀ (j:Nat) t v,ts[j]? = some t -> vs[j]? = some v -> Value.okWide P W r b0 t v) -> (∀ b o,.cell b o ∈ pl -> I b o) -> ∃ d avs,qCL (Fit maxLen (shT P) d) ps avs /\ qaM w I avs m0 vs
 | [],ps,[],[],pl,_,hp,_,_,_=>by
  simp [qje] at hp; subst hp
  exact ⟨0,[],rfl,by simp [qaM]⟩
 | [],ps,_ :: _,_,pl,_,_,h,_,_=>by simp [DataW.TrodAll] at h
 | [],ps,[],_ :: _,pl,_,_,h,_,_=>by simp [DataW.TrodAll] at h
 | _ :: _,ps,[],_,pl,_,_,h,_,_=>by simp [DataW.TrodAll] at h
 | _ :: _,ps,_ :: _,[],pl,_,_,h,_,_=>by simp [DataW.TrodAll] at h
 | t :: ts,ps,v :: vs,d :: ds,pl,hq,hp,h,hv,hI=>by
  simp only [DataW.TrodAll] at h
  obtain ⟨p,q,⟨fu,hd⟩,hrest,rfl⟩:=h
  simp only [qje] at hp
  split at hp
  ·rename_i g rr hg hr
   split at hp
   ·cases hp
    have hok:=List.all_eq_true.1 hT t (hq t (by simp))
    split at hok
    ·rename_i cs hcs
     have hsh:shT P t = cs:=by simp [shT,hcs]
     simp only [Bool.and_eq_true] at hok
     obtain ⟨_,hel⟩:=hok
     obtain ⟨xs,h1,h2⟩:=qgg hT fu hcs (fun e he=>by simpa using List.all_eq_true.1 hel e he) hd fun b o hm=>hI b o (List.mem_append_left _ hm)
     obtain ⟨d',avs,h3,h4⟩:=qxQ hT (fun t ht=>hq t (by simp [ht])) hr hrest (fun j t v ht hv'=>hv (j + 1) t v (by simpa using ht) (by simpa using hv')) fun b o hm=>hI b o (List.mem_append_right _ hm)
     have h1':=qdC (fun c x=>qOF (Nat.le_max_left fu d')) h1
     have h3':=qmY (fun c x=>qOF (Nat.le_max_right fu d')) h3
     have hok:=hv 0 t v rfl rfl
     rw [hsh]
     refine ⟨max fu d',?_⟩
     cases g with
     | true=>
      obtain ⟨ca,rfl⟩:=qVK hg hok
      refine ⟨.agg xs :: avs,⟨xs,avs,rfl,h1',h3'⟩,?_⟩
      simp only [qaM,Rel]
      exact ⟨_,vs,rfl,⟨ca.toList,by simp,h2⟩,h4⟩
     | false=>
      have hcell:=qSm hg hok
      rw [hcell] at h2
      match xs,h2 with
      | [x],h2=>
       simp only [qaM] at h2
       obtain ⟨v',vs',he,h2,_⟩:=h2
       cases he
       refine ⟨x :: avs,⟨x,avs,rfl,h1',h3'⟩,?_⟩
       simp only [qaM]
       exact ⟨v,vs,rfl,h2,h4⟩
      | [],h2=>simp [qaM] at h2
      | _ :: _ :: _,h2=>
       have:=qaV h2
       simp at this
    ·cases hok
   ·cases hp
  ·cases hp
theorem qFD {IP:Prog} (hP:qCP P IP) {f:FuncId} {avs:List AV} {W:World} {vs:List Value} (hI:∀ b o,I b o -> b < W.heap.size) (hg:GlobAt W I) (hr:qaM W I avs m0 vs) {n:Nat} (hn:(qaG IP n).1 f avs [] = some (.ret (.bool true),[])) (hf:(IP.fn f).isSome = true:=by kernel_rfl) :
  Calls P f vs.toArray W fun e W'=>e = .returned (.bool true) /\ RowKit.Below W.heap.size W W':=by
 have H0:HeapAt W I m0 []:=⟨fun i b hb=>by simp [qad] at hb,fun i j a b L L' hi=>by simp [qad] at hi,hI,hg⟩
 have hC:Calls P f vs.toArray W (qJL W I m0 [] (.ret (.bool true)) []):=by
  cases n with
  | zero=>simp [qaG] at hn
  | succ n=>
   simp only [qaG] at hn
   obtain ⟨F,hF⟩:=Option.isSome_iff_exists.1 hf
   rw [hF] at hn
   exact (qjO (qny hP n).1 (qny hP n).2 (hP.1 f F hF) hn).2 W I m0 vs H0 (fun _ _=>rfl) hr
 refine hC.mono ?_
 rintro e W' ⟨I',m',hA,u,rfl,hu⟩
 simp only [Rel] at hu
 subst hu
 refine ⟨rfl,hA.stays.out.1,hA.stays.out.2.2,hA.stays.out.2.1,hA.stays.size,fun k hk=>hA.frame k hk ?_⟩
 rintro ⟨i,a,L,hi,_⟩
 simp [qad] at hi
theorem qjE (hl:laidOutB P = true) {W W':World} {sp':Nat -> Bool}:∀ {ts:List TypeId} {vs:List Value} {ds:List (DataW H)} {ps:List MemPlace},(∀ t ∈ ts,P.readableRec t = true /\ t < P.types.size) ->
  DataW.TrodAll enc P W base (fun _=>true) true ts vs ds ps -> (∀ p ∈ ps,W.sameAt W' p) -> (∀ p ∈ ps,sp' p.block = true) -> DataW.TrodAll enc P W' base sp' true ts vs ds ps
 | [],[],[],ps,_,h,_,_=>h
 | [],_ :: _,_,ps,_,h,_,_=>by simp [DataW.TrodAll] at h
 | [],[],_ :: _,ps,_,h,_,_=>by simp [DataW.TrodAll] at h
 | _ :: _,[],_,ps,_,h,_,_=>by simp [DataW.TrodAll] at h
 | _ :: _,_ :: _,[],ps,_,h,_,_=>by simp [DataW.TrodAll] at h
 | t :: ts,v :: vs,d :: ds,ps,ht,h,hs,hsp=>by
  simp only [DataW.TrodAll] at h ⊢
  obtain ⟨p,q,hd,hrest,rfl⟩:=h
  exact ⟨p,q,WideElems.Trod_stays hl (ht t (by simp)).1 (ht t (by simp)).2 hd (fun x hx=>hs x (List.mem_append_left _ hx)) fun x hx=>hsp x (List.mem_append_left _ hx),
   qjE hl (fun t' h'=>ht t' (by simp [h'])) hrest (fun x hx=>hs x (List.mem_append_right _ hx)) fun x hx=>hsp x (List.mem_append_right _ hx),rfl⟩
theorem qKJ {f:Func} {s:ChangeSpec} {fresh handsOn again:Bool} {W W':World} {args:Array Value} {ds gs:List (DataW H)} {before:List MemPlace} {tb:TypeId} (hl:laidOutB P = true) (hread:∀ t ∈ f.params.toList,P.readableRec t = true /\ t < P.types.size)
  (hvars:s.vars = []) (hres:f.resultTypes = #[tb]) (htb:P.underlying tb = some .bool) (hs1:(s.fn H (ds ++ gs)).results = [.lit (.bool true)]) (hs2:(s.fn H (ds ++ gs)).args = ds) (hs3:(s.fn H (ds ++ gs)).vars = [])
  (hW:DataW.Whole enc P f.params.toList s.vars false W args.toList ds gs before) (hb:RowKit.Below W.heap.size W W'):s.post enc P f false fresh handsOn again W args (.bool true) W':=by
 have hlt:=hW.lt
 have hW0:=hW
 obtain ⟨p,q,hA,hV,rfl,hz,hn⟩:=hW
 rw [hvars] at hV
 have hq:q = []:=by
  cases gs with
  | nil=>simpa [DataW.TrodVars] using hV
  | cons=>simp [DataW.TrodVars] at hV
 subst hq
 have hsame:∀ x ∈ p,W.sameAt W' x:=fun x hx=>hb.same (by have:=hlt x (List.mem_append_left _ hx); simpa using this)
 have hr1:∀ (b:Nat) (sp:Nat -> Bool) (hd:Bool),DataW.TrodAll enc P W' b sp hd f.resultTypes.toList ((Value.bool true).resultList f.resultTypes.size) (s.fn H (ds ++ gs)).results []:=by
  intro b sp hd
  rw [hres,hs1]
  exact ⟨[],[],⟨1,by simp [Value.resultList,Value.cells,DataW.trod,htb]⟩,rfl,rfl⟩
 have hr2:∀ sp:Nat -> Bool,(∀ x ∈ p,sp x.block = true) -> DataW.TrodAll enc P W' 0 sp true f.params.toList args.toList (s.fn H (ds ++ gs)).args p:=by
  intro sp hsp
  rw [hs2]
  exact qjE hl hread hA hsame hsp
 have hr3:∀ sp:Nat -> Bool,DataW.TrodVars enc P W' sp s.vars (s.fn H (ds ++ gs)).vars []:=by
  intro sp
  rw [hvars,hs3]
  rfl
 have hold:∀ x ∈ p,decide (x.block < W.heap.size) = true:=fun x hx=>by simpa using hlt x (List.mem_append_left _ hx)
 refine ⟨ds,gs,p ++ [],[],p,[],hW0,hr1 _ _ _,hr2 _ hold,hr3 _,hb.frame _,fun _=>⟨?_,_,_,([] ++ p) ++ [],⟨[] ++ p,[],ChangeShapes.trodAll_append (hr2 _ fun _ _=>rfl) (hr1 _ _ _),hr3 _,rfl,?_,fun h=>by cases h⟩,?_⟩⟩
 ·intro j t r hj hr
  rw [hres] at hj hr
  match j,hj,hr with
  | 0,hj,hr=>
   simp [Value.resultList] at hj hr
   subst hj; subst hr
   simp [Value.okWide,htb,Cell.okWide,Cell.ok]
 ·intro b off hp
  have hp':MemPlace.cell b off ∈ p ++ []:=by simpa using hp
  rw [hb.frozen (p:=⟨b,off,none⟩) (hlt _ hp')]
  exact hz b off hp'
 ·intro x hx _
  simpa using hx
end
end Go.Eng
namespace Go.Eng
section
variable {IP:Prog}
def LeC (c c':qa7):Prop:=∀ f a h r,c f a h = some r -> c' f a h = some r
def LeL (l l':qgM):Prop:=∀ k c s r,l k c s = some r -> l' k c s = some r
theorem qjP {c c':qa7} (hc:LeC c c') {h:Heap} {nx f:Nat} {args:List AV} {r:Res × Heap × Bool} (hs:qgP IP c h nx f args = some r):qgP IP c' h nx f args = some r:=by
 simp only [qgP] at hs ⊢
 split at hs
 ·cases hs
 ·rename_i args' roots hp
  split at hs
  ·rename_i moved shwn h1 h2
   split at hs
   ·rename_i hd
    split at hs
    ·cases hs
    ·rename_i r0 h0 hcl
     simp only [h1,h2,hd,if_true,hc _ _ _ _ hcl]
     exact hs
   ·cases hs
  ·cases hs
theorem qrs {c c':qa7} (hc:LeC c c') {nx:Nat} {ev:Opd -> AV} {h:Heap} {io:IOp} {r:Res × Heap × Bool} (hs:opS IP c nx ev h io = some r):opS IP c' nx ev h io = some r:=by
 cases io <;> try exact hs
 case call f xs=>exact qjP hc hs
 case callv x xs=>
  simp only [opS] at hs ⊢
  split at hs
  ·exact qjP hc hs
  ·cases hs
 case invk tbl x xs=>
  simp only [opS] at hs ⊢
  split at hs
  ·split at hs
   ·exact qjP hc hs
   ·cases hs
  ·cases hs
theorem qqk {c c':qa7} (hc:LeC c c') {nx:Nat} {o:IOper} {e:Env} {h:Heap} {s:Step} (hs:qb9 IP c nx o e h = some s):qb9 IP c' nx o e h = some s:=by
 simp only [qb9] at hs ⊢
 split at hs
 ·cases hs
 ·exact hs
 ·split at hs
  ·cases hs
  ·rename_i r hr
   split at hs
   ·cases hs
   ·rename_i v out w ho
    simp only [qrs hc ho]
    exact hs
   ·rename_i v out w ho
    simp only [qrs hc ho]
    exact hs
theorem qiA {c c':qa7} (hc:LeC c c'):∀ {ops:List IOper} {e:Env} {h:Heap} {nx:Nat} {log:List Step} {r:X × Env × Heap × List Step},qc8 IP c ops e h nx log = some r -> qc8 IP c' ops e h nx log = some r
 | [],e,h,nx,log,r,hs=>hs
 | o :: ops,e,h,nx,log,r,hs=>by
  simp only [qc8] at hs ⊢
  cases hq:qb9 IP c nx o e h with
  | none=>simp [hq] at hs
  | some s=>
   rw [qqk hc hq]
   rw [hq] at hs
   cases s with
   | pan a b d=>exact hs
   | skip=>exact qiA hc hs
   | did a b d f=>exact qiA hc hs
theorem qiz {c c':qa7} (hc:LeC c c') {base:Nat}:∀ {ops:List IOper} {i:Nat} {e:Env} {h:Heap} {log:List Step} {r:Option AV × Env × Heap × List Step},qdg IP c base i ops e h log = some r -> qdg IP c' base i ops e h log = some r
 | [],i,e,h,log,r,hs=>hs
 | o :: ops,i,e,h,log,r,hs=>by
  simp only [qdg] at hs ⊢
  cases hq:qb9 IP c (base + 16 * i) o e h with
  | none=>simp [hq] at hs
  | some s=>
   rw [qqk hc hq]
   rw [hq] at hs
   simp only at hs ⊢
   split at hs
   ·exact hs
   ·split at hs
    ·rename_i ht
     rw [if_pos ht]
     exact qiz hc hs
    ·cases hs
theorem qo4 {c c':qa7} (hc:LeC c c') {ops:List IOper} {d:Option (List (List Nat))} {s:St} {r:X × St} (hs:qbC IP c ops d s = some r):qbC IP c' ops d s = some r:=by
 simp only [qbC] at hs ⊢
 split at hs
 ·split at hs
  ·cases hs
  ·rename_i q; rw [qiA hc q]; exact hs
 ·split at hs
  ·cases hs
  ·rename_i q; simp only [qiz hc q]; exact hs
  ·rename_i q; simp only [qiz hc q]; exact hs
theorem qmn {c c':qa7} (hc:LeC c c') {l l':qgM} (hl:LeL l l'):∀ {ic:ICode} {s:St} {r:X × St},qdc IP c l ic s = some r -> qdc IP c' l' ic s = some r:=by
 intro ic
 induction ic with
 | skip=>intro s r h; exact h
 | region ops d=>intro s r h; exact qo4 hc h
 | seq a b iha ihb=>
  intro s r h
  simp only [qdc] at h ⊢
  split at h
  ·rename_i s1 h1
   rw [iha h1]
   exact ihb h
  ·rename_i hne
   rw [iha h]
   split
   ·rename_i s1 he
    cases he
    exact absurd h (hne s1)
   ·rfl
 | cond x a b iha ihb=>
  intro s r h
  simp only [qdc] at h ⊢
  split at h
  ·exact iha h
  ·exact ihb h
  ·cases h
 | block id a ih=>
  intro s r h
  simp only [qdc] at h ⊢
  split at h
  ·rename_i j s1 h1
   rw [ih h1]; exact h
  ·rename_i hne
   rw [ih h]
   split
   ·rename_i j s1 he
    cases he
    exact absurd h (hne j s1)
   ·rfl
 | loop k a ih=>intro s r h; exact hl _ _ _ _ h
 | exit id=>intro s r h; exact h
 | ret=>intro s r h; exact h
theorem qDz {c c':qa7} (hc:LeC c c') {l l':qgM} (hl:LeL l l') {f:Nat} {F:Fun} {args:List AV} {h:Heap} {r:Res × Heap} (hs:body IP c l f F args h = some r):body IP c' l' f F args h = some r:=by
 simp only [body] at hs ⊢
 cases hq:qdc IP c l F.body ⟨params 0 args,h,h.length,h.length⟩ with
 | none=>simp [hq] at hs
 | some q=>rw [qmn hc hl hq]; rw [hq] at hs; exact hs
theorem qkS:∀ n,LeC (qaG IP n).1 (qaG IP (n + 1)).1 /\ LeL (qaG IP n).2 (qaG IP (n + 1)).2
 | 0=>⟨fun f a h r hr=>by simp [qaG] at hr,fun k c s r hr=>by simp [qaG] at hr⟩
 | n + 1=>by
  obtain ⟨h1,h2⟩:=qkS n
  constructor
  ·intro f a h r hr
   have e1:(qaG IP (n + 1)).1 f a h = match IP.fn f with
    | some F=>body IP (qaG IP n).1 (qaG IP n).2 f F a h
    | none=>match IP.spec f with
     | some g=>g a h
     | none=>match IP.seen f with
      | some s=>s.g (qaG IP n).1 a h
      | none=>none:=rfl
   have e2:(qaG IP (n + 1 + 1)).1 f a h = match IP.fn f with
    | some F=>body IP (qaG IP (n + 1)).1 (qaG IP (n + 1)).2 f F a h
    | none=>match IP.spec f with
     | some g=>g a h
     | none=>match IP.seen f with
      | some s=>s.g (qaG IP (n + 1)).1 a h
      | none=>none:=rfl
   rw [e1] at hr
   rw [e2]
   split at hr
   ·exact qDz h1 h2 hr
   ·split at hr
    ·exact hr
    ·split at hr
     ·rename_i s hs
      exact s.mono _ _ h1 _ _ _ hr
     ·cases hr
  ·intro k c s r hr
   have e1:∀ m,(qaG IP (m + 1)).2 k c s = match norm (hk k) s with
    | none=>none
    | some s=>match qdc IP (qaG IP m).1 (qaG IP m).2 c s with
     | some (.normal,s)=>(qaG IP m).2 k c s
     | some (x,s)=>qKX k x s
     | none=>none:=fun _=>rfl
   rw [e1] at hr ⊢
   split at hr
   ·cases hr
   ·rename_i s1 hn
    split at hr
    ·rename_i s2 hx
     simp only [qmn h1 h2 hx]
     exact h2 _ _ _ _ hr
    ·rename_i x s2 hne hx
     simp only [qmn h1 h2 hx]
     cases x with
     | normal=>exact absurd rfl (hne)
     | _=>exact hr
    ·cases hr
theorem qbB {n m:Nat} (h:n <= m):LeC (qaG IP n).1 (qaG IP m).1 /\ LeL (qaG IP n).2 (qaG IP m).2:=by
 induction h with
 | refl=>exact ⟨fun _ _ _ _ h=>h,fun _ _ _ _ h=>h⟩
 | step _ ih=>
  obtain ⟨h1,h2⟩:=qkS (IP:=IP) _
  exact ⟨fun f a h r hr=>h1 _ _ _ _ (ih.1 _ _ _ _ hr),fun k c s r hr=>h2 _ _ _ _ (ih.2 _ _ _ _ hr)⟩
open Classical in
noncomputable def qbs (IP:Prog):qa7:=fun f a h=>if hx:∃ n r,(qaG IP n).1 f a h = some r then (qaG IP (Classical.choose hx)).1 f a h else none
open Classical in
noncomputable def qit (IP:Prog):qgM:=fun k c s=>if hx:∃ n r,(qaG IP n).2 k c s = some r then (qaG IP (Classical.choose hx)).2 k c s else none
theorem qb0 {f:Nat} {a:List AV} {h:Heap} {r:Res × Heap}:qbs IP f a h = some r ↔ ∃ n,(qaG IP n).1 f a h = some r:=by
 constructor
 ·intro hr
  simp only [qbs] at hr
  split at hr
  ·exact ⟨_,hr⟩
  ·cases hr
 ·rintro ⟨n,hn⟩
  have hx:∃ n r,(qaG IP n).1 f a h = some r:=⟨n,r,hn⟩
  simp only [qbs,dif_pos hx]
  obtain ⟨r',hr'⟩:=Classical.choose_spec hx
  rw [hr']
  rcases Nat.le_total n (Classical.choose hx) with hle | hle
  ·rw [(qbB hle).1 _ _ _ _ hn] at hr'; exact hr'.symm
  ·have:=(qbB hle).1 _ _ _ _ hr'
   rw [hn] at this; exact this.symm
theorem qfx {k:List Nat} {c:ICode} {s:St} {r:X × St}:qit IP k c s = some r ↔ ∃ n,(qaG IP n).2 k c s = some r:=by
 constructor
 ·intro hr
  simp only [qit] at hr
  split at hr
  ·exact ⟨_,hr⟩
  ·cases hr
 ·rintro ⟨n,hn⟩
  have hx:∃ n r,(qaG IP n).2 k c s = some r:=⟨n,r,hn⟩
  simp only [qit,dif_pos hx]
  obtain ⟨r',hr'⟩:=Classical.choose_spec hx
  rw [hr']
  rcases Nat.le_total n (Classical.choose hx) with hle | hle
  ·rw [(qbB hle).2 _ _ _ _ hn] at hr'; exact hr'.symm
  ·have:=(qbB hle).2 _ _ _ _ hr'
   rw [hn] at this; exact this.symm
theorem qme {h:Heap} {nx f:Nat} {args:List AV} {r:Res × Heap × Bool} (hs:qgP IP (qbs IP) h nx f args = some r):∃ n0,∀ n,n0 <= n -> qgP IP (qaG IP n).1 h nx f args = some r:=by
 have hs0:=hs
 simp only [qgP] at hs
 split at hs
 ·cases hs
 ·rename_i args' roots hp
  split at hs
  ·rename_i moved shwn h1 h2
   split at hs
   ·rename_i hd
    split at hs
    ·cases hs
    ·rename_i r0 h0 hcl
     obtain ⟨n0,hn0⟩:=qb0.1 hcl
     refine ⟨n0,fun n hn=>?_⟩
     have:=(qbB hn).1 _ _ _ _ hn0
     simp only [qgP,hp,h1,h2,hd,if_true,this]
     exact hs
   ·cases hs
  ·cases hs
theorem qGI {nx:Nat} {ev:Opd -> AV} {h:Heap} {io:IOp} {r:Res × Heap × Bool} (hs:opS IP (qbs IP) nx ev h io = some r):∃ n0,∀ n,n0 <= n -> opS IP (qaG IP n).1 nx ev h io = some r:=by
 cases io <;> try exact ⟨0,fun n _=>hs⟩
 case call f xs=>exact qme hs
 case callv x xs=>
  simp only [opS] at hs ⊢
  split at hs
  ·exact qme hs
  ·cases hs
 case invk tbl x xs=>
  simp only [opS] at hs ⊢
  split at hs
  ·split at hs
   ·exact qme hs
   ·cases hs
  ·cases hs
theorem qvg {nx:Nat} {o:IOper} {e:Env} {h:Heap} {s:Step} (hs:qb9 IP (qbs IP) nx o e h = some s):∃ n0,∀ n,n0 <= n -> qb9 IP (qaG IP n).1 nx o e h = some s:=by
 simp only [qb9] at hs ⊢
 split at hs
 ·cases hs
 ·exact ⟨0,fun n _=>hs⟩
 ·split at hs
  ·cases hs
  ·rename_i r hr
   split at hs
   ·cases hs
   ·rename_i v out w ho
    obtain ⟨n0,h0⟩:=qGI ho
    exact ⟨n0,fun n hn=>by simp only [h0 n hn]; exact hs⟩
   ·rename_i v out w ho
    obtain ⟨n0,h0⟩:=qGI ho
    exact ⟨n0,fun n hn=>by simp only [h0 n hn]; exact hs⟩
theorem qki:∀ {ops:List IOper} {e:Env} {h:Heap} {nx:Nat} {log:List Step} {r:X × Env × Heap × List Step},qc8 IP (qbs IP) ops e h nx log = some r -> ∃ n0,∀ n,n0 <= n -> qc8 IP (qaG IP n).1 ops e h nx log = some r
 | [],e,h,nx,log,r,hs=>⟨0,fun n _=>hs⟩
 | o :: ops,e,h,nx,log,r,hs=>by
  simp only [qc8] at hs ⊢
  cases hq:qb9 IP (qbs IP) nx o e h with
  | none=>simp [hq] at hs
  | some s=>
   obtain ⟨n0,h0⟩:=qvg hq
   rw [hq] at hs
   cases s with
   | pan a b d=>exact ⟨n0,fun n hn=>by rw [h0 n hn]; exact hs⟩
   | skip=>
    obtain ⟨n1,h1⟩:=qki hs
    exact ⟨max n0 n1,fun n hn=>by rw [h0 n (by omega)]; exact h1 n (by omega)⟩
   | did a b d f=>
    obtain ⟨n1,h1⟩:=qki hs
    exact ⟨max n0 n1,fun n hn=>by rw [h0 n (by omega)]; exact h1 n (by omega)⟩
theorem qkh {base:Nat}:∀ {ops:List IOper} {i:Nat} {e:Env} {h:Heap} {log:List Step} {r:Option AV × Env × Heap × List Step},qdg IP (qbs IP) base i ops e h log = some r -> ∃ n0,∀ n,n0 <= n -> qdg IP (qaG IP n).1 base i ops e h log = some r
 | [],i,e,h,log,r,hs=>⟨0,fun n _=>hs⟩
 | o :: ops,i,e,h,log,r,hs=>by
  simp only [qdg] at hs ⊢
  cases hq:qb9 IP (qbs IP) (base + 16 * i) o e h with
  | none=>simp [hq] at hs
  | some s=>
   obtain ⟨n0,h0⟩:=qvg hq
   rw [hq] at hs
   simp only at hs
   split at hs
   ·rename_i hp
    exact ⟨n0,fun n hn=>by rw [h0 n hn]; simp only [hp]; exact hs⟩
   ·rename_i hp
    split at hs
    ·rename_i ht
     obtain ⟨n1,h1⟩:=qkh hs
     exact ⟨max n0 n1,fun n hn=>by rw [h0 n (by omega)]; simp only [hp]; rw [if_pos ht]; exact h1 n (by omega)⟩
    ·cases hs
theorem qrK {ops:List IOper} {d:Option (List (List Nat))} {s:St} {r:X × St} (hs:qbC IP (qbs IP) ops d s = some r):∃ n0,∀ n,n0 <= n -> qbC IP (qaG IP n).1 ops d s = some r:=by
 simp only [qbC] at hs ⊢
 cases d with
 | none=>
  simp only at hs ⊢
  split at hs
  ·cases hs
  ·rename_i q
   obtain ⟨n0,h0⟩:=qki q
   exact ⟨n0,fun n hn=>by rw [h0 n hn]; exact hs⟩
 | some bf=>
  simp only at hs ⊢
  split at hs
  ·cases hs
  ·rename_i q
   obtain ⟨n0,h0⟩:=qkh q
   exact ⟨n0,fun n hn=>by simp only [h0 n hn]; exact hs⟩
  ·rename_i q
   obtain ⟨n0,h0⟩:=qkh q
   exact ⟨n0,fun n hn=>by simp only [h0 n hn]; exact hs⟩
theorem qxY:∀ {ic:ICode} {s:St} {r:X × St},qdc IP (qbs IP) (qit IP) ic s = some r -> ∃ n0,∀ n,n0 <= n -> qdc IP (qaG IP n).1 (qaG IP n).2 ic s = some r:=by
 intro ic
 induction ic with
 | skip=>intro s r h; exact ⟨0,fun n _=>h⟩
 | region ops d=>intro s r h; exact qrK h
 | seq a b iha ihb=>
  intro s r h
  simp only [qdc] at h ⊢
  split at h
  ·rename_i s1 h1
   obtain ⟨n0,h0⟩:=iha h1
   obtain ⟨n1,h1⟩:=ihb h
   exact ⟨max n0 n1,fun n hn=>by rw [h0 n (by omega)]; exact h1 n (by omega)⟩
  ·rename_i hne
   obtain ⟨n0,h0⟩:=iha h
   refine ⟨n0,fun n hn=>?_⟩
   rw [h0 n hn]
   split
   ·rename_i s1 he
    cases he
    exact absurd h (hne s1)
   ·rfl
 | cond x a b iha ihb=>
  intro s r h
  simp only [qdc] at h ⊢
  split at h
  ·exact iha h
  ·exact ihb h
  ·cases h
 | block id a ih=>
  intro s r h
  simp only [qdc] at h ⊢
  split at h
  ·rename_i j s1 h1
   obtain ⟨n0,h0⟩:=ih h1
   exact ⟨n0,fun n hn=>by rw [h0 n hn]; exact h⟩
  ·rename_i hne
   obtain ⟨n0,h0⟩:=ih h
   refine ⟨n0,fun n hn=>?_⟩
   rw [h0 n hn]
   split
   ·rename_i j s1 he
    cases he
    exact absurd h (hne j s1)
   ·rfl
 | loop k a ih=>
  intro s r h
  obtain ⟨n0,h0⟩:=qfx.1 h
  exact ⟨n0,fun n hn=>(qbB hn).2 _ _ _ _ h0⟩
 | exit id=>intro s r h; exact ⟨0,fun n _=>h⟩
 | ret=>intro s r h; exact ⟨0,fun n _=>h⟩
theorem qzU {f:Nat} {g:List AV -> Heap -> Option (Res × Heap)} (hF:IP.fn f = none) (hS:IP.spec f = some g) {a:List AV} {h:Heap} {r:Res × Heap} (hr:g a h = some r):qbs IP f a h = some r:=
 qb0.2 ⟨1,by simp only [qaG,hF,hS]; exact hr⟩
theorem qhw {f:Nat} {s:Seen} (hF:IP.fn f = none) (hS:IP.spec f = none) (hs:IP.seen f = some s) {a:List AV} {h:Heap} {r:Res × Heap} {n:Nat} (hr:s.g (qaG IP n).1 a h = some r):qbs IP f a h = some r:=
 qb0.2 ⟨n + 1,by simp only [qaG,hF,hS,hs]; exact hr⟩
theorem qKd {f:Nat} {F:Fun} (hF:IP.fn f = some F) {a:List AV} {h:Heap} {r:Res × Heap} (hb:body IP (qbs IP) (qit IP) f F a h = some r):qbs IP f a h = some r:=by
 simp only [body] at hb
 cases hq:qdc IP (qbs IP) (qit IP) F.body ⟨params 0 a,h,h.length,h.length⟩ with
 | none=>simp [hq] at hb
 | some q=>
  obtain ⟨n0,h0⟩:=qxY hq
  refine qb0.2 ⟨n0 + 1,?_⟩
  simp only [qaG,hF,body,h0 n0 (Nat.le_refl _)]
  rw [hq] at hb
  exact hb
theorem qy3 {k:List Nat} {c:ICode} {s s1:St} (hn:norm (hk k) s = some s1) {x:X} {s2:St} (hx:qdc IP (qbs IP) (qit IP) c s1 = some (x,s2)) {r:X × St} (hr:(match x with | .normal=>qit IP k c s2 | x=>qKX k x s2) = some r):qit IP k c s = some r:=by
 obtain ⟨n0,h0⟩:=qxY hx
 cases x with
 | normal=>
  obtain ⟨n1,h1⟩:=qfx.1 hr
  refine qfx.2 ⟨max n0 n1 + 1,?_⟩
  simp only [qaG,hn,h0 (max n0 n1) (by omega)]
  exact (qbB (by omega)).2 _ _ _ _ h1
 | _=>
  refine qfx.2 ⟨n0 + 1,?_⟩
  simp only [qaG,hn,h0 n0 (Nat.le_refl _)]
  exact hr
end
end Go.Eng
namespace Go.Eng
def qaA (s:List UInt8) (i:Int):Int:=((qd5 s i).getD 0).toNat
def inB (n:Nat) (i:Int):Bool:=decide (0 <= i) && decide (i < n)
theorem qDu {α:Type} {l:List α} {i:Int} (h:inB l.length i = true):∃ x,qd5 l i = some x:=by
 simp only [inB,Bool.and_eq_true,decide_eq_true_eq] at h
 have:i.toNat < l.length:=by omega
 exact ⟨l[i.toNat],by simp [qd5,h.1,this]⟩
def qGc:Option AV -> Nat
 | some (.int _ n)=>n.toNat
 | _=>0
def qj2 (len:Nat):Option AV -> Nat
 | some (.int _ n)=>n.toNat
 | _=>len
def leB (n:Int) (m:Nat):Bool:=decide (0 <= n) && decide (n <= m)
def qTy (len cap:Nat) (lo hi:Option AV):Bool:=
 (match hi with
  | none=>true
  | some (.int _ n)=>leB n cap
  | _=>false) &&
 (match lo with
  | none=>true
  | some (.int _ n)=>leB n (qj2 len hi)
  | _=>false)
theorem qiQ {len cap:Nat} {lo hi:Option AV} (h:qTy len cap lo hi = true):qeR len cap lo hi = some (qGc lo,qj2 len hi):=by
 simp only [qTy,Bool.and_eq_true] at h
 obtain ⟨h1,h2⟩:=h
 have e1:qA2 len cap hi = some (qj2 len hi):=by
  cases hi with
  | none=>rfl
  | some v=>cases v <;> simp_all [leB,qA2,qj2]
 simp only [qeR,e1]
 cases lo with
 | none=>rfl
 | some v=>cases v <;> simp_all [leB,qSj,qGc]
def qTA {α:Type} (es:List α) (lo hi:Option AV):List α:=match lo,hi with
 | none,none=>es
 | none,some h=>es.take (qj2 es.length (some h))
 | some l,none=>es.drop (qGc (some l))
 | some l,some h=>(es.drop (qGc (some l))).take (qj2 es.length (some h) - qGc (some l))
theorem qDF {α:Type} (es:List α) (lo hi:Option AV):qTA es lo hi = (es.drop (qGc lo)).take (qj2 es.length hi - qGc lo):=by
 cases lo <;> cases hi
 ·simp [qTA,qGc,qj2]
 ·simp [qTA,qGc]
 ·rename_i v
  simp only [qTA]
  rw [show qj2 es.length none = es.length from rfl,List.take_of_length_le (by simp)]
 ·rfl
abbrev Alt:=Bool × (Res × Heap × Bool)
def room (n bytes:Nat):Bool:=decide (n * bytes <= lim)
def leO (off n:Nat):Bool:=match off with
 | 0=>true
 | k + 1=>decide (k + 1 <= n)
theorem qVL {off n:Nat} (h:leO off n = true):off <= n:=by
 cases off
 ·omega
 ·exact of_decide_eq_true h
def q0o (h:Heap) (sz:Nat):AV -> Option (Bool × List AV)
 | .nils _=>some (true,[])
 | .view sz' es=>some (decide (sz' = sz),es)
 | .own id off lo=>match qad h id with
  | some (.arr sz' es _)=>match lo with
   | some len=>some (decide (sz' = sz) && decide (off + len <= es.length),qvk es off (some len))
   | none=>some (decide (sz' = sz),qtl es off)
  | _=>none
 | _=>none
theorem qSI {h:Heap} {sz:Nat} {v:AV} {es:List AV} (hs:q0o h sz v = some (true,es)):qrM h sz v = some es:=by
 cases v <;> simp only [q0o,qrM] at hs ⊢ <;> try (simp at hs; done)
 case nils=>simpa using hs
 case view sz' es'=>simp at hs; simp [hs]
 case own id off lo=>
  split at hs
  ·rename_i sz' es' fz hl
   rw [hl]
   cases lo with
   | none=>simp at hs; simp [hs]
   | some len=>simp at hs; simp [hs]
  ·cases hs
def qqL (h:Heap) (nx sz bytes:Nat) (s:AV) (b:Bool) (src:List AV):List Alt:=
  match s with
  | .nils ⟨_,.non⟩=>[(decide (src.length = 0) && b,.ret s,h,true)]
  | .nils _=>[(decide (src.length = 0) && b,.ret s,h,true),(decide (src.length ≠ 0) && (b && room src.length bytes),.ret (.own nx 0 none),qch h nx (.arr sz src false),true)]
  | .own id off lo=>match qad h id with
    | some (.arr sz' es false)=>match lo with
      | none=>
        [(decide (src.length = 0) && (decide (sz' = sz) && b),.ret s,h,true),
         (decide (src.length ≠ 0) && (decide (sz' = sz) && (b && (leO off es.length && room (qgH es.length off none + src.length) bytes))),.ret (.own nx 0 none),qch (qwV h id) nx (.arr sz (qtl es off ++ src) false),true)]
      | some len=>
        [(decide (src.length = 0) && (decide (sz' = sz) && b),.ret s,h,true),
         (decide (src.length ≠ 0) && (decide (sz' = sz) && (decide (off + len + src.length <= es.length) && b)),.ret (.own id off (some (len + src.length))),qch h id (.arr sz (es.take (off + len) ++ src ++ es.drop (off + len + src.length)) false),true),
         (decide (src.length ≠ 0) && (decide (sz' = sz) && (decide (es.length < off + len + src.length) && (b && (decide (off + len <= es.length) && room (len + src.length) bytes)))),.ret (.own nx 0 none),qch (qwV h id) nx (.arr sz (qvk es off (some len) ++ src) false),true)]
    | _=>[]
  | .view _ _=>[(decide (src.length = 0) && b,.ret s,h,true)]
  | _=>[]
def ownB (num off:Nat) (lo:Option Nat) (i:Int):Bool:=match off,lo with
 | 0,none=>inB num i
 | _,_=>inB (qgH num off lo) i && decide (off + i.toNat < num)
theorem ownB_of {num off:Nat} {lo:Option Nat} {i:Int} (h:ownB num off lo i = true):0 <= i /\ i < qgH num off lo /\ off + i.toNat < num:=by
 unfold ownB at h
 split at h
 ·simp only [inB,Bool.and_eq_true,decide_eq_true_eq] at h
  exact ⟨h.1,h.2,by omega⟩
 ·simp only [inB,Bool.and_eq_true,decide_eq_true_eq] at h
  exact ⟨h.1.1,h.1.2,h.2⟩
def qY7 (num off:Nat) (lo:Option Nat) (hi:Option AV):Bool:=match off,lo,hi with
 | 0,none,none=>true
 | _,_,_=>decide (off + qj2 (qgH num off lo) hi <= num)
theorem qR0 {num off:Nat} {lo:Option Nat} {hi:Option AV} (h:qY7 num off lo hi = true):off + qj2 (qgH num off lo) hi <= num:=by
 unfold qY7 at h
 split at h
 ·simp [qj2,qgH]
 ·exact of_decide_eq_true h
def qVX (ks:Key) (m:List (AV × AV)) (k v:AV):List (AV × AV):=(qBq ks m k v).getD []
def qVU (ks:Key) (m:List (AV × AV)) (k:AV):List (AV × AV):=(qKQ ks m k).getD []
def qVW (ks:Key) (m:List (AV × AV)) (k v:AV):Bool:=isKey ks k && (qBq ks m k v).isSome
def qVT (ks:Key) (m:List (AV × AV)) (k:AV):Bool:=isKey ks k && (qKQ ks m k).isSome
def alts (nx:Nat) (ev:Opd -> AV) (h:Heap):IOp -> List Alt
 | .idxs x i=>match ev x,ev i with
  | .str s,.int _ j=>[(inB s.length j,.ret (.int .u8 (qaA s j)),h,false)]
  | _,_=>[]
 | .slc sz x lo hi=>match ev x with
  | .view sz' es=>[(decide (sz' = sz) && qTy es.length es.length (qbE ev lo) (qbE ev hi),.ret (.view sz (qTA es (qbE ev lo) (qbE ev hi))),h,false)]
  | .own id off len=>match qad h id with
   | some (.arr sz' es _)=>[(decide (sz' = sz) && (qTy (qgH es.length off len) (qgH es.length off none) (qbE ev lo) (qbE ev hi) && qY7 es.length off len (qbE ev hi)),
     .ret (.own id (off + qGc (qbE ev lo)) (qXO len hi (qj2 (qgH es.length off len) (qbE ev hi) - qGc (qbE ev lo)))),h,false)]
   | _=>[]
  | .nils z=>[(qTy 0 0 (qbE ev lo) (qbE ev hi),.ret (.nils z),h,false)]
  | _=>[]
 | .slcs x lo hi=>match ev x with
  | .str s=>[(qTy s.length s.length (qbE ev lo) (qbE ev hi),.ret (.str (qTA s (qbE ev lo) (qbE ev hi))),h,false)]
  | _=>[]
 | .slc3 x lo hi mx=>match ev lo,ev hi,ev mx with
  | .int _ l,.int _ u,.int _ m=>match ev x with
   | .view _ es=>[(decide (0 <= l) && decide (l <= u) && decide (u <= m) && decide (m <= es.length),.ret .junk,h,false)]
   | .own id off _=>match qad h id with
    | some (.arr _ es _)=>[(decide (0 <= l) && decide (l <= u) && decide (u <= m) && decide (m <= ((es.length - off:Nat):Int)),.ret .junk,h,false)]
    | _=>[]
   | _=>[]
  | _,_,_=>[]
 | .iaddr sz _ x i=>match ev x,ev i with
  | .own id off len,.int _ i=>match qad h id with
   | some (.arr sz' es _)=>[(decide (sz' = sz) && ownB es.length off len i,.ret (.ref id (qXS off i) 0),h,false)]
   | _=>[]
  | _,_=>[]
 | .eqn k neg x y=>match k,ev x,ev y with
  | .s,.view _ es,.nils ⟨_,.nil⟩=>[(decide (es.length ≠ 0),.ret (.bool neg),h,false)]
  | .s,.nils ⟨_,.nil⟩,.view _ es=>[(decide (es.length ≠ 0),.ret (.bool neg),h,false)]
  | _,_,_=>[]
 | .app sz bytes s x=>match q0o h sz (ev x) with
  | some (b,src)=>qqL h nx sz bytes (ev s) b src
  | none=>[]
 | .clr sz z x=>match ev x with
  | .own id off lo=>match qad h id with
   | some (.arr sz' es false)=>[(decide (sz' = sz) && decide (off + qgH es.length off lo <= es.length),.ret unit,qch h id (.arr sz (es.take off ++ List.replicate (qgH es.length off lo) (nz z) ++ es.drop (off + qgH es.length off lo)) false),true)]
   | _=>[]
  | _=>[]
 | .mks sz bytes z l c=>match ev l,ev c with
  | .int _ l',.int _ c'=>[(decide (0 <= l') && decide (l' <= c') && room c'.toNat bytes && decide (c' <= 4611686018427387904),.ret (.own nx 0 (if qLc l c then none else some l'.toNat)),qch h nx (.arr sz (List.replicate c'.toNat (nz z)) false),false)]
  | _,_=>[]
 | .mupd ks m k v=>match ev m with
  | .mref id=>match idsA (ev k),idsA (ev v),qad h id with
   | [],[],some (.mp kvs)=>[(qVW ks kvs (ev k) (nz (ev v)),.ret unit,qch h id (.mp (qVX ks kvs (ev k) (nz (ev v)))),true)]
   | _,_,_=>[]
  | _=>[]
 | .mdel ks m k=>match ev m with
  | .mref id=>match qad h id with
   | some (.mp kvs)=>[(qVT ks kvs (ev k),.ret unit,qch h id (.mp (qVU ks kvs (ev k))),true)]
   | _=>[]
  | _=>[]
 | .bin .quo x y=>match ev x,ev y with
  | .int k a,.int k' b=>[(decide (k = k') && decide (b ≠ 0),.ret (.int k (k.wrap (a.tdiv b))),h,false)]
  | _,_=>[]
 | .bin .rem x y=>match ev x,ev y with
  | .int k a,.int k' b=>[(decide (k = k') && decide (b ≠ 0),.ret (.int k (a.tmod b)),h,false)]
  | _,_=>[]
 | .bin .shl x y=>match ev x,ev y with
  | .int k a,.int _ b=>[(decide (0 <= b),.ret (.int k (k.wrap (a * 2 ^ (min b.toNat k.bits)))),h,false)]
  | _,_=>[]
 | .bin .shr x y=>match ev x,ev y with
  | .int k a,.int _ b=>[(decide (0 <= b),.ret (.int k (a.fdiv (2 ^ (min b.toNat k.bits)))),h,false)]
  | _,_=>[]
 | .bin .add x y=>match ev x,ev y with
  | .str a,.str b=>[(decide (a.length + b.length <= 4611686018427387904),.ret (.str (a ++ b)),h,false)]
  | _,_=>[]
 | _=>[]
theorem qzQ {h:Heap} {nx sz bytes:Nat} {s:AV} {src:List AV} {b:Bool} {r:Res × Heap × Bool} (hm:(true,r) ∈ qqL h nx sz bytes s b src):b = true /\ ∃ v h',qzP h nx sz bytes s src = some (v,h') /\ r = (.ret v,h',true):=by
 cases s <;> simp only [qqL] at hm <;> try (simp at hm; done)
 case nils q=>
  obtain ⟨q,k⟩:=q
  cases k <;> simp only [qqL] at hm
  case non=>
   simp only [List.mem_cons,Prod.mk.injEq,List.not_mem_nil,or_false] at hm
   obtain ⟨hb,rfl⟩:=hm
   simp only [eq_comm (a:=true),Bool.and_eq_true,decide_eq_true_eq] at hb
   exact ⟨hb.2,_,_,by simp [qzP,hb.1],rfl⟩
  all_goals
   simp only [List.mem_cons,Prod.mk.injEq,List.not_mem_nil,or_false] at hm
   rcases hm with ⟨hb,rfl⟩ | ⟨hb,rfl⟩ <;> simp only [eq_comm (a:=true),Bool.and_eq_true,decide_eq_true_eq,room] at hb
   ·exact ⟨hb.2,_,_,by simp [qzP,hb.1],rfl⟩
   ·obtain ⟨h1,h0,h2⟩:=hb
    exact ⟨h0,_,_,by simp only [qzP]; rw [if_neg h1,if_pos h2],rfl⟩
 case view sz' es=>
  simp only [List.mem_cons,Prod.mk.injEq,List.not_mem_nil,or_false] at hm
  obtain ⟨hb,rfl⟩:=hm
  simp only [eq_comm (a:=true),Bool.and_eq_true,decide_eq_true_eq] at hb
  exact ⟨hb.2,_,_,by simp only [qzP]; rw [if_pos hb.1],rfl⟩
 case own id off lo=>
  split at hm
  ·rename_i sz' es hl
   cases lo with
   | none=>
    simp only [List.mem_cons,Prod.mk.injEq,List.not_mem_nil,or_false] at hm
    rcases hm with ⟨hb,rfl⟩ | ⟨hb,rfl⟩ <;> simp only [eq_comm (a:=true),Bool.and_eq_true,decide_eq_true_eq,room] at hb
    ·obtain ⟨h3,h1,h0⟩:=hb
     exact ⟨h0,_,_,by simp only [qzP,hl]; rw [if_pos h1,if_pos h3],rfl⟩
    ·obtain ⟨h3,h1,h0,h2,h5⟩:=hb
     exact ⟨h0,_,_,by simp only [qzP,hl]; rw [if_pos h1,if_neg h3,if_pos ⟨qVL h2,h5⟩],rfl⟩
   | some len=>
    simp only [List.mem_cons,Prod.mk.injEq,List.not_mem_nil,or_false] at hm
    rcases hm with ⟨hb,rfl⟩ | ⟨hb,rfl⟩ | ⟨hb,rfl⟩ <;> simp only [eq_comm (a:=true),Bool.and_eq_true,decide_eq_true_eq,room] at hb
    ·obtain ⟨h3,h1,h0⟩:=hb
     exact ⟨h0,_,_,by simp only [qzP,hl]; rw [if_pos h1,if_pos h3],rfl⟩
    ·obtain ⟨h3,h1,h4,h0⟩:=hb
     exact ⟨h0,_,_,by simp only [qzP,hl]; rw [if_pos h1,if_neg h3,if_pos (by omega),if_pos h4],rfl⟩
    ·obtain ⟨h3,h1,h4,h0,h2,h5⟩:=hb
     exact ⟨h0,_,_,by simp only [qzP,hl]; rw [if_pos h1,if_neg h3,if_pos h2,if_neg (by omega),if_pos h5],rfl⟩
  ·simp at hm
theorem qQQ {P:Prog} {call:qa7} {nx:Nat} {ev:Opd -> AV} {h:Heap} {io:IOp} {r:Res × Heap × Bool} (hm:(true,r) ∈ alts nx ev h io):opS P call nx ev h io = some r:=by
 cases io <;> simp only [alts] at hm <;> try (simp at hm; done)
 case idxs x i=>
  split at hm
  ·rename_i s k j hx hi
   simp only [List.mem_cons,Prod.mk.injEq,List.not_mem_nil,or_false] at hm
   obtain ⟨hb,rfl⟩:=hm
   obtain ⟨c,hc⟩:=qDu hb.symm
   simp [opS,hx,hi,hc,qaA,val]
  ·simp at hm
 case slc sz x lo hi=>
  split at hm
  ·rename_i sz' es hx
   simp only [List.mem_cons,Prod.mk.injEq,List.not_mem_nil,or_false] at hm
   obtain ⟨hb,rfl⟩:=hm
   simp only [eq_comm (a:=true),Bool.and_eq_true,decide_eq_true_eq] at hb
   simp [opS,hx,qiQ hb.2,hb.1,val,qDF]
  ·rename_i id off len hx
   split at hm
   ·rename_i sz' es fz hl
    simp only [List.mem_cons,Prod.mk.injEq,List.not_mem_nil,or_false] at hm
    obtain ⟨hb,rfl⟩:=hm
    simp only [eq_comm (a:=true),Bool.and_eq_true,decide_eq_true_eq] at hb
    obtain ⟨h1,h2,h3⟩:=hb
    rw [qc5] at h2
    simp [opS,hx,hl,qiQ h2,h1,qR0 h3,val]
   ·simp at hm
  ·rename_i z hx
   simp only [List.mem_cons,Prod.mk.injEq,List.not_mem_nil,or_false] at hm
   obtain ⟨hb,rfl⟩:=hm
   simp [opS,hx,qiQ hb.symm,val]
  ·simp at hm
 case slcs x lo hi=>
  split at hm
  ·rename_i s hx
   simp only [List.mem_cons,Prod.mk.injEq,List.not_mem_nil,or_false] at hm
   obtain ⟨hb,rfl⟩:=hm
   simp [opS,hx,qiQ hb.symm,val,qDF]
  ·simp at hm
 case slc3 x lo hi mx=>
  split at hm
  ·rename_i k1 l k2 u k3 m h1 h2 h3
   split at hm
   ·rename_i sz es hx
    simp only [List.mem_cons,Prod.mk.injEq,List.not_mem_nil,or_false] at hm
    obtain ⟨hb,rfl⟩:=hm
    simp only [eq_comm (a:=true),Bool.and_eq_true,decide_eq_true_eq] at hb
    simp [opS,h1,h2,h3,hx,hb,val]
   ·rename_i id off len hx
    split at hm
    ·rename_i sz es fz hl
     simp only [List.mem_cons,Prod.mk.injEq,List.not_mem_nil,or_false] at hm
     obtain ⟨hb,rfl⟩:=hm
     simp only [eq_comm (a:=true),Bool.and_eq_true,decide_eq_true_eq] at hb
     simp only [opS,h1,h2,h3,hx,hl]
     rw [if_pos ⟨hb.1.1.1,hb.1.1.2,hb.1.2⟩,if_pos hb.2]; rfl
    ·simp at hm
   ·simp at hm
  ·simp at hm
 case iaddr sz ks x i=>
  split at hm
  ·rename_i id off len k j hx hi
   split at hm
   ·rename_i sz' es fz hl
    simp only [List.mem_cons,Prod.mk.injEq,List.not_mem_nil,or_false] at hm
    obtain ⟨hb,rfl⟩:=hm
    simp only [eq_comm (a:=true),Bool.and_eq_true,decide_eq_true_eq] at hb
    obtain ⟨h1,h2,h3⟩:=ownB_of hb.2
    simp [opS,hx,hi,hl,hb.1,h1,h2,h3,val]
   ·simp at hm
  ·simp at hm
 case eqn k neg x y=>
  split at hm
  ·rename_i h1 h2
   simp only [List.mem_cons,Prod.mk.injEq,List.not_mem_nil,or_false] at hm
   obtain ⟨hb,rfl⟩:=hm
   simp only [eq_comm (a:=true),decide_eq_true_eq] at hb
   simp only [opS,h1,h2,qdQ,if_neg hb]
   cases neg <;> simp [val]
  ·rename_i h1 h2
   simp only [List.mem_cons,Prod.mk.injEq,List.not_mem_nil,or_false] at hm
   obtain ⟨hb,rfl⟩:=hm
   simp only [eq_comm (a:=true),decide_eq_true_eq] at hb
   simp only [opS,h1,h2,qdQ,if_neg hb]
   cases neg <;> simp [val]
  ·simp at hm
 case app sz bytes s x=>
  split at hm
  ·rename_i b src hs
   obtain ⟨rfl,v,h',h1,rfl⟩:=qzQ hm
   simp only [opS,qSI hs,h1]
  ·simp at hm
 case clr sz z x=>
  split at hm
  ·rename_i id off len hx
   split at hm
   ·rename_i sz' es hl
    simp only [List.mem_cons,Prod.mk.injEq,List.not_mem_nil,or_false] at hm
    obtain ⟨hb,rfl⟩:=hm
    simp only [eq_comm (a:=true),Bool.and_eq_true,decide_eq_true_eq] at hb
    simp [opS,hx,hl,hb]
   ·simp at hm
  ·simp at hm
 case mks sz bytes z l c=>
  split at hm
  ·rename_i k1 l' k2 c' h1 h2
   simp only [List.mem_cons,Prod.mk.injEq,List.not_mem_nil,or_false] at hm
   obtain ⟨hb,rfl⟩:=hm
   simp only [eq_comm (a:=true),Bool.and_eq_true,decide_eq_true_eq,room] at hb
   simp [opS,h1,h2,hb]
  ·simp at hm
 case mupd ks m k v=>
  split at hm
  ·rename_i id hx
   split at hm
   ·rename_i kvs h1 h2 h3
    simp only [List.mem_cons,Prod.mk.injEq,List.not_mem_nil,or_false] at hm
    obtain ⟨hb,rfl⟩:=hm
    simp only [eq_comm (a:=true),qVW,Bool.and_eq_true] at hb
    obtain ⟨kvs',hk⟩:=Option.isSome_iff_exists.1 hb.2
    simp [opS,hx,h1,h2,h3,hb.1,hk,qVX]
   ·simp at hm
  ·simp at hm
 case mdel ks m k=>
  split at hm
  ·rename_i id hx
   split at hm
   ·rename_i kvs h3
    simp only [List.mem_cons,Prod.mk.injEq,List.not_mem_nil,or_false] at hm
    obtain ⟨hb,rfl⟩:=hm
    simp only [eq_comm (a:=true),qVT,Bool.and_eq_true] at hb
    obtain ⟨kvs',hk⟩:=Option.isSome_iff_exists.1 hb.2
    simp [opS,hx,h3,hb.1,hk,qVU]
   ·simp at hm
  ·simp at hm
 case bin op x y=>
  cases op <;> simp only [alts] at hm <;> try (simp at hm; done)
  all_goals
   split at hm
   ·rename_i h1 h2
    simp only [List.mem_cons,Prod.mk.injEq,List.not_mem_nil,or_false] at hm
    obtain ⟨hb,rfl⟩:=hm
    simp only [eq_comm (a:=true),Bool.and_eq_true,decide_eq_true_eq] at hb
    simp [opS,h1,h2,qXJ,qYL,qYM,hb,qvs]
   ·simp at hm
def qok (h:Heap):Nat -> AV -> AV
 | 0,v=>v
 | n + 1,v=>match v with
  | .nils q=>.view q.sz []
  | .own id off lo=>match qad h id with
   | some (.arr sz es _)=>.view sz (qvk es off lo)
   | _=>.junk
  | .ref id _ off=>match qad h id with
   | some (.box cs _)=>.ptr ((cs.map (qok h n)).drop off)
   | _=>.junk
  | .agg cs=>.agg (cs.map (qok h n))
  | .tup vs=>.tup (vs.map (qok h n))
  | .fn f cap=>.fn f (cap.map (qok h n))
  | .iface t v=>.iface t (qok h n v)
  | v=>v
def qkj (h:Heap):Nat -> AV -> Bool
 | 0,_=>false
 | n + 1,v=>match v with
  | .own id off lo=>match qad h id with
   | some (.arr _ es _)=>match lo with
    | some len=>decide (off + len <= es.length)
    | none=>true
   | _=>false
  | .ref id idx off=>match qad h id with
   | some (.box cs _)=>decide (idx = 0 /\ off <= cs.length /\ qaT cs = true) && cs.all (qkj h n)
   | _=>false
  | .mref _=>false
  | .agg cs=>cs.all (qkj h n)
  | .tup vs=>vs.all (qkj h n)
  | .fn _ cap=>cap.all (qkj h n)
  | .iface _ v=>qkj h n v
  | _=>true
theorem qol {h:Heap}:∀ (n:Nat) (v:AV),qkj h n v = true -> snap h n v = some (qok h n v)
 | 0,v,hb=>by simp [qkj] at hb
 | n + 1,v,hb=>by
  have hl:∀ vs:List AV,vs.all (qkj h n) = true -> qgI (snap h n) vs = some (vs.map (qok h n)):=by
   intro vs
   induction vs with
   | nil=>intro _; rfl
   | cons v vs ih=>
    intro hb
    simp only [List.all_cons,Bool.and_eq_true] at hb
    simp only [qgI,List.map_cons,qol n v hb.1,ih hb.2]
  cases v <;> simp only [qkj,snap,qok] at hb ⊢
  case own id off lo=>
   split at hb
   ·rename_i hk
    simp only [hk]
    cases lo with
    | some len=>simp only at hb ⊢; rw [if_pos (of_decide_eq_true hb)]
    | none=>rfl
   ·cases hb
  case ref id idx off=>
   split at hb
   ·rename_i hk
    simp only [Bool.and_eq_true] at hb
    simp only [hk]
    rw [if_pos (of_decide_eq_true hb.1),hl _ hb.2]; rfl
   ·cases hb
  case mref=>cases hb
  case agg cs=>rw [hl _ hb]; rfl
  case tup cs=>rw [hl _ hb]; rfl
  case fn f cs=>rw [hl _ hb]; rfl
  case iface t v=>rw [qol n v hb]; rfl
end Go.Eng
namespace Go.Eng
def br {R:Type} (b:Bool) (x y:R):R:=match b with
 | true=>x
 | false=>y
theorem qen {R:Type} {b:Bool} {x:Option R} {r:R} (h:br b x none = some r):b = true /\ x = some r:=by
 cases b with
 | true=>exact ⟨rfl,h⟩
 | false=>cases h
def qTP:Env -> Nat -> AV -> Env
 | [],_,_=>[]
 | (j,v) :: e,t,u=>if t = j then (j,u) :: e else (j,v) :: qTP e t u
theorem qvp:∀ {e:Env} {t:Nat} {v:AV},qbO e t = v -> v ≠ .junk -> qTP e t v = e
 | [],t,v,h,hj=>rfl
 | (j,u) :: e,t,v,h,hj=>by
  simp only [qbO] at h
  simp only [qTP]
  split
  ·rename_i he; rw [if_pos he] at h; rw [h]
  ·rename_i he; rw [if_neg he] at h; rw [qvp h hj]
section
variable {R:Type}
abbrev qgL (R:Type):=Nat -> List AV -> Heap -> (Res -> Heap -> Option R) -> Option R
abbrev qvN (R:Type):=List Nat -> ICode -> St -> (X -> St -> Option R) -> Option R
def intOf:AV -> Int
 | .int _ n=>n
 | _=>0
def qOc:AV -> Bool
 | .bool b=>b
 | _=>false
def strOf:AV -> List UInt8
 | .str s=>s
 | _=>[]
def qai:AV -> List AV
 | .view _ es=>es
 | _=>[]
def qWh:AV -> List AV
 | .ptr cs=>cs
 | _=>[]
def qOL:AV -> Bool
 | .nilp=>true
 | _=>false
def okC:CS -> AV -> Bool
 | .int k,.int k' _=>decide (k' = k)
 | .bool,.bool _=>true
 | .str,.str _=>true
 | .slice k,.view sz _=>decide (sz = k)
 | .ptr _,.nilp=>true
 | .ptr _,.ptr _=>true
 | _,_=>false
def qnv:List CS -> List AV -> Bool
 | [],[]=>true
 | c :: cs,x :: xs=>okC c x && qnv cs xs
 | _,_=>false
def qaQ (ks:List CS) (es:List AV) (i:Int):Bool:=match qd5 es i with
 | some e=>qnv ks (qac e)
 | none=>false
def cellAt (es:List AV) (i:Int) (j:Nat):AV:=(qac ((qd5 es i).getD .junk))[j]?.getD .junk
def qKW (c:CS) (x:AV) (K:AV -> Option R):Option R:=match c with
 | .int k=>K (.int k (intOf x))
 | .bool=>K (.bool (qOc x))
 | .str=>K (.str (strOf x))
 | .slice k=>K (.view k (qai x))
 | .ptr _=>br (qOL x) (K .nilp) (K (.ptr (qWh x)))
def qp7 (es:List AV) (i:Int):Nat -> List CS -> (List AV -> Option R) -> Option R
 | _,[],K=>K []
 | j,c :: cs,K=>qKW c (cellAt es i j) fun x=>qp7 es i (j + 1) cs fun r=>K (x :: r)
theorem qzh {c:CS} {x:AV} (h:okC c x = true) {K:AV -> Option R}:qKW c x K = K x:=by
 cases c <;> cases x <;> simp_all [okC,qKW,intOf,qOc,strOf,qOL,qai,qWh,br]
theorem qnx {es:List AV} {i:Int} {e:AV} (he:qd5 es i = some e):∀ (ks:List CS) (j:Nat) {K:List AV -> Option R},qnv ks ((qac e).drop j) = true -> qp7 es i j ks K = K ((qac e).drop j)
 | [],j,K,h=>by
  cases hd:(qac e).drop j with
  | nil=>rfl
  | cons=>rw [hd] at h; simp [qnv] at h
 | c :: cs,j,K,h=>by
  cases hd:(qac e).drop j with
  | nil=>rw [hd] at h; simp [qnv] at h
  | cons x xs=>
   rw [hd] at h
   simp only [qnv,Bool.and_eq_true] at h
   have hx:cellAt es i j = x:=by
    have h0:=congrArg (·[0]?) hd
    simp only [List.getElem?_drop,Nat.add_zero,List.getElem?_cons_zero] at h0
    simp [cellAt,he,h0]
   have hxs:(qac e).drop (j + 1) = xs:=by
    have h0:=congrArg (List.drop 1) hd
    simpa using h0
   simp only [qp7,hx,qzh h.1]
   have:=qnx he cs (j + 1) (K:=fun r=>K (x :: r)) (by rw [hxs]; exact h.2)
   rw [this,hxs]
def qqb (h:Heap) (all:Bool):List AV -> (List AV -> List Nat -> Option R) -> Option R
 | [],K=>K [] []
 | v :: vs,K=>if qOM v || all then qqb h all vs fun vs b=>K (v :: vs) ([] ++ b) else match idsA v with
  | []=>qqb h all vs fun vs b=>K (nz v :: vs) ([] ++ b)
  | ids=>br (qkj h qdH v) (qqb h all vs fun vs b=>K (qok h qdH v :: vs) (ids ++ b)) none
theorem qeY {h:Heap} {all:Bool} {ρ:R}:∀ {vs:List AV} {K:List AV -> List Nat -> Option R},qqb h all vs K = some ρ -> ∃ a b,qry h all vs = some (a,b) /\ K a b = some ρ
 | [],K,hs=>⟨_,_,rfl,hs⟩
 | v :: vs,K,hs=>by
  simp only [qqb] at hs
  split at hs
  ·rename_i hc
   obtain ⟨a,b,h1,h2⟩:=qeY hs
   exact ⟨_,_,by simp only [qry,qTJ,hc,if_true,h1],h2⟩
  ·rename_i hc
   split at hs
   ·rename_i hi
    obtain ⟨a,b,h1,h2⟩:=qeY hs
    refine ⟨_,_,?_,h2⟩
    simp only [qry,qTJ,h1]
    rw [if_neg hc,hi]
   ·rename_i ids hi
    obtain ⟨hb,hs⟩:=qen hs
    obtain ⟨a,b,h1,h2⟩:=qeY hs
    refine ⟨_,_,?_,h2⟩
    simp only [qry,qTJ,h1,if_neg hc,qol _ _ hb]
def qte (P:Prog) (cK:qgL R) (h:Heap) (nx f:Nat) (args:List AV) (K:Res × Heap × Bool -> Option R):Option R:=
 qqb h (P.mv f) args fun args' roots=>
  match qbL qdH h (idsA.idsL args') [],qbL qdH h roots [] with
  | some moved,some shown=>
   if qJM moved shown then
    cK f (ren.renL (place moved) args') (qhc (place moved) (sub h moved)) fun r h'=>
     if h'.all (fun p=>decide (p.1 < moved.length + 16)) then
      let touched:=!shown.isEmpty && (shows (qK9 r) || !h'.isEmpty)
      let old:=qa0 h moved
      K (qOV (ren (back moved nx)) r,qhc (back moved nx) h' ++ (if touched then freeze old shown else old),!moved.isEmpty || touched)
     else none
   else none
  | _,_=>none
def qGx:qa7:=fun _ _ _=>none
def q0v (K:Res × Heap × Bool -> Option R):List Alt -> Option R
 | []=>none
 | (b,r) :: l=>br b (K r) (q0v K l)
def qjQ (P:Prog) (nx:Nat) (ev:Opd -> AV) (h:Heap) (io:IOp) (K:Res × Heap × Bool -> Option R):Option R:=
 match alts nx ev h io with
 | []=>match opS P qGx nx ev h io with
  | some r=>K r
  | none=>none
 | l=>q0v K l
def okE (ag:Bool) (ks:List CS) (es:List AV) (i:Int):Bool:=match qd5 es i with
 | some (.agg cs)=>ag && qnv ks cs
 | some e=>!ag && qnv ks [e]
 | none=>false
def qwi (ag:Bool) (cs:List AV):AV:=match ag,cs with
 | true,cs=>.agg cs
 | false,[v]=>v
 | false,_=>.junk
theorem qV8 {ag:Bool} {ks:List CS} {es:List AV} {i:Int} (h:okE ag ks es i = true):∃ e,qd5 es i = some e /\ qnv ks (qac e) = true /\ ∀ cs,elemOf e cs = qwi ag cs:=by
 simp only [okE] at h
 split at h
 ·rename_i cs he
  simp only [Bool.and_eq_true] at h
  exact ⟨_,he,h.2,fun cs'=>by simp [elemOf,qwi,h.1]⟩
 ·rename_i e hne he
  simp only [Bool.and_eq_true,Bool.not_eq_true'] at h
  have hc:qac e = [e]:=by cases e <;> first | rfl | exact absurd rfl (hne _)
  refine ⟨_,he,by rw [hc]; exact h.2,fun cs'=>?_⟩
  rw [h.1]
  cases e <;> first | exact absurd rfl (hne _) | (rcases cs' with _ | ⟨v,_ | ⟨w,vs⟩⟩ <;> rfl)
 ·cases h
def csZ:AV -> Option CS
 | .int k _=>some (.int k)
 | .bool _=>some .bool
 | .str _=>some .str
 | .nils q=>some (.slice q.sz)
 | .view k _=>some (.slice k)
 | _=>none
def q1b:List AV -> Option (List CS)
 | []=>some []
 | v :: vs=>match csZ v,q1b vs with
  | some c,some cs=>some (c :: cs)
  | _,_=>none
def ksZ:AV -> Option (Bool × List CS)
 | .agg cs=>(q1b cs).map fun ks=>(true,ks)
 | v=>(csZ v).map fun k=>(false,[k])
def qTH (ks:Key) (m:List (AV × AV)) (k:AV):AV:=match qno ks m k with
 | some (some v)=>v
 | _=>.junk
def qVV (ks:Key) (m:List (AV × AV)) (k:AV):Bool:=isKey ks k && match qno ks m k with
 | some (some _)=>true
 | _=>false
def qXX (ks:Key) (m:List (AV × AV)) (k:AV):Bool:=isKey ks k && match qno ks m k with
 | some none=>true
 | _=>false
def qfl (es:List AV) (i j:Nat):AV:=(qac (es[i]?.getD .junk))[j]?.getD .junk
def okP (ks:List CS) (es:List AV) (i off:Nat):Bool:=match es[i]? with
 | some e=>qnv ks (((qac e).drop off).take ks.length)
 | none=>false
def qGJ (es:List AV) (i:Nat):Nat -> List CS -> (List AV -> Option R) -> Option R
 | _,[],K=>K []
 | j,c :: cs,K=>qKW c (qfl es i j) fun x=>qGJ es i (j + 1) cs fun r=>K (x :: r)
theorem qzi {es:List AV} {i:Nat} {e:AV} (he:es[i]? = some e):∀ (ks:List CS) (j:Nat) {K:List AV -> Option R},qnv ks (((qac e).drop j).take ks.length) = true -> qGJ es i j ks K = K (((qac e).drop j).take ks.length)
 | [],j,K,h=>by simp [qGJ]
 | c :: cs,j,K,h=>by
  cases hd:(qac e).drop j with
  | nil=>rw [hd] at h; simp [qnv] at h
  | cons x xs=>
   rw [hd] at h
   simp only [List.length_cons,List.take_succ_cons,qnv,Bool.and_eq_true] at h
   have hx:qfl es i j = x:=by
    have h0:=congrArg (·[0]?) hd
    simp only [List.getElem?_drop,Nat.add_zero,List.getElem?_cons_zero] at h0
    simp [qfl,he,h0]
   have hxs:(qac e).drop (j + 1) = xs:=by
    have h0:=congrArg (List.drop 1) hd
    simpa using h0
   simp only [qGJ,hx,qzh h.1,List.length_cons,List.take_succ_cons]
   have:=qzi he cs (j + 1) (K:=fun r=>K (x :: r)) (by rw [hxs]; exact h.2)
   rw [this,hxs]
theorem qzg:∀ {ks:List CS} {xs:List AV},qnv ks xs = true -> xs.length = ks.length
 | [],[],_=>rfl
 | [],_ :: _,h=>by simp [qnv] at h
 | _ :: _,[],h=>by simp [qnv] at h
 | k :: ks,x :: xs,h=>by
  simp only [qnv,Bool.and_eq_true] at h
  simp [qzg h.2]
def q1o (es:List AV) (i off:Nat) (vs:List AV):List AV:=match es[i]? with
 | some e=>es.set i (elemOf e (splice (qac e) off vs))
 | none=>es
def okS (es:List AV) (i off n:Nat):Bool:=match es[i]? with
 | some e=>decide (off + n <= (qac e).length)
 | none=>false
def qIR (h:Heap) (v:AV) (K:AV -> Heap -> Option R):Option R:=match idsA v with
 | []=>K (nz v) h
 | ids=>match qbL qdH h ids [] with
  | some r=>br (qkj h qdH v) (K (qok h qdH v) (freeze h r)) none
  | none=>none
theorem qvh {h:Heap} {v:AV} {K:AV -> Heap -> Option R} {ρ:R} (hs:qIR h v K = some ρ):∃ v' h',still h v = some (v',h') /\ K v' h' = some ρ:=by
 simp only [qIR] at hs
 split at hs
 ·rename_i hi
  exact ⟨_,_,by simp only [still,hi],hs⟩
 ·rename_i ids hi
  split at hs
  ·rename_i r hr
   obtain ⟨hb,hs⟩:=qen hs
   refine ⟨_,_,?_,hs⟩
   cases hq:idsA v with
   | nil=>exact absurd hq hi
   | cons i is=>
    rw [hq] at hr
    simp only [still,hq,qol _ _ hb,hr]
  ·cases hs
def qVH (agg:Bool) (sz:Nat) (cs:List AV) (j:Int) (h:Heap) (K:Res × Heap × Bool -> Option R):Nat -> Nat -> Option R
 | 0,_=>none
 | r + 1,k=>br (decide (j = Int.ofNat k)) (if k * sz <= cs.length then match part agg sz (cs.drop (k * sz)) with
   | some v=>K (.ret v,h,false)
   | none=>none else none) (qVH agg sz cs j h K r (k + 1))
def qVM (F:Nat -> Option R) (j:Int):Nat -> Nat -> Option R
 | 0,_=>none
 | r + 1,k=>br (decide (j = Int.ofNat k)) (F k) (qVM F j r (k + 1))
def q04 (sz:Nat) (v:AV) (h:Heap) (K:Res × Heap × Bool -> Option R) (k:Nat):Option R:=match v with
 | .ptr cs=>if k * sz <= cs.length then K (.ret (.ptr (cs.drop (k * sz))),h,false) else none
 | .ref id idx o=>K (.ret (.ref id idx (o + k * sz)),h,false)
 | _=>none
def opK (P:Prog) (cK:qgL R) (nx:Nat) (ev:Opd -> AV) (h:Heap) (io:IOp) (K:Res × Heap × Bool -> Option R):Option R:=
 match io with
 | .iaddr sz ks x i=>match ks,ev x,ev i with
  | _ :: _,.view sz' es,.int _ j=>if sz' = sz then br (qaQ ks es j) (qp7 es j 0 ks fun cs=>K (.ret (.ptr cs),h,false)) none else none
  | _,_,_=>qjQ P nx ev h (.iaddr sz ks x i) K
 | .load agg n ks x=>match ev x with
  | .ref id idx off=>match qad h id with
   | some (.arr _ es _)=>if ks.length = n /\ 0 < n /\ (agg = true \/ n = 1) then
     br (okP ks es idx off) (qGJ es idx off ks fun cs=>K (.ret (if agg then .agg cs else cs.headD .junk),h,false)) none
    else none
   | _=>qjQ P nx ev h (.load agg n ks x) K
  | _=>qjQ P nx ev h (.load agg n ks x) K
 | .store n x v=>match ev x with
  | .ref id idx off=>match qad h id with
   | some (.arr _ es false)=>qIR h (ev v) fun v h=>match qad h id with
    | some (.arr sz _ false)=>if (qac v).length = n /\ qaT (qac v) = true then
      br (okS es idx off n) (K (.ret unit,qch h id (.arr sz (q1o es idx off (qac v)) false),true)) none
     else none
    | _=>none
   | _=>qjQ P nx ev h (.store n x v) K
  | _=>qjQ P nx ev h (.store n x v) K
 | .look ks z ok m k=>match ev m with
  | .mref id=>match qad h id with
   | some (.mp kvs)=>match ksZ z with
    | some (ag,cs)=>br (qVV ks kvs (ev k)) (br (okE ag cs [qTH ks kvs (ev k)] 0) (qp7 [qTH ks kvs (ev k)] 0 0 cs fun cs=>K (.ret (if ok then .tup [qwi ag cs,.bool true] else qwi ag cs),h,false)) none)
      (br (qXX ks kvs (ev k)) (K (.ret (if ok then .tup [z,.bool false] else z),h,false)) none)
    | none=>qjQ P nx ev h (.look ks z ok m k) K
   | _=>qjQ P nx ev h (.look ks z ok m k) K
  | _=>qjQ P nx ev h (.look ks z ok m k) K
 | .pick c a b=>match ev c with
  | .bool t=>br t (K (.ret (ev a),h,false)) (K (.ret (ev b),h,false))
  | _=>none
 | .idxa agg n sz x i=>match ev x,ev i with
  | .agg cs,.int _ j=>if n <= 16 then qVH agg sz cs j h K n 0 else qjQ P nx ev h (.idxa agg n sz x i) K
  | _,_=>none
 | .aaddr n sz x i=>match ev i with
  | .int _ j=>if n <= 16 then qVM (q04 sz (ev x) h K) j n 0 else qjQ P nx ev h (.aaddr n sz x i) K
  | _=>none
 | .call f args=>qte P cK h nx f (args.map ev) K
 | .callv fv args=>match ev fv with
  | .fn (.func f) cap=>qte P cK h nx f (args.map ev ++ cap) K
  | _=>none
 | .invk tbl x args=>match ev x with
  | .iface t v=>match qxA tbl t with
   | some f=>qte P cK h nx f (v :: args.map ev) K
   | none=>none
  | _=>none
 | io=>qjQ P nx ev h io K
def qS1 (e:Env) (g:Option (Nat × Bool)) (K:Env -> Bool -> Option R):Option R:=match g with
 | none=>K e true
 | some (t,want)=>match qbO e t with
  | .bool b=>br b (K (qTP e t (.bool true)) want) (K (qTP e t (.bool false)) (!want))
  | .tup []=>K e false
  | _=>none
def qLi (P:Prog) (cK:qgL R) (nx:Nat) (o:IOper) (e:Env) (h:Heap) (K:Env -> Step -> Option R):Option R:=
 qS1 e o.guard fun e b=>match b with
  | false=>K e .skip
  | true=>match qbL qdH h (qBR e o.op) [] with
   | none=>none
   | some r=>opK P cK nx (qaN e) (sub h r) o.op fun x=>match x with
    | (.ret v,out,w)=>K e (.did r w v out)
    | (.pan v,out,_)=>K e (.pan r v out)
def sm {α:Type} (o:Option α):Bool:=match o with
 | some _=>true
 | none=>false
def gv {α:Type} [Inhabited α] (o:Option α):α:=match o with
 | some x=>x
 | none=>default
@[simp] theorem sm_some {α:Type} (x:α):sm (some x) = true:=rfl
@[simp] theorem sm_none {α:Type}:sm (none:Option α) = false:=rfl
@[simp] theorem gv_some {α:Type} [Inhabited α] (x:α):gv (some x) = x:=rfl
theorem qLg {α:Type} [Inhabited α] {o:Option α} (h:sm o = true):o = some (gv o):=by cases o <;> first | rfl | cases h
def frcA:AV -> (AV -> Option R) -> Option R
 | .int k n,K=>K (.int k n)
 | .bool b,K=>K (.bool b)
 | .str s,K=>K (.str s)
 | .nilp,K=>K .nilp
 | .nilm,K=>K .nilm
 | .nilf,K=>K .nilf
 | .nili,K=>K .nili
 | .nils ⟨n,.nil⟩,K=>K (.nils ⟨n,.nil⟩)
 | .nils ⟨n,.any⟩,K=>K (.nils ⟨n,.any⟩)
 | .nils ⟨n,.non⟩,K=>K (.nils ⟨n,.non⟩)
 | .agg cs,K=>frcL cs fun cs=>K (.agg cs)
 | .tup cs,K=>frcL cs fun cs=>K (.tup cs)
 | .view n es,K=>K (.view n es)
 | .ptr cs,K=>frcL cs fun cs=>K (.ptr cs)
 | .own a b c,K=>K (.own a b c)
 | .ref a b c,K=>K (.ref a b c)
 | .mref a,K=>K (.mref a)
 | .fn f cs,K=>frcL cs fun cs=>K (.fn f cs)
 | .iface t v,K=>frcA v fun v=>K (.iface t v)
 | .junk,K=>K .junk
where frcL:List AV -> (List AV -> Option R) -> Option R
 | [],K=>K []
 | v :: vs,K=>frcA v fun v=>frcL vs fun vs=>K (v :: vs)
mutual
theorem qm2:∀ (v:AV) (K:AV -> Option R),frcA v K = K v
 | .nils ⟨_,k⟩,K=>by cases k <;> simp only [frcA]
 | .int ..,K | .bool ..,K | .str ..,K | .nilp,K | .nilm,K | .nilf,K | .nili,K | .view ..,K | .own ..,K | .ref ..,K | .mref _,K | .junk,K=>by simp only [frcA]
 | .agg cs,K=>by simp only [frcA]; exact qj1 cs _
 | .tup cs,K=>by simp only [frcA]; exact qj1 cs _
 | .ptr cs,K=>by simp only [frcA]; exact qj1 cs _
 | .fn f cs,K=>by simp only [frcA]; exact qj1 cs _
 | .iface t v,K=>by simp only [frcA]; exact qm2 v _
theorem qj1:∀ (vs:List AV) (K:List AV -> Option R),frcA.frcL vs K = K vs
 | [],K=>by simp only [frcA.frcL]
 | v :: vs,K=>by simp only [frcA.frcL]; rw [qm2 v]; exact qj1 vs _
end
def qY9:Blk -> (Blk -> Option R) -> Option R
 | .box cs true,K=>frcA.frcL cs fun cs=>K (.box cs true)
 | .box cs false,K=>frcA.frcL cs fun cs=>K (.box cs false)
 | .arr sz es true,K=>K (.arr sz es true)
 | .arr sz es false,K=>K (.arr sz es false)
 | .mp kvs,K=>K (.mp kvs)
theorem qR5 (b:Blk) (K:Blk -> Option R):qY9 b K = K b:=by
 cases b with
 | box cs fz=>cases fz <;> simp only [qY9] <;> exact qj1 _ _
 | arr sz es fz=>cases fz <;> rfl
 | mp kvs=>rfl
def qVz (n:Nat) (K:Nat -> Option R):Option R:=match n with
 | 0=>K 0
 | n + 1=>K (n + 1)
theorem qm4 (n:Nat) (K:Nat -> Option R):qVz n K = K n:=by cases n <;> rfl
def qXP:Heap -> (Heap -> Option R) -> Option R
 | [],K=>K []
 | (i,b) :: h,K=>qVz i fun i=>qY9 b fun b=>qXP h fun h=>K ((i,b) :: h)
theorem qEW:∀ (h:Heap) (K:Heap -> Option R),qXP h K = K h
 | [],K=>rfl
 | (i,b) :: h,K=>by simp only [qXP]; rw [qm4,qR5]; exact qEW h _
def qTC:Env -> (Env -> Option R) -> Option R
 | [],K=>K []
 | (i,v) :: h,K=>qTC h fun h=>K ((i,v) :: h)
theorem qm3:∀ (h:Env) (K:Env -> Option R),qTC h K = K h
 | [],K=>rfl
 | (i,v) :: h,K=>by simp only [qTC]; exact qm3 h _
def qrD (P:Prog) (cK:qgL R):List IOper -> Env -> Heap -> Nat -> (Env -> Option R) -> Option R
 | [],e,_,_,K=>K e
 | o :: ops,e,h,nx,K=>qLi P cK nx o e h fun e s=>match s with
  | .skip=>qrD P cK ops (qhY o (qbq e o.dst .skip)) h (nx + 16) K
  | .did r w v out=>match w,out.all (fun p=>r.contains p.1) with
   | false,true=>frcA v fun v=>qVz (nx + 16) fun nx=>qTC (qhY o (qxf e o.dst v)) fun e=>qrD P cK ops e h nx K
   | _,_=>none
  | .pan _ _ _=>none
def qpG (t:Nat):List IOper -> Option (List IOper × IOper × List IOper)
 | []=>none
 | o :: os=>match o.op with
  | .pick (.t c) _ _=>match Nat.beq c t with
   | true=>some ([],o,os)
   | false=>match qpG t os with
    | some (g,p,r)=>some (o :: g,p,r)
    | none=>none
  | _=>match qpG t os with
   | some (g,p,r)=>some (o :: g,p,r)
   | none=>none
def qYX:IOp -> Bool
 | .bslice .. | .app .. | .store .. | .mupd .. | .mdel .. | .clr .. | .alloc .. | .box .. | .mkm | .mks .. | .pan ..=>false
 | _=>true
def within (c d:Nat) (o:IOper):Bool:=(match o.dst with
 | some j=>Nat.blt c j && Nat.blt j d
 | none=>false) && qYX o.op && match o.op with
 | .pick (.t k) _ _=>Nat.ble c k
 | _=>true
def qYW (P:Prog) (o:IOper):Bool:=match o.op with
 | .call f _=>!P.imp f
 | _=>true
def qVG (P:Prog) (o:IOper) (ops:List IOper):Option (Nat × Nat × List IOper × IOper × List IOper):=match o.guard with
 | none=>none
 | some (t,_)=>match qpG t ops with
  | none=>none
  | some (g,p,r)=>match p.guard,p.dst with
   | none,some d=>match (o :: g).all (within t d) && (o :: g).all (qYW P) with
    | true=>some (t,d,o :: g,p,r)
    | false=>none
   | _,_=>none
def qKb (d:Nat) (e:Env):Option Bool:=match qbO e d with
 | .bool b=>some b
 | _=>none
def qSE (P:Prog) (cK:(R:Type) -> qgL R):Nat -> List IOper -> Env -> Heap -> Nat -> (X -> Env -> Heap -> Option R) -> Option R
 | 0,_,_,_,_,_=>none
 | _ + 1,[],e,h,_,K=>K .normal e h
 | n + 1,o :: ops,e,h,nx,K=>match qVG P o ops with
  | some (t,d,g,p,rest)=>
   let v:=qrD P (cK Bool) g e h nx fun e1=>qrD P (cK Bool) [p] e1 h (nx + 16 * g.length) (qKb d)
   br (sm v) (qVz (nx + 16 * (g.length + 1)) fun nx=>qTC (qdq t d e) fun e=>qSE P cK n rest ((d,.bool (gv v)) :: e) h nx K) none
  | none=>qLi P (cK R) nx o e h fun e s=>match s with
   | .pan r v out=>K (.pan v) e (qaR h (.pan r v out))
   | .skip=>qSE P cK n ops (qhY o (qbq e o.dst .skip)) h (nx + 16) K
   | .did r w v out=>frcA v fun v=>qXP (qaR h (.did r w v out)) fun h=>qVz (nx + 16) fun nx=>qTC (qhY o (qxf e o.dst v)) fun e=>qSE P cK n ops e h nx K
def qUh (P:Prog) (cK:qgL R) (base:Nat):Nat -> List IOper -> Env -> Heap -> List Step -> (Option AV -> Env -> Heap -> List Step -> Option R) -> Option R
 | _,[],e,h,log,K=>K none e h log
 | i,o :: ops,e,h,log,K=>qLi P cK (base + 16 * i) o e h fun e s=>match qSu s with
  | some v=>K (some v) e (qaR h s) log
  | none=>if tidy (base + 16 * i) (qce e o) h s then match lost h (qce e o) s with
    | []=>qUh P cK base (i + 1) ops (qbq e o.dst s) (qaR h s) (log ++ [s]) K
    | q :: g=>qUh P cK base (i + 1) ops (qbq e o.dst s) (qaR h s) (log ++ [mark (q :: g) s]) K
   else none
def qgJ (P:Prog) (cK:(R:Type) -> qgL R) (lK:qvN R):ICode -> St -> (X -> St -> Option R) -> Option R
 | .skip,s,K=>K .normal s
 | .region ops d,s,K=>match d with
  | none=>qSE P cK (ops.length + 1) ops s.tm s.hp s.nx fun x e h=>K x ⟨e,h,s.nx + 16 * ops.length,s.k⟩
  | some befs=>qUh P (cK R) s.nx 0 ops s.tm s.hp [] fun pv e h log=>match pv with
   | none=>if calm s.nx befs ops e log then K .normal ⟨e,h,s.nx + 16 * ops.length,s.k⟩ else none
   | some v=>if calm s.nx befs ops e log && qX1 befs ops log.length then K (.pan v) ⟨[],h,s.nx + 16 * ops.length,s.k⟩ else none
 | .seq a b,s,K=>qgJ P cK lK a s fun x s=>match x with
  | .normal=>qgJ P cK lK b s K
  | x=>K x s
 | .cond c a b,s,K=>match qaN s.tm c with
  | .bool t=>br t (qgJ P cK lK a s K) (qgJ P cK lK b s K)
  | _=>none
 | .block id c,s,K=>qgJ P cK lK c s fun x s=>match x with
  | .exit j=>if j = id then K .normal s else K (.exit j) s
  | x=>K x s
 | .loop k c,s,K=>lK k c s K
 | .exit id,s,K=>K (.exit id) s
 | .ret,s,K=>K .ret s
def qlY (call:qa7) (cK:qgL R):Prop:=∀ f a h K ρ,cK f a h K = some ρ -> ∃ r h',call f a h = some (r,h') /\ K r h' = some ρ
def qqH (loop:qgM) (lK:qvN R):ICode -> Prop
 | .seq a b=>qqH loop lK a /\ qqH loop lK b
 | .cond _ a b=>qqH loop lK a /\ qqH loop lK b
 | .block _ a=>qqH loop lK a
 | .loop k c=>∀ s K ρ,lK k c s K = some ρ -> ∃ x s',loop k c s = some (x,s') /\ K x s' = some ρ
 | _=>True
def loops:ICode -> List (List Nat × ICode)
 | .seq a b=>loops a ++ loops b
 | .cond _ a b=>loops a ++ loops b
 | .block _ a=>loops a
 | .loop k c=>(k,c) :: loops c
 | _=>[]
def qah (F:Fun) (i:Nat):List Nat × ICode:=(loops F.body).getD i ([],.skip)
variable {P:Prog} {call:qa7} {cK:qgL R} {loop:qgM} {lK:qvN R}
theorem qgQ (hc:qlY call cK) {h:Heap} {nx f:Nat} {args:List AV} {K:Res × Heap × Bool -> Option R} {ρ:R} (hs:qte P cK h nx f args K = some ρ):∃ r,qgP P call h nx f args = some r /\ K r = some ρ:=by
 simp only [qte] at hs
 obtain ⟨args',roots,hp,hs⟩:=qeY hs
 split at hs
 ·rename_i moved shwn h1 h2
  split at hs
  ·rename_i hd
   obtain ⟨r,h',hcl,hK⟩:=hc _ _ _ _ _ hs
   split at hK
   ·rename_i hall
    refine ⟨_,?_,hK⟩
    simp only [qgP,hp,h1,h2,hd,if_true,hcl,hall]
   ·cases hK
  ·cases hs
 ·cases hs
theorem qGy (call:qa7):LeC qGx call:=fun f a h r hr=>by simp [qGx] at hr
theorem qqp {K:Res × Heap × Bool -> Option R} {ρ:R}:∀ {l:List Alt},q0v K l = some ρ -> ∃ r,(true,r) ∈ l /\ K r = some ρ
 | [],h=>by cases h
 | (b,r) :: l,h=>by
  cases b with
  | true=>exact ⟨r,by simp,h⟩
  | false=>
   obtain ⟨r',h1,h2⟩:=qqp (l:=l) h
   exact ⟨r',by simp [h1],h2⟩
theorem qbz {nx:Nat} {ev:Opd -> AV} {h:Heap} {io:IOp} {K:Res × Heap × Bool -> Option R} {ρ:R} (hs:qjQ P nx ev h io K = some ρ):∃ r,opS P call nx ev h io = some r /\ K r = some ρ:=by
 simp only [qjQ] at hs
 split at hs
 ·split at hs
  ·rename_i r hr; exact ⟨r,qrs (qGy call) hr,hs⟩
  ·cases hs
 ·obtain ⟨r,h1,h2⟩:=qqp hs
  exact ⟨r,qQQ h1,h2⟩
theorem qSp {es:List AV} {i:Int} {ag:Bool} {ks:List CS} {K:List AV -> Option R} {ρ:R} (hs:br (okE ag ks es i) (qp7 es i 0 ks K) none = some ρ):∃ e,qd5 es i = some e /\ K (qac e) = some ρ /\ ∀ cs,elemOf e cs = qwi ag cs:=by
 obtain ⟨hok,hs⟩:=qen hs
 obtain ⟨e,he,hk,hel⟩:=qV8 hok
 have:=qnx he ks 0 (K:=K) (by simpa using hk)
 rw [this] at hs
 exact ⟨e,he,by simpa using hs,hel⟩
theorem qzZ {e:AV} {ag:Bool} (h:∀ cs,elemOf e cs = qwi ag cs):qwi ag (qac e) = e:=by
 rw [<- h]
 cases e <;> rfl
theorem qEX {h:Heap} {r:List Nat} {id sz sz2:Nat} {es es2:List AV} {f1 f2:Bool} (hl:qad h id = some (.arr sz es f1)) (h2:qad (freeze h r) id = some (.arr sz2 es2 f2)):sz = sz2:=by
 have:Globs:=⟨fun _=>none⟩
 rw [qcd] at h2
 split at h2
 ·rw [hl] at h2; simp [qiq] at h2; exact h2.1
 ·rw [hl] at h2; simp at h2; exact h2.1
theorem qLj {h h':Heap} {v v':AV} {id sz sz2:Nat} {es es2:List AV} {f1 f2:Bool} (hl:qad h id = some (.arr sz es f1)) (hst:still h v = some (v',h')) (h2:qad h' id = some (.arr sz2 es2 f2)):sz = sz2:=by
 simp only [still] at hst
 split at hst
 ·simp at hst
  obtain ⟨_,rfl⟩:=hst
  rw [hl] at h2; simp at h2; exact h2.1
 ·split at hst
  ·simp at hst
   obtain ⟨_,rfl⟩:=hst
   exact qEX hl h2
  ·cases hst
theorem qpH {agg:Bool} {sz:Nat} {cs:List AV} {j:Int} {h:Heap} {K:Res × Heap × Bool -> Option R} {ρ:R}:∀ {r k:Nat},qVH agg sz cs j h K r k = some ρ -> ∃ q v,j = Int.ofNat q /\ q < k + r /\ q * sz <= cs.length /\ part agg sz (cs.drop (q * sz)) = some v /\ K (.ret v,h,false) = some ρ
 | 0,k,hs=>by simp [qVH] at hs
 | r + 1,k,hs=>by
  simp only [qVH] at hs
  by_cases hj:j = Int.ofNat k
  ·have hd:decide (j = Int.ofNat k) = true:=by simpa using hj
   rw [hd] at hs
   simp only [br] at hs
   split at hs
   ·rename_i hle
    split at hs
    ·rename_i v hv
     exact ⟨k,v,hj,by omega,hle,hv,hs⟩
    ·cases hs
   ·cases hs
  ·have hd:decide (j = Int.ofNat k) = false:=by simpa using hj
   rw [hd] at hs
   simp only [br] at hs
   obtain ⟨q,v,h1,h2,h3⟩:=qpH hs
   exact ⟨q,v,h1,by omega,h3⟩
theorem qpZ {F:Nat -> Option R} {j:Int} {ρ:R}:∀ {r k:Nat},qVM F j r k = some ρ -> ∃ q,j = Int.ofNat q /\ q < k + r /\ F q = some ρ
 | 0,k,hs=>by simp [qVM] at hs
 | r + 1,k,hs=>by
  simp only [qVM] at hs
  by_cases hj:j = Int.ofNat k
  ·have hd:decide (j = Int.ofNat k) = true:=by simpa using hj
   rw [hd] at hs
   exact ⟨k,hj,by omega,hs⟩
  ·have hd:decide (j = Int.ofNat k) = false:=by simpa using hj
   rw [hd] at hs
   obtain ⟨q,h1,h2,h3⟩:=qpZ (k:=k + 1) hs
   exact ⟨q,h1,by omega,h3⟩
theorem qGH (hc:qlY call cK) {nx:Nat} {ev:Opd -> AV} {h:Heap} {io:IOp} {K:Res × Heap × Bool -> Option R} {ρ:R} (hs:opK P cK nx ev h io K = some ρ):∃ r,opS P call nx ev h io = some r /\ K r = some ρ:=by
 cases io <;> simp only [opK] at hs
 case idxa agg n sz x i=>
  split at hs
  ·rename_i cs k j h1 h2
   split at hs
   ·obtain ⟨q,v,rfl,hq,hle,hv,hs⟩:=qpH hs
    refine ⟨_,?_,hs⟩
    have e1:(0:Int) <= Int.ofNat q:=Int.natCast_nonneg q
    have e2:Int.ofNat q < (n:Int):=by show (q:Int) < (n:Int); omega
    have e3:(Int.ofNat q).toNat = q:=rfl
    simp only [opS,h1,h2,e3]
    rw [if_pos ⟨e1,e2,hle⟩,hv]
    rfl
   ·exact qbz hs
  ·cases hs
 case aaddr n sz x i=>
  split at hs
  ·rename_i k j h2
   split at hs
   ·obtain ⟨q,rfl,hq,hs⟩:=qpZ hs
    have e1:(0:Int) <= Int.ofNat q:=Int.natCast_nonneg q
    have e2:Int.ofNat q < (n:Int):=by show (q:Int) < (n:Int); omega
    have e3:(Int.ofNat q).toNat = q:=rfl
    unfold q04 at hs
    split at hs
    ·rename_i cs h1
     split at hs
     ·rename_i hle
      refine ⟨_,?_,hs⟩
      simp only [opS,h1,h2,e3]
      rw [if_pos ⟨e1,e2⟩,if_pos hle]; rfl
     ·cases hs
    ·rename_i id idx o h1
     refine ⟨_,?_,hs⟩
     simp only [opS,h1,h2,e3]
     rw [if_pos ⟨e1,e2⟩]; rfl
    ·cases hs
   ·exact qbz hs
  ·cases hs
 case iaddr sz ks x i=>
  split at hs
  ·rename_i c ks' sz' es k j h1 h2
   split at hs
   ·rename_i hsz
    obtain ⟨hok,hs⟩:=qen hs
    simp only [qaQ] at hok
    split at hok
    ·rename_i e he
     have:=qnx he _ 0 (K:=fun cs=>K (.ret (.ptr cs),h,false)) (by simpa using hok)
     rw [this] at hs
     refine ⟨_,?_,hs⟩
     simp [opS,h1,h2,he,hsz,val]
    ·cases hok
   ·cases hs
  ·exact qbz hs
 case load agg n ks x=>
  split at hs
  ·rename_i id idx off hx
   split at hs
   ·rename_i sz es fz hl
    split at hs
    ·rename_i hcd
     obtain ⟨hk,hn,ha⟩:=hcd
     obtain ⟨hok,hs⟩:=qen hs
     simp only [okP] at hok
     split at hok
     ·rename_i e he
      rw [qzi he ks off hok] at hs
      have hlen:=qzg hok
      have hle:ks.length <= ((qac e).drop off).length:=by
       rw [List.length_take] at hlen; omega
      refine ⟨_,?_,hs⟩
      have hoff:off <= (qac e).length:=by rw [List.length_drop] at hle; omega
      simp only [opS,hx,qmf,hl,he,if_pos hoff,qvs,part]
      cases agg with
      | true=>
       simp only [if_true]
       rw [if_pos (by omega),hk]
      | false=>
       have h1:n = 1:=by simpa using ha
       subst h1
       simp only [Bool.false_eq_true,if_false,hk]
       cases hd:(qac e).drop off with
       | nil=>rw [hd] at hle; simp only [List.length_nil] at hle; omega
       | cons y ys=>simp
     ·cases hok
    ·cases hs
   ·exact qbz hs
  ·exact qbz hs
 case store n x v=>
  split at hs
  ·rename_i id idx off hx
   split at hs
   ·rename_i sz es hl
    obtain ⟨v',h',hst,hs⟩:=qvh hs
    split at hs
    ·rename_i sz2 es2 hl2
     split at hs
     ·rename_i hcd
      obtain ⟨hok,hs⟩:=qen hs
      simp only [okS] at hok
      split at hok
      ·rename_i e he
       refine ⟨_,?_,hs⟩
       have hsz:sz = sz2:=qLj hl hst hl2
       simp only [opS,hx,qIS,hl,hst,hl2,he]
       rw [if_pos ⟨hcd.1,of_decide_eq_true hok,hcd.2⟩]
       simp only [q1o,he,hsz]
      ·cases hok
     ·cases hs
    ·cases hs
   ·exact qbz hs
  ·exact qbz hs
 case look ks z ok m k=>
  split at hs
  ·rename_i id hx
   split at hs
   ·rename_i kvs hl
    split at hs
    ·rename_i ag cs hz
     cases hh:qVV ks kvs (ev k) with
     | true=>
      rw [hh] at hs
      simp only [br] at hs
      obtain ⟨e,he,hs,hel⟩:=qSp hs
      have he':qTH ks kvs (ev k) = e:=by simpa [qd5] using he
      simp only [qVV,Bool.and_eq_true] at hh
      obtain ⟨h1,h2⟩:=hh
      split at h2
      ·rename_i v hv
       simp only [qTH,hv] at he'
       subst he'
       refine ⟨_,?_,hs⟩
       simp only [opS,hx,hl,h1,if_true,hv,qzZ hel,val]
      ·cases h2
     | false=>
      rw [hh] at hs
      obtain ⟨h1,hs⟩:=qen hs
      simp only [qXX,Bool.and_eq_true] at h1
      obtain ⟨h1,h2⟩:=h1
      split at h2
      ·rename_i hv
       refine ⟨_,?_,hs⟩
       simp only [opS,hx,hl,h1,if_true,hv,val]
      ·cases h2
    ·exact qbz hs
   ·exact qbz hs
  ·exact qbz hs
 case pick c a b=>
  split at hs
  ·rename_i t ht
   cases t
   ·exact ⟨_,by simp [opS,ht,val],hs⟩
   ·exact ⟨_,by simp [opS,ht,val],hs⟩
  ·cases hs
 case call f args=>exact qgQ hc hs
 case callv fv args=>
  split at hs
  ·rename_i f cap hf
   obtain ⟨r,h1,h2⟩:=qgQ hc hs
   exact ⟨r,by simp only [opS,hf]; exact h1,h2⟩
  ·cases hs
 case invk tbl x args=>
  split at hs
  ·rename_i t v hf
   split at hs
   ·rename_i f hq
    obtain ⟨r,h1,h2⟩:=qgQ hc hs
    exact ⟨r,by simp only [opS,hf,hq]; exact h1,h2⟩
   ·cases hs
  ·cases hs
 all_goals exact qbz hs
theorem qxG {e:Env} {g:Option (Nat × Bool)} {K:Env -> Bool -> Option R} {ρ:R} (hs:qS1 e g K = some ρ):∃ b,qht e g = some b /\ K e b = some ρ:=by
 cases g with
 | none=>exact ⟨true,rfl,hs⟩
 | some tw=>
  obtain ⟨t,want⟩:=tw
  simp only [qS1] at hs
  split at hs
  ·rename_i b hb
   have hset:qTP e t (.bool b) = e:=qvp hb (by simp)
   cases b with
   | true=>
    simp only [br] at hs
    rw [hset] at hs
    exact ⟨want,by simp [qht,hb],hs⟩
   | false=>
    simp only [br] at hs
    rw [hset] at hs
    exact ⟨!want,by cases want <;> simp [qht,hb],hs⟩
  ·rename_i hb
   exact ⟨false,by simp [qht,hb],hs⟩
  ·cases hs
theorem qgv (hc:qlY call cK) {nx:Nat} {o:IOper} {e:Env} {h:Heap} {K:Env -> Step -> Option R} {ρ:R} (hs:qLi P cK nx o e h K = some ρ):∃ s,qb9 P call nx o e h = some s /\ K e s = some ρ:=by
 obtain ⟨b,hw,hs⟩:=qxG hs
 cases b with
 | false=>exact ⟨.skip,by simp [qb9,hw],hs⟩
 | true=>
  simp only at hs
  split at hs
  ·cases hs
  ·rename_i r hr
   obtain ⟨⟨x,out,w⟩,h1,h2⟩:=qGH hc hs
   cases x with
   | ret v=>exact ⟨.did r w v out,by simp only [qb9,hw,hr,h1],h2⟩
   | pan v=>exact ⟨.pan r v out,by simp only [qb9,hw,hr,h1],h2⟩
theorem qtG {c d t:Nat} {v:AV} {e:Env} (h:(Nat.blt c t && Nat.blt t d) = true):qdq c d (qxf e (some t) v) = qdq c d e:=by
 simp only [qxf,qdq,h]
theorem qhB {c d c' d':Nat} (hc:c <= c') (hd:d' <= d):∀ e:Env,qdq c d (qdq c' d' e) = qdq c d e
 | []=>rfl
 | (j,v) :: e=>by
  by_cases h:(Nat.blt c' j && Nat.blt j d') = true
  ·have h2:(Nat.blt c j && Nat.blt j d) = true:=by
    simp only [Bool.and_eq_true,Nat.blt_eq] at h ⊢
    omega
   simp only [qdq,h,h2]
   exact qhB hc hd e
  ·have h1:(Nat.blt c' j && Nat.blt j d') = false:=by cases hq:(Nat.blt c' j && Nat.blt j d') <;> first | rfl | exact absurd hq h
   simp only [qdq,h1]
   by_cases h2:(Nat.blt c j && Nat.blt j d) = true
   ·simp only [h2]; exact qhB hc hd e
   ·have h3:(Nat.blt c j && Nat.blt j d) = false:=by cases hq:(Nat.blt c j && Nat.blt j d) <;> first | rfl | exact absurd hq h2
    simp only [h3,qhB hc hd e]
theorem qoU {c d:Nat} {o:IOper} (h:within c d o = true) (e:Env) (s:Step) (hs:∀ r v out,s ≠ .pan r v out):qdq c d (qhY o (qbq e o.dst s)) = qdq c d e:=by
 obtain ⟨dst,op,g⟩:=o
 simp only [within,Bool.and_eq_true] at h
 obtain ⟨⟨h1,_⟩,h2⟩:=h
 cases dst with
 | none=>cases h1
 | some j=>
  simp only at h1
  have qch:qdq c d (qbq e (some j) s) = qdq c d e:=by
   cases s with
   | skip=>exact qtG h1
   | did r w v out=>exact qtG h1
   | pan r v out=>exact absurd rfl (hs r v out)
  by_cases hp:∃ k a b,op = .pick (.t k) a b
  ·obtain ⟨k,a,b,rfl⟩:=hp
   simp only at h2
   simp only [qhY]
   rw [qhB (Nat.le_of_ble_eq_true h2) (by
    have:=(Bool.and_eq_true _ _ ▸ h1).2
    simp only [Nat.blt_eq] at this
    omega),qch]
  ·have:∀ e2,qhY ⟨some j,op,g⟩ e2 = e2:=by
    intro e2
    simp only [qhY]
    split
    ·exact absurd ⟨_,_,_,rfl⟩ hp
    ·rfl
   rw [this]; exact qch
theorem qrp {r:List Nat}:∀ {out:Heap},out.all (fun p=>r.contains p.1) = true -> news r out = []
 | [],_=>rfl
 | (i,b) :: h,hs=>by
  simp only [List.all_cons,Bool.and_eq_true] at hs
  simp only [news,hs.1,if_true,qrp hs.2]
theorem qpj {e:Env} {dst:Option Nat} {r:List Nat} {w:Bool} {v:AV} {out:Heap}:qbq e dst (.did r w v out) = qxf e dst v:=rfl
theorem qiw (hc:qlY call cK) {c d:Nat}:∀ {ops:List IOper} {e:Env} {h:Heap} {nx:Nat} {K:Env -> Option R} {ρ:R},qrD P cK ops e h nx K = some ρ -> ∀ log,∃ e' log',K e' = some ρ /\
  (ops.all (within c d) = true -> qdq c d e' = qdq c d e) /\ ∀ more (out:Option (X × Env × Heap × List Step)),qc8 P call more e' h (nx + 16 * ops.length) log' = out -> qc8 P call (ops ++ more) e h nx log = out
 | [],e,h,nx,K,ρ,hs,log=>⟨e,log,hs,fun _=>rfl,fun more out ho=>by simpa using ho⟩
 | o :: ops,e,h,nx,K,ρ,hs,log=>by
  simp only [qrD] at hs
  obtain ⟨s,h1,h2⟩:=qgv hc hs
  cases s with
  | pan r v out=>cases h2
  | skip=>
   obtain ⟨e',log',h3,h4,h5⟩:=qiw (c:=c) (d:=d) hc h2 (log ++ [.skip])
   refine ⟨e',log',h3,fun ha=>?_,fun more out ho=>?_⟩
   ·simp only [List.all_cons,Bool.and_eq_true] at ha
    rw [h4 ha.2,qoU ha.1 _ _ (fun _ _ _ h=>by cases h)]
   ·simp only [List.cons_append,qc8,h1]
    refine h5 more out ?_
    rw [<- ho]; congr 1; simp; omega
  | did r w v out0=>
   simp only at h2
   split at h2
   ·rename_i hall
    rw [qm2,qm4,qm3] at h2
    obtain ⟨e',log',h3,h4,h5⟩:=qiw (c:=c) (d:=d) hc h2 (log ++ [.did r false v out0])
    refine ⟨e',log',h3,fun ha=>?_,fun more out ho=>?_⟩
    ·simp only [List.all_cons,Bool.and_eq_true] at ha
     rw [h4 ha.2,<- qpj (r:=r) (w:=false) (out:=out0),qoU ha.1 _ _ (fun _ _ _ h=>by cases h)]
    ·simp only [List.cons_append,qc8,h1]
     have hh:qaR h (.did r false v out0) = h:=by simp [qaR,qrp hall]
     rw [hh]
     refine h5 more out ?_
     rw [<- ho]; congr 1; simp; omega
   ·cases h2
theorem qm8 {t:Nat}:∀ {os g r:List IOper} {p:IOper},qpG t os = some (g,p,r) -> os = g ++ p :: r /\ ∃ a b,p.op = .pick (.t t) a b
 | [],g,r,p,h=>by simp [qpG] at h
 | o :: os,g,r,p,h=>by
  simp only [qpG] at h
  split at h
  ·rename_i c a b ho
   split at h
   ·rename_i hb
    cases h
    have:c = t:=Nat.eq_of_beq_eq_true hb
    subst this
    exact ⟨rfl,a,b,ho⟩
   ·split at h
    ·rename_i q
     cases h
     obtain ⟨h1,h2⟩:=qm8 q
     exact ⟨by rw [h1]; rfl,h2⟩
    ·cases h
  ·split at h
   ·rename_i q
    cases h
    obtain ⟨h1,h2⟩:=qm8 q
    exact ⟨by rw [h1]; rfl,h2⟩
   ·cases h
theorem qhL {cK:(R:Type) -> qgL R} (hc:∀ R,qlY call (cK R)):∀ {n:Nat} {ops:List IOper} {e:Env} {h:Heap} {nx:Nat} {K:X -> Env -> Heap -> Option R} {ρ:R},qSE P cK n ops e h nx K = some ρ -> ∀ log,∃ x e' h' log',qc8 P call ops e h nx log = some (x,e',h',log') /\ K x e' h' = some ρ
 | 0,ops,e,h,nx,K,ρ,hs,log=>by simp [qSE] at hs
 | n + 1,[],e,h,nx,K,ρ,hs,log=>⟨_,_,_,_,rfl,hs⟩
 | n + 1,o :: ops,e,h,nx,K,ρ,hs,log=>by
  simp only [qSE] at hs
  split at hs
  ·rename_i t d g p rest hg
   obtain ⟨hb,hs⟩:=qen hs
   rw [qm4,qm3] at hs
   simp only [qVG] at hg
   split at hg
   ·cases hg
   ·split at hg
    ·cases hg
    ·rename_i g0 p0 r0 he
     split at hg
     ·rename_i hpg hpd
      split at hg
      ·rename_i hall
       rw [Bool.and_eq_true] at hall
       replace hall:=hall.1
       cases hg
       obtain ⟨hops,a,b,hpo⟩:=qm8 he
       have hv:=qLg hb
       generalize gv (qrD P (cK Bool) (o :: g0) e h nx fun e1=>qrD P (cK Bool) [p] e1 h (nx + 16 * (o :: g0).length) (qKb d)) = bv at hv hs
       obtain ⟨e1,log1,h3,h4,h5⟩:=qiw (c:=t) (d:=d) (hc Bool) hv log
       have hkill:=h4 hall
       simp only [qrD] at h3
       obtain ⟨s,k1,k2⟩:=qgv (hc Bool) h3
       have htrim:∀ e2,qhY p e2 = qdq t d e2:=fun e2=>by unfold qhY; rw [hpo,hpd]
       have hself:∀ (v:AV) (e2:Env),qdq t d ((d,v) :: e2) = (d,v) :: qdq t d e2:=fun v e2=>by
        have hb:(Nat.blt t d && Nat.blt d d) = false:=by
         have:Nat.blt d d = false:=by
          cases hq:Nat.blt d d with
          | false=>rfl
          | true=>exact absurd (Nat.blt_eq ▸ hq) (Nat.lt_irrefl d)
         rw [this,Bool.and_false]
        simp only [qdq,hb]
       cases s with
       | pan r v out=>cases k2
       | skip=>
        exfalso
        rw [htrim,hpd,show qbq e1 (some d) Step.skip = (d,unit) :: e1 from rfl,hself] at k2
        simp [qKb,qbO,unit] at k2
       | did r w v out=>
        simp only at k2
        split at k2
        ·rename_i hall2
         rw [qm2,qm4,qm3,htrim,hpd,show qxf e1 (some d) v = (d,v) :: e1 from rfl,hself] at k2
         simp only [qKb,qbO,if_true] at k2
         split at k2
         ·rename_i b0
          cases k2
          have hh:qaR h (.did r false (.bool bv) out) = h:=by simp [qaR,qrp hall2]
          obtain ⟨x,e',h',log',q1,q2⟩:=qhL hc hs (log1 ++ [.did r false (.bool bv) out])
          refine ⟨x,e',h',log',?_,q2⟩
          have hsplit:o :: ops = (o :: g0) ++ p :: rest:=by rw [hops]; rfl
          rw [hsplit]
          refine h5 (p :: rest) _ ?_
          simp only [qc8,k1,hh]
          rw [htrim,qpj,hpd,show qxf e1 (some d) (AV.bool bv) = (d,.bool bv) :: e1 from rfl,hself,hkill]
          rw [<- q1]; congr 1
         ·cases k2
        ·cases k2
      ·cases hg
     ·cases hg
  ·obtain ⟨s,h1,h2⟩:=qgv (hc R) hs
   simp only [qc8,h1]
   cases s with
   | pan r v out=>exact ⟨_,_,_,_,rfl,h2⟩
   | skip=>exact qhL hc h2 _
   | did r w v out=>
    simp only at h2
    rw [qm2,qEW,qm4,qm3] at h2
    exact qhL hc h2 _
theorem qjM (hc:qlY call cK) {base:Nat}:∀ {ops:List IOper} {i:Nat} {e:Env} {h:Heap} {log:List Step} {K:Option AV -> Env -> Heap -> List Step -> Option R} {ρ:R},qUh P cK base i ops e h log K = some ρ -> ∃ pv e' h' log',qdg P call base i ops e h log = some (pv,e',h',log') /\ K pv e' h' log' = some ρ
 | [],i,e,h,log,K,ρ,hs=>⟨_,_,_,_,rfl,hs⟩
 | o :: ops,i,e,h,log,K,ρ,hs=>by
  simp only [qUh] at hs
  obtain ⟨s,h1,h2⟩:=qgv hc hs
  split at h2
  ·rename_i v hp
   exact ⟨_,_,_,_,by simp only [qdg,h1,hp],h2⟩
  ·rename_i hp
   split at h2
   ·rename_i ht
    split at h2
    ·rename_i hl
     obtain ⟨pv,e',h',log',h3,h4⟩:=qjM hc h2
     exact ⟨pv,e',h',log',by simp only [qdg,h1,hp,ht,if_true,hl]; exact h3,h4⟩
    ·rename_i q g hl
     obtain ⟨pv,e',h',log',h3,h4⟩:=qjM hc h2
     exact ⟨pv,e',h',log',by simp only [qdg,h1,hp,ht,if_true,hl]; exact h3,h4⟩
   ·cases h2
theorem qbY {cK:(R:Type) -> qgL R} (hc:∀ R,qlY call (cK R)):∀ {c:ICode},qqH loop lK c -> ∀ {s:St} {K:X -> St -> Option R} {ρ:R},qgJ P cK lK c s K = some ρ -> ∃ x s',qdc P call loop c s = some (x,s') /\ K x s' = some ρ:=by
 intro c
 induction c with
 | skip=>intro _ s K ρ h; exact ⟨_,_,rfl,h⟩
 | region ops d=>
  intro _ s K ρ h
  simp only [qgJ] at h
  cases d with
  | none=>
   obtain ⟨x,e',h',log',h1,h2⟩:=qhL hc h []
   exact ⟨x,_,by simp only [qdc,qbC,h1],h2⟩
  | some befs=>
   obtain ⟨pv,e',h',log',h1,h2⟩:=qjM (hc R) h
   cases pv with
   | none=>
    simp only at h2
    split at h2
    ·rename_i hcalm
     exact ⟨_,_,by simp only [qdc,qbC,h1,hcalm,if_true],h2⟩
    ·cases h2
   | some v=>
    simp only at h2
    split at h2
    ·rename_i hcalm
     exact ⟨_,_,by simp only [qdc,qbC,h1,hcalm,if_true],h2⟩
    ·cases h2
 | seq a b iha ihb=>
  intro hl s K ρ h
  simp only [qgJ] at h
  obtain ⟨x,s1,h1,h2⟩:=iha hl.1 h
  cases x with
  | normal=>
   obtain ⟨x2,s2,h3,h4⟩:=ihb hl.2 h2
   exact ⟨x2,s2,by simp only [qdc,h1]; exact h3,h4⟩
  | _=>exact ⟨_,_,by simp only [qdc,h1],h2⟩
 | cond c a b iha ihb=>
  intro hl s K ρ h
  simp only [qgJ] at h
  split at h
  ·rename_i t ht
   cases t with
   | true=>
    obtain ⟨x,s1,h1,h2⟩:=iha hl.1 h
    exact ⟨x,s1,by simp only [qdc,ht]; exact h1,h2⟩
   | false=>
    obtain ⟨x,s1,h1,h2⟩:=ihb hl.2 h
    exact ⟨x,s1,by simp only [qdc,ht]; exact h1,h2⟩
  ·cases h
 | block id a ih=>
  intro hl s K ρ h
  simp only [qgJ] at h
  obtain ⟨x,s1,h1,h2⟩:=ih hl h
  cases x with
  | exit j=>
   simp only at h2
   split at h2
   ·rename_i hj; exact ⟨_,_,by simp only [qdc,h1,hj,if_true],h2⟩
   ·rename_i hj; exact ⟨_,_,by simp only [qdc,h1,hj,if_false],h2⟩
  | _=>exact ⟨_,_,by simp only [qdc,h1],h2⟩
 | loop k a ih=>intro hl s K ρ h; exact hl _ _ _ h
 | exit id=>intro _ s K ρ h; exact ⟨_,_,rfl,h⟩
 | ret=>intro _ s K ρ h; exact ⟨_,_,rfl,h⟩
def qyN (P:Prog) (f k:Nat) (v:AV) (h:Heap) (K:AV -> Heap -> Option R):Option R:=
 let rest (v:AV) (h:Heap):Option R:=match qbL qdH h (idsA v ++ brought h k) (List.range k) with
  | none=>none
  | some r=>K (ren (place r) v) (qhc (place r) (sub h r))
 if P.fresh f then rest v h else match idsA v with
  | []=>rest (nz v) h
  | ids=>br (qkj h qdH v) (match qbL qdH h ids [] with
   | some r=>rest (qok h qdH v) (freeze h r)
   | none=>none) none
theorem qg4 {f k:Nat} {v:AV} {h:Heap} {K:AV -> Heap -> Option R} {ρ:R} (hs:qyN P f k v h K = some ρ):∃ v' h',qrg P f k v h = some (v',h') /\ K v' h' = some ρ:=by
 simp only [qyN] at hs
 split at hs
 ·rename_i hf
  split at hs
  ·cases hs
  ·rename_i r hr; exact ⟨_,_,by simp only [qrg,hf,if_true,hr],hs⟩
 ·rename_i hf
  split at hs
  ·rename_i hi
   split at hs
   ·cases hs
   ·rename_i r hr; exact ⟨_,_,by simp only [qrg,if_neg hf,still,hi,hr],hs⟩
  ·rename_i ids hi
   obtain ⟨hb,hs⟩:=qen hs
   split at hs
   ·rename_i r0 hr0
    split at hs
    ·cases hs
    ·rename_i r hr
     refine ⟨_,_,?_,hs⟩
     simp only [qrg,if_neg hf,still,qol _ _ hb,hr0,hr]
   ·cases hs
def qKa (P:Prog) (cK:(R:Type) -> qgL R) (lK:qvN R) (f:Nat) (F:Fun) (args:List AV) (h:Heap) (K:Res -> Heap -> Option R):Option R:=
 qgJ P cK lK F.body ⟨params 0 args,h,h.length,h.length⟩ fun x s=>
  let fin (_:Unit):Option R:=match qhd s F.results with
   | some vs=>qyN P f h.length (one vs) s.hp fun v h=>K (.ret v) h
   | none=>none
  match x with
  | .normal=>fin ()
  | .ret=>fin ()
  | .pan v=>qyN P f h.length v s.hp fun v h=>K (.pan v) h
  | .exit _=>none
theorem qv3 {cK:(R:Type) -> qgL R} (hc:∀ R,qlY call (cK R)) {f:Nat} {F:Fun} (hl:qqH loop lK F.body) {args:List AV} {h:Heap} {K:Res -> Heap -> Option R} {ρ:R} (hs:qKa P cK lK f F args h K = some ρ):∃ r h',body P call loop f F args h = some (r,h') /\ K r h' = some ρ:=by
 obtain ⟨x,s,h1,h2⟩:=qbY hc hl hs
 simp only [body,h1]
 cases x with
 | exit j=>cases h2
 | pan v=>
  simp only at h2 ⊢
  obtain ⟨v',h',hv,h2⟩:=qg4 h2
  exact ⟨_,_,by simp only [hv],h2⟩
 | normal=>
  simp only at h2 ⊢
  split at h2
  ·rename_i hv
   obtain ⟨v',h',hw,h2⟩:=qg4 h2
   exact ⟨_,_,by simp only [hv,hw],h2⟩
  ·cases h2
 | ret=>
  simp only at h2 ⊢
  split at h2
  ·rename_i hv
   obtain ⟨v',h',hw,h2⟩:=qg4 h2
   exact ⟨_,_,by simp only [hv,hw],h2⟩
  ·cases h2
def q0x (K:Res -> Heap -> Option R):List (Bool × Res × Heap) -> Option R
 | []=>none
 | (b,r,h) :: l=>br b (K r h) (q0x K l)
theorem qqr {K:Res -> Heap -> Option R} {ρ:R}:∀ {l:List (Bool × Res × Heap)},q0x K l = some ρ -> ∃ r h,(true,r,h) ∈ l /\ K r h = some ρ
 | [],h=>by cases h
 | (b,r,h) :: l,hs=>by
  cases b with
  | true=>exact ⟨r,h,by simp,hs⟩
  | false=>
   obtain ⟨r',h',h1,h2⟩:=qqr (l:=l) hs
   exact ⟨r',h',by simp [h1],h2⟩
def q0w (K:X -> St -> Option R):List (Bool × X × St) -> Option R
 | []=>none
 | (b,x,s) :: l=>br b (K x s) (q0w K l)
theorem qqq {K:X -> St -> Option R} {ρ:R}:∀ {l:List (Bool × X × St)},q0w K l = some ρ -> ∃ x s,(true,x,s) ∈ l /\ K x s = some ρ
 | [],h=>by cases h
 | (b,x,s) :: l,hs=>by
  cases b with
  | true=>exact ⟨x,s,by simp,hs⟩
  | false=>
   obtain ⟨x',s',h1,h2⟩:=qqq (l:=l) hs
   exact ⟨x',s',by simp [h1],h2⟩
end
end Go.Eng
namespace Go.Eng
theorem qp0 {IP:Prog} {keep:List Nat} {c:ICode} {s s':St} (h:norm (hk keep) s = norm (hk keep) s') {r:X × St} (hr:qit IP keep c s' = some r):qit IP keep c s = some r:=by
 obtain ⟨n,hn⟩:=qfx.1 hr
 refine qfx.2 ⟨n,?_⟩
 cases n with
 | zero=>simp [qaG] at hn
 | succ n=>simp only [qaG] at hn ⊢; rw [h]; exact hn
@[simp] theorem br_true {R:Type} (x y:R):br true x y = x:=rfl
@[simp] theorem br_false {R:Type} (x y:R):br false x y = y:=rfl
theorem getD_some {α:Type} {l:List α} {i:Nat} {d:α} (h:i < l.length):l[i]?.getD d = l[i]:=by simp [h]
end Go.Eng
namespace Go.Eng
inductive Rd (τ:Type) where
 | next (v:τ)
 | done (j:Nat)
inductive Rx (τ:Type) where
 | next (v:τ)
 | out (x:X) (s:St)
def qg0 {τ:Type} (st:τ -> Option (Rd τ)):Nat -> τ -> Option (Nat × τ)
 | 0,_=>none
 | n + 1,v=>match st v with
  | some (.next v')=>qg0 st n v'
  | some (.done j)=>some (j,v)
  | none=>none
theorem qpK {τ:Type} {st:τ -> Option (Rd τ)}:∀ {n:Nat} {v:τ} {r:Nat × τ},qg0 st n v = some r -> qg0 st (n + 1) v = some r
 | 0,v,r,h=>by simp [qg0] at h
 | n + 1,v,r,h=>by
  simp only [qg0] at h ⊢
  cases hs:st v with
  | none=>rw [hs] at h; cases h
  | some q=>
   rw [hs] at h
   cases q with
   | next v'=>exact qpK h
   | done j=>exact h
theorem qpJ {τ:Type} {st:τ -> Option (Rd τ)} {n m:Nat} (hnm:n <= m) {v:τ} {r:Nat × τ} (h:qg0 st n v = some r):qg0 st m v = some r:=by
 induction hnm with
 | refl=>exact h
 | step _ ih=>exact qpK ih
open Classical in
noncomputable def qaw {τ:Type} (st:τ -> Option (Rd τ)) (v:τ):Option (Nat × τ):=
 if h:∃ r n,qg0 st n v = some r then some h.choose else none
theorem qeq {τ:Type} {st:τ -> Option (Rd τ)} {v:τ} {r:Nat × τ}:qaw st v = some r ↔ ∃ n,qg0 st n v = some r:=by
 unfold qaw
 split
 ·rename_i h
  obtain ⟨n,hn⟩:=h.choose_spec
  constructor
  ·intro hr; cases hr; exact ⟨n,hn⟩
  ·rintro ⟨m,hm⟩
   have h1:=qpJ (Nat.le_max_left n m) hn
   have h2:=qpJ (Nat.le_max_right n m) hm
   rw [h1] at h2; exact h2
 ·rename_i h
  constructor
  ·intro hr; cases hr
  ·rintro ⟨n,hn⟩; exact absurd ⟨r,n,hn⟩ h
theorem qpL {τ:Type} (st:τ -> Option (Rd τ)) (v:τ):qaw st v = match st v with
  | some (.next v')=>qaw st v'
  | some (.done j)=>some (j,v)
  | none=>none:=by
 cases hs:st v with
 | none=>
  simp only
  cases hi:qaw st v with
  | none=>rfl
  | some r=>
   obtain ⟨n,hn⟩:=qeq.1 hi
   cases n with
   | zero=>simp [qg0] at hn
   | succ n=>simp [qg0,hs] at hn
 | some q=>
  cases q with
  | done j=>exact qeq.2 ⟨1,by simp [qg0,hs]⟩
  | next v'=>
   simp only
   cases hi:qaw st v' with
   | some r=>
    obtain ⟨n,hn⟩:=qeq.1 hi
    exact qeq.2 ⟨n + 1,by simp [qg0,hs,hn]⟩
   | none=>
    cases hj:qaw st v with
    | none=>rfl
    | some r=>
     obtain ⟨n,hn⟩:=qeq.1 hj
     cases n with
     | zero=>simp [qg0] at hn
     | succ n=>
      simp only [qg0,hs] at hn
      rw [qeq.2 ⟨n,hn⟩] at hi; cases hi
theorem qau {τ:Type} {st:τ -> Option (Rd τ)} {v v':τ} (h:st v = some (.next v')):qaw st v = qaw st v':=by rw [qpL,h]
theorem qaj {τ:Type} {st:τ -> Option (Rd τ)} {v:τ} {j:Nat} (h:st v = some (.done j)):qaw st v = some (j,v):=by rw [qpL,h]
def qR1 {τ:Type} (keep:List Nat) (dec:St -> Option τ) (x:X) (s:St):Option (Rx τ):=match x with
 | .normal=>match norm (hk keep) s with
  | some s=>match dec s with
   | some v=>some (.next v)
   | none=>none
  | none=>none
 | x=>match qKX keep x s with
  | some (x,s)=>some (.out x s)
  | none=>none
def cv {τ:Type} (ex:Nat -> X × St):Option (Rd τ) -> Option (Rx τ)
 | some (.next v)=>some (.next v)
 | some (.done j)=>some (.out (ex j).1 (ex j).2)
 | none=>none
section
variable {IP:Prog} {τ:Type} {cK:(R:Type) -> qgL R} {lK:qvN (Rx τ)} {keep:List Nat} {c:ICode}
end
def Told (IP:Prog) (keep:List Nat) (c:ICode) (g:St -> List (Bool × X × St)):Prop:=
 (∀ s x s',(true,x,s') ∈ g s -> qit IP keep c s = some (x,s')) /\ ∀ s,g s ≠ [] -> norm (hk keep) s = some s
theorem qus {IP:Prog} {keep:List Nat} {c:ICode} {g:St -> List (Bool × X × St)} (h:Told IP keep c g) {s s1:St} (hn:norm (hk keep) s = some s1) {x:X} {s':St} (hm:(true,x,s') ∈ g s1):qit IP keep c s = some (x,s'):=
 qp0 (by rw [hn,h.2 s1 (fun he=>by rw [he] at hm; cases hm)]) (h.1 s1 x s' hm)
end Go.Eng
namespace Go.Eng
inductive Lf where
 | i (n:Int)
 | b (x:Bool)
 | s (s:List UInt8)
 | l (es:List AV)
 | n (k:Nat)
 | m (kvs:List (AV × AV))
inductive PA where
 | int (k:IntKind)
 | bool
 | str
 | nilp | nilm | nilf | nili | junk
 | nils (q:NilS)
 | agg (ps:List PA)
 | tup (ps:List PA)
 | view (sz:Nat)
 | ptr (ps:List PA)
 | own (id off:Nat)
 | ownn (id off:Nat)
 | ref (id idx off:Nat)
 | mref (id:Nat)
 | fn (f:FnId) (ps:List PA)
 | iface (t:Nat) (p:PA)
def qJ8:Option (List Lf) -> Option (List Lf) -> Option (List Lf)
 | some a,some b=>some (a ++ b)
 | _,_=>none
def mA:PA -> AV -> Option (List Lf)
 | .int k,.int k' n=>if k' = k then some [.i n] else none
 | .bool,.bool x=>some [.b x]
 | .str,.str x=>some [.s x]
 | .nilp,.nilp=>some []
 | .nilm,.nilm=>some []
 | .nilf,.nilf=>some []
 | .nili,.nili=>some []
 | .junk,.junk=>some []
 | .nils q,.nils q'=>if q' = q then some [] else none
 | .agg ps,.agg cs=>mAs ps cs
 | .tup ps,.tup cs=>mAs ps cs
 | .view sz,.view sz' es=>if sz' = sz then some [.l es] else none
 | .ptr ps,.ptr cs=>mAs ps cs
 | .own id off,.own id' off' none=>if id' = id /\ off' = off then some [] else none
 | .ownn id off,.own id' off' (some k)=>if id' = id /\ off' = off then some [.n k] else none
 | .ref id idx off,.ref id' idx' off'=>if id' = id /\ idx' = idx /\ off' = off then some [] else none
 | .mref id,.mref id'=>if id' = id then some [] else none
 | .fn f ps,.fn f' cs=>if f' = f then mAs ps cs else none
 | .iface t p,.iface t' v=>if t' = t then mA p v else none
 | _,_=>none
where mAs:List PA -> List AV -> Option (List Lf)
 | [],[]=>some []
 | p :: ps,v :: vs=>qJ8 (mA p v) (mAs ps vs)
 | _,_=>none
def lfI:List Lf -> Int
 | .i n :: _=>n
 | _=>0
def lfB:List Lf -> Bool
 | .b n :: _=>n
 | _=>false
def lfS:List Lf -> List UInt8
 | .s n :: _=>n
 | _=>[]
def lfL:List Lf -> List AV
 | .l n :: _=>n
 | _=>[]
def lfN:List Lf -> Nat
 | .n n :: _=>n
 | _=>0
def lfM:List Lf -> List (AV × AV)
 | .m n :: _=>n
 | _=>[]
def szA:PA -> Nat
 | .int _ | .bool | .str | .view _ | .ownn _ _=>1
 | .agg ps | .tup ps | .ptr ps | .fn _ ps=>szAs ps
 | .iface _ p=>szA p
 | _=>0
where szAs:List PA -> Nat
 | []=>0
 | p :: ps=>szA p + szAs ps
def fA:PA -> List Lf -> AV
 | .int k,ls=>.int k (lfI ls)
 | .bool,ls=>.bool (lfB ls)
 | .str,ls=>.str (lfS ls)
 | .nilp,_=>.nilp
 | .nilm,_=>.nilm
 | .nilf,_=>.nilf
 | .nili,_=>.nili
 | .junk,_=>.junk
 | .nils sz,_=>.nils sz
 | .agg ps,ls=>.agg (fAs ps ls)
 | .tup ps,ls=>.tup (fAs ps ls)
 | .view sz,ls=>.view sz (lfL ls)
 | .ptr ps,ls=>.ptr (fAs ps ls)
 | .own id off,_=>.own id off none
 | .ownn id off,ls=>.own id off (some (lfN ls))
 | .ref id idx off,_=>.ref id idx off
 | .mref id,_=>.mref id
 | .fn f ps,ls=>.fn f (fAs ps ls)
 | .iface t p,ls=>.iface t (fA p ls)
where fAs:List PA -> List Lf -> List AV
 | [],_=>[]
 | p :: ps,ls=>fA p ls :: fAs ps (ls.drop (szA p))
theorem qfj {a b:Option (List Lf)} {r:List Lf} (h:qJ8 a b = some r):∃ x y,a = some x /\ b = some y /\ r = x ++ y:=by
 cases a <;> cases b <;> simp [qJ8] at h
 exact ⟨_,_,rfl,rfl,h.symm⟩
mutual
theorem qKM:∀ (p:PA) {v:AV} {ls:List Lf},mA p v = some ls -> ls.length = szA p /\ ∀ r,fA p (ls ++ r) = v
 | .int k,v,ls,h=>by
  cases v <;> simp only [mA,reduceCtorEq] at h
  split at h
  ·rename_i hk; subst hk; simp at h; subst h; exact ⟨rfl,fun r=>rfl⟩
  ·cases h
 | .bool,v,ls,h=>by cases v <;> simp [mA] at h; subst h; exact ⟨rfl,fun r=>rfl⟩
 | .str,v,ls,h=>by cases v <;> simp [mA] at h; subst h; exact ⟨rfl,fun r=>rfl⟩
 | .nilp,v,ls,h=>by cases v <;> simp [mA] at h; subst h; exact ⟨rfl,fun r=>rfl⟩
 | .nilm,v,ls,h=>by cases v <;> simp [mA] at h; subst h; exact ⟨rfl,fun r=>rfl⟩
 | .nilf,v,ls,h=>by cases v <;> simp [mA] at h; subst h; exact ⟨rfl,fun r=>rfl⟩
 | .nili,v,ls,h=>by cases v <;> simp [mA] at h; subst h; exact ⟨rfl,fun r=>rfl⟩
 | .junk,v,ls,h=>by cases v <;> simp [mA] at h; subst h; exact ⟨rfl,fun r=>rfl⟩
 | .nils sz,v,ls,h=>by
  cases v <;> simp only [mA,reduceCtorEq] at h
  split at h
  ·rename_i hk; subst hk; simp at h; subst h; exact ⟨rfl,fun r=>rfl⟩
  ·cases h
 | .agg ps,v,ls,h=>by
  cases v <;> simp only [mA,reduceCtorEq] at h
  obtain ⟨h1,h2⟩:=qnn ps h
  exact ⟨h1,fun r=>by simp only [fA,h2]⟩
 | .tup ps,v,ls,h=>by
  cases v <;> simp only [mA,reduceCtorEq] at h
  obtain ⟨h1,h2⟩:=qnn ps h
  exact ⟨h1,fun r=>by simp only [fA,h2]⟩
 | .view sz,v,ls,h=>by
  cases v <;> simp only [mA,reduceCtorEq] at h
  split at h
  ·rename_i hk; subst hk; simp at h; subst h; exact ⟨rfl,fun r=>rfl⟩
  ·cases h
 | .ptr ps,v,ls,h=>by
  cases v <;> simp only [mA,reduceCtorEq] at h
  obtain ⟨h1,h2⟩:=qnn ps h
  exact ⟨h1,fun r=>by simp only [fA,h2]⟩
 | .own id off,v,ls,h=>by
  cases v <;> first | (exfalso; revert h; simp [mA]; done) | skip
  rename_i a b lo
  cases lo <;> first | (exfalso; revert h; simp [mA]; done) | skip
  simp only [mA] at h
  split at h
  ·rename_i hk; obtain ⟨rfl,rfl⟩:=hk; simp at h; subst h; exact ⟨rfl,fun r=>rfl⟩
  ·cases h
 | .ownn id off,v,ls,h=>by
  cases v <;> first | (exfalso; revert h; simp [mA]; done) | skip
  rename_i a b lo
  cases lo <;> first | (exfalso; revert h; simp [mA]; done) | skip
  simp only [mA] at h
  split at h
  ·rename_i hk; obtain ⟨rfl,rfl⟩:=hk; simp at h; subst h; exact ⟨rfl,fun r=>rfl⟩
  ·cases h
 | .ref id idx off,v,ls,h=>by
  cases v <;> simp only [mA,reduceCtorEq] at h
  split at h
  ·rename_i hk; obtain ⟨rfl,rfl,rfl⟩:=hk; simp at h; subst h; exact ⟨rfl,fun r=>rfl⟩
  ·cases h
 | .mref id,v,ls,h=>by
  cases v <;> simp only [mA,reduceCtorEq] at h
  split at h
  ·rename_i hk; subst hk; simp at h; subst h; exact ⟨rfl,fun r=>rfl⟩
  ·cases h
 | .fn f ps,v,ls,h=>by
  cases v <;> simp only [mA,reduceCtorEq] at h
  split at h
  ·rename_i hk; subst hk
   obtain ⟨h1,h2⟩:=qnn ps h
   exact ⟨h1,fun r=>by simp only [fA,h2]⟩
  ·cases h
 | .iface t p,v,ls,h=>by
  cases v <;> simp only [mA,reduceCtorEq] at h
  split at h
  ·rename_i hk; subst hk
   obtain ⟨h1,h2⟩:=qKM p h
   exact ⟨h1,fun r=>by simp only [fA,h2]⟩
  ·cases h
theorem qnn:∀ (ps:List PA) {vs:List AV} {ls:List Lf},mA.mAs ps vs = some ls -> ls.length = szA.szAs ps /\ ∀ r,fA.fAs ps (ls ++ r) = vs
 | [],vs,ls,h=>by cases vs <;> simp [mA.mAs] at h; subst h; exact ⟨rfl,fun r=>rfl⟩
 | p :: ps,vs,ls,h=>by
  cases vs <;> simp only [mA.mAs,reduceCtorEq] at h
  obtain ⟨x,y,h1,h2,rfl⟩:=qfj h
  obtain ⟨g1,g2⟩:=qKM p h1
  obtain ⟨g3,g4⟩:=qnn ps h2
  refine ⟨by simp [szA.szAs,g1,g3],fun r=>?_⟩
  simp only [fA.fAs]
  rw [List.append_assoc,g2]
  congr 1
  rw [<- g1,List.drop_left]
  exact g4 r
end
inductive PB where
 | box (ps:List PA) (fz:Bool)
 | arr (sz:Nat) (fz:Bool)
 | mp
def mB:PB -> Blk -> Option (List Lf)
 | .box ps fz,.box cs fz'=>if fz' = fz then mA.mAs ps cs else none
 | .arr sz fz,.arr sz' es fz'=>if sz' = sz /\ fz' = fz then some [.l es] else none
 | .mp,.mp kvs=>some [.m kvs]
 | _,_=>none
def szB:PB -> Nat
 | .box ps _=>szA.szAs ps
 | _=>1
def fB:PB -> List Lf -> Blk
 | .box ps fz,ls=>.box (fA.fAs ps ls) fz
 | .arr sz fz,ls=>.arr sz (lfL ls) fz
 | .mp,ls=>.mp (lfM ls)
theorem qZr {p:PB} {v:Blk} {ls:List Lf} (h:mB p v = some ls):ls.length = szB p /\ ∀ r,fB p (ls ++ r) = v:=by
 cases p <;> cases v <;> simp only [mB,reduceCtorEq] at h
 ·split at h
  ·rename_i hk; subst hk
   obtain ⟨h1,h2⟩:=qnn _ h
   exact ⟨h1,fun r=>by simp only [fB,h2]⟩
  ·cases h
 ·split at h
  ·rename_i hk; obtain ⟨rfl,rfl⟩:=hk; simp at h; subst h; exact ⟨rfl,fun r=>rfl⟩
  ·cases h
 ·simp at h; subst h; exact ⟨rfl,fun r=>rfl⟩
def mH:List (Nat × PB) -> Heap -> Option (List Lf)
 | [],[]=>some []
 | (i,p) :: ps,(j,b) :: h=>if j = i then qJ8 (mB p b) (mH ps h) else none
 | _,_=>none
def szH:List (Nat × PB) -> Nat
 | []=>0
 | (_,p) :: ps=>szB p + szH ps
def fH:List (Nat × PB) -> List Lf -> Heap
 | [],_=>[]
 | (i,p) :: ps,ls=>(i,fB p ls) :: fH ps (ls.drop (szB p))
theorem qKO:∀ {ps:List (Nat × PB)} {h:Heap} {ls:List Lf},mH ps h = some ls -> ls.length = szH ps /\ ∀ r,fH ps (ls ++ r) = h
 | [],h,ls,hh=>by cases h <;> simp [mH] at hh; subst hh; exact ⟨rfl,fun r=>rfl⟩
 | (i,p) :: ps,h,ls,hh=>by
  cases h with
  | nil=>simp [mH] at hh
  | cons jb h=>
   obtain ⟨j,b⟩:=jb
   simp only [mH] at hh
   split at hh
   ·rename_i hk; subst hk
    obtain ⟨x,y,h1,h2,rfl⟩:=qfj hh
    obtain ⟨g1,g2⟩:=qZr h1
    obtain ⟨g3,g4⟩:=qKO h2
    refine ⟨by simp [szH,g1,g3],fun r=>?_⟩
    simp only [fH]
    rw [List.append_assoc,g2,<- g1,List.drop_left,g4]
   ·cases hh
def mE:List (Nat × PA) -> Env -> Option (List Lf)
 | [],[]=>some []
 | (i,p) :: ps,(j,b) :: h=>if j = i then qJ8 (mA p b) (mE ps h) else none
 | _,_=>none
def szE:List (Nat × PA) -> Nat
 | []=>0
 | (_,p) :: ps=>szA p + szE ps
def fE:List (Nat × PA) -> List Lf -> Env
 | [],_=>[]
 | (i,p) :: ps,ls=>(i,fA p ls) :: fE ps (ls.drop (szA p))
theorem qVS:∀ {ps:List (Nat × PA)} {h:Env} {ls:List Lf},mE ps h = some ls -> ls.length = szE ps /\ ∀ r,fE ps (ls ++ r) = h
 | [],h,ls,hh=>by cases h <;> simp [mE] at hh; subst hh; exact ⟨rfl,fun r=>rfl⟩
 | (i,p) :: ps,h,ls,hh=>by
  cases h with
  | nil=>simp [mE] at hh
  | cons jb h=>
   obtain ⟨j,b⟩:=jb
   simp only [mE] at hh
   split at hh
   ·rename_i hk; subst hk
    obtain ⟨x,y,h1,h2,rfl⟩:=qfj hh
    obtain ⟨g1,g2⟩:=qKM p h1
    obtain ⟨g3,g4⟩:=qVS h2
    refine ⟨by simp [szE,g1,g3],fun r=>?_⟩
    simp only [fE]
    rw [List.append_assoc,g2,<- g1,List.drop_left,g4]
   ·cases hh
structure PSt where
 tm:List (Nat × PA)
 hp:List (Nat × PB)
 nx:Nat
 k:Nat
def mSt (p:PSt) (s:St):Option (List Lf):=if s.nx = p.nx /\ s.k = p.k then qJ8 (mE p.tm s.tm) (mH p.hp s.hp) else none
def fSt (p:PSt) (ls:List Lf):St:=⟨fE p.tm ls,fH p.hp (ls.drop (szE p.tm)),p.nx,p.k⟩
theorem qOU {p:PSt} {s:St} {ls:List Lf} (h:mSt p s = some ls):fSt p ls = s:=by
 simp only [mSt] at h
 split at h
 ·rename_i hk
  obtain ⟨x,y,h1,h2,rfl⟩:=qfj h
  obtain ⟨g1,g2⟩:=qVS h1
  obtain ⟨g3,g4⟩:=qKO h2
  have:=g4 []
  rw [List.append_nil] at this
  obtain ⟨tm,hp,nx,k⟩:=s
  simp only at hk
  simp only [fSt,g2,<- g1,List.drop_left,this,hk.1,hk.2]
 ·cases h
structure PArgs where
 as:List PA
 hp:List (Nat × PB)
def qVR (p:PArgs) (a:List AV) (h:Heap):Option (List Lf):=qJ8 (mA.mAs p.as a) (mH p.hp h)
def qKn (p:PArgs) (ls:List Lf):List AV × Heap:=(fA.fAs p.as ls,fH p.hp (ls.drop (szA.szAs p.as)))
theorem qKN {p:PArgs} {a:List AV} {h:Heap} {ls:List Lf} (hh:qVR p a h = some ls):(a,h) = qKn p ls:=by
 obtain ⟨x,y,h1,h2,rfl⟩:=qfj hh
 obtain ⟨g1,g2⟩:=qnn _ h1
 obtain ⟨g3,g4⟩:=qKO h2
 have:=g4 []
 rw [List.append_nil] at this
 simp only [qKn,g2,<- g1,List.drop_left,this]
structure PRes where
 pan:Bool
 v:PA
 hp:List (Nat × PB)
def qXT (p:PRes) (r:Res) (h:Heap):Option (List Lf):=match p.pan,r with
 | false,.ret v=>qJ8 (mA p.v v) (mH p.hp h)
 | true,.pan v=>qJ8 (mA p.v v) (mH p.hp h)
 | _,_=>none
def qTB (p:PRes) (ls:List Lf):Res × Heap:=((match p.pan with | false=>.ret (fA p.v ls) | true=>.pan (fA p.v ls)),fH p.hp (ls.drop (szA p.v)))
theorem qGh {p:PRes} {r:Res} {h:Heap} {ls:List Lf} (hh:qXT p r h = some ls):(r,h) = qTB p ls:=by
 obtain ⟨pan,pv,php⟩:=p
 cases pan <;> cases r <;> simp only [qXT,reduceCtorEq] at hh
 all_goals
  obtain ⟨x,y,h1,h2,rfl⟩:=qfj hh
  obtain ⟨g1,g2⟩:=qKM _ h1
  obtain ⟨g3,g4⟩:=qKO h2
  have:=g4 []
  rw [List.append_nil] at this
  simp only [qTB,g2,<- g1,List.drop_left,this]
end Go.Eng
namespace Go.Eng
instance instSumInh {α β:Type} [Inhabited α]:Inhabited (α ⊕ β):=⟨.inl default⟩
inductive DT (α:Type) where
 | no
 | at (a:α)
 | br (b:Bool) (x y:DT α)
def DT.ev {α:Type}:DT α -> Option α
 | .no=>none
 | .at a=>some a
 | .br b x y=>Go.Eng.br b x.ev y.ev
@[simp] theorem ev_no {α:Type}:(DT.no:DT α).ev = none:=rfl
@[simp] theorem ev_at {α:Type} (a:α):(DT.at a).ev = some a:=rfl
@[simp] theorem ev_br {α:Type} (b:Bool) (x y:DT α):(DT.br b x y).ev = bif b then x.ev else y.ev:=by cases b <;> rfl
noncomputable def DT.bi {α β:Type} [Inhabited β] (o:Option β) (k:β -> DT α) (e:DT α):DT α:=.br (sm o) (k (gv o)) e
@[simp] theorem ev_bi_some {α β:Type} [Inhabited β] (y:β) (k:β -> DT α) (e:DT α):(DT.bi (some y) k e).ev = (k y).ev:=rfl
@[simp] theorem ev_bi_none {α β:Type} [Inhabited β] (k:β -> DT α) (e:DT α):(DT.bi (none:Option β) k e).ev = e.ev:=rfl
@[simp] theorem br_eq {R:Type} (b:Bool) (x y:R):Go.Eng.br b x y = bif b then x else y:=by cases b <;> rfl
@[simp] theorem cond_some {α:Type} (b:Bool) (x y:α):(bif b then some x else some y) = some (bif b then x else y):=by cases b <;> rfl
noncomputable def qa2 {α:Type} (x:α):α:=Classical.choose (⟨x,rfl⟩:∃ y,y = x)
theorem qab {α:Type} (x:α):qa2 x = x:=Classical.choose_spec (⟨x,rfl⟩:∃ y,y = x)
def pl {α β:Type} (o:Option (α ⊕ β)):Option α:=match o with
 | some (.inl x)=>some x
 | _=>none
def pr {α β:Type} (o:Option (α ⊕ β)):Option β:=match o with
 | some (.inr x)=>some x
 | _=>none
def sl {α β:Type} [Inhabited α] (o:α ⊕ β):α:=match o with
 | .inl x=>x
 | _=>default
def sr {α β:Type} [Inhabited β] (o:α ⊕ β):β:=match o with
 | .inr x=>x
 | _=>default
def pj {τ:Type} (j:Nat) (o:Option (Nat × τ)):Option τ:=match o with
 | some (k,w)=>if k = j then some w else none
 | none=>none
@[simp] theorem pl_inl {α β:Type} (x:α):pl (some (Sum.inl x):Option (α ⊕ β)) = some x:=rfl
@[simp] theorem pl_inr {α β:Type} (x:β):pl (some (Sum.inr x):Option (α ⊕ β)) = none:=rfl
@[simp] theorem pl_none {α β:Type}:pl (none:Option (α ⊕ β)) = none:=rfl
@[simp] theorem pr_inl {α β:Type} (x:α):pr (some (Sum.inl x):Option (α ⊕ β)) = none:=rfl
@[simp] theorem pr_inr {α β:Type} (x:β):pr (some (Sum.inr x):Option (α ⊕ β)) = some x:=rfl
@[simp] theorem pr_none {α β:Type}:pr (none:Option (α ⊕ β)) = none:=rfl
@[simp] theorem sl_inl {α β:Type} [Inhabited α] (x:α):sl (Sum.inl x:α ⊕ β) = x:=rfl
@[simp] theorem sr_inr {α β:Type} [Inhabited β] (x:β):sr (Sum.inr x:α ⊕ β) = x:=rfl
@[simp] theorem pj_some {τ:Type} (j k:Nat) (w:τ):pj j (some (k,w)) = if k = j then some w else none:=rfl
@[simp] theorem pj_none {τ:Type} (j:Nat):pj j (none:Option (Nat × τ)) = none:=rfl
theorem qSx {α β:Type} {o:Option (α ⊕ β)} {x:α} (h:pl o = some x):o = some (.inl x):=by
 unfold pl at h; split at h
 ·cases h; rfl
 ·cases h
theorem qSy {α β:Type} {o:Option (α ⊕ β)} {x:β} (h:pr o = some x):o = some (.inr x):=by
 unfold pr at h; split at h
 ·cases h; rfl
 ·cases h
theorem q0a {τ:Type} {j:Nat} {o:Option (Nat × τ)} {w:τ} (h:pj j o = some w):o = some (j,w):=by
 unfold pj at h
 split at h
 ·split at h
  ·rename_i hk; cases h; rw [hk]
  ·cases h
 ·cases h
abbrev Ent:=List AV -> Heap -> List (Bool × Res × Heap)
abbrev Tab:=List (Nat × Ent)
def qTN:Tab -> Nat -> List AV -> Heap -> List (Bool × Res × Heap)
 | [],_,_,_=>[]
 | (i,g) :: t,f,a,h=>if f = i then g a h ++ qTN t f a h else qTN t f a h
def Snd (IP:Prog) (f:Nat) (g:Ent):Prop:=∀ a h r h',(true,r,h') ∈ g a h -> qbs IP f a h = some (r,h')
def qao (IP:Prog):Tab -> Prop
 | []=>True
 | (i,g) :: t=>Snd IP i g /\ qao IP t
def qv7 (T:Tab) (R:Type):qgL R:=fun f a h K=>q0x K (qTN T f a h)
theorem qxy {IP:Prog}:∀ {T:Tab},qao IP T -> ∀ {f:Nat} {a:List AV} {h:Heap} {r:Res} {h':Heap},(true,r,h') ∈ qTN T f a h -> qbs IP f a h = some (r,h')
 | [],_,f,a,h,r,h',hm=>by simp [qTN] at hm
 | (i,g) :: t,hT,f,a,h,r,h',hm=>by
  simp only [qTN] at hm
  split at hm
  ·rename_i hf
   subst hf
   rcases List.mem_append.1 hm with hm | hm
   ·exact hT.1 _ _ _ _ hm
   ·exact qxy hT.2 hm
  ·exact qxy hT.2 hm
theorem qqQ {IP:Prog} {T:Tab} (h:qao IP T) {R:Type}:qlY (qbs IP) (qv7 T R):=by
 intro f a hp K ρ hs
 obtain ⟨r,h',h1,h2⟩:=qqr hs
 exact ⟨r,h',qxy h h1,h2⟩
abbrev qdA:=St -> List (Bool × X × St)
abbrev qzK:=List (Nat × qdA)
def qTM:qzK -> Nat -> St -> List (Bool × X × St)
 | [],_,_=>[]
 | (i,g) :: t,id,s=>if id = i then g s ++ qTM t id s else qTM t id s
def qri {R:Type} (T:qzK):qvN R:=fun k _ s K=>match k with
 | []=>none
 | id :: _=>match norm (hk k) s with
  | none=>none
  | some s1=>q0w K (qTM T id s1)
def qIA:qzK -> List Nat -> List qdA
 | [],_=>[]
 | (i,g) :: t,k=>match k with
  | []=>[]
  | id :: _=>if id = i then g :: qIA t k else qIA t k
def LOk (IP:Prog) (T:qzK):List (List Nat × ICode) -> Prop
 | []=>True
 | p :: r=>(∀ g ∈ qIA T p.1,Told IP p.1 p.2 g) /\ LOk IP T r
theorem qrV {id:Nat} {rest:List Nat} {s:St} {e:Bool × X × St}:∀ {T:qzK},e ∈ qTM T id s -> ∃ g ∈ qIA T (id :: rest),e ∈ g s
 | [],h=>by simp [qTM] at h
 | (i,g) :: t,h=>by
  simp only [qTM] at h
  split at h
  ·rename_i hi
   rcases List.mem_append.1 h with h | h
   ·exact ⟨g,by simp [qIA,hi],h⟩
   ·obtain ⟨g',h1,h2⟩:=qrV h
    exact ⟨g',by simp [qIA,hi]; exact Or.inr (by rw [<- hi]; exact h1),h2⟩
  ·rename_i hi
   obtain ⟨g',h1,h2⟩:=qrV h
   exact ⟨g',by simp [qIA,hi]; exact h1,h2⟩
theorem qjJ {IP:Prog} {T:qzK}:∀ {a b:List (List Nat × ICode)},LOk IP T (a ++ b) -> LOk IP T a /\ LOk IP T b
 | [],_,h=>⟨trivial,h⟩
 | _ :: _,_,h=>⟨⟨h.1,(qjJ h.2).1⟩,(qjJ h.2).2⟩
theorem qrj {IP:Prog} {T:qzK} {R:Type}:∀ {c:ICode},LOk IP T (loops c) -> qqH (R:=R) (qit IP) (qri T) c:=by
 intro c
 induction c with
 | seq a b iha ihb=>intro h; exact ⟨iha (qjJ h).1,ihb (qjJ h).2⟩
 | cond x a b iha ihb=>intro h; exact ⟨iha (qjJ h).1,ihb (qjJ h).2⟩
 | block id a ih=>intro h; exact ih h
 | loop k a ih=>
  intro h s K ρ hs
  have hk:=h.1
  cases k with
  | nil=>simp [qri] at hs
  | cons id rest=>
   simp only [qri] at hs
   split at hs
   ·cases hs
   ·rename_i s1 hn
    obtain ⟨x,s',h1,h2⟩:=qqq hs
    obtain ⟨g,h3,h4⟩:=qrV (rest:=rest) h1
    exact ⟨x,s',qus (hk g h3) hn h4,h2⟩
 | _=>intro _; exact trivial
theorem qae {IP:Prog} {T:qzK} {c:ICode} {l:List (List Nat × ICode)} (h:loops c = l) (hl:LOk IP T l):LOk IP T (loops c):=h ▸ hl
theorem qaH {IP:Prog} {T:qzK} {p:List Nat × ICode} {g:qdA} (h:qIA T p.1 = [g]) (t:Told IP p.1 p.2 g):∀ g ∈ qIA T p.1,Told IP p.1 p.2 g:=by
 rw [h]; intro g' hg'; rw [List.mem_singleton] at hg'; subst hg'; exact t
theorem qQv {IP:Prog} {T:qzK} {p:List Nat × ICode} (h:qIA T p.1 = []):∀ g ∈ qIA T p.1,Told IP p.1 p.2 g:=by
 rw [h]; intro g' hg'; cases hg'
section
variable {R:Type} {ls:List Lf} {v:R}
end
def E1 {α:Type} [Inhabited α] (e:α -> Res × Heap) (o:Option α):List (Bool × Res × Heap):=[(sm o,(e (gv o)).1,(e (gv o)).2)]
def E2 {α β:Type} [Inhabited α] (e:α -> Res × Heap) (E:Option β -> List (Bool × Res × Heap)) (o:Option (α ⊕ β)):List (Bool × Res × Heap):=(sm (pl o),(e (gv (pl o))).1,(e (gv (pl o))).2) :: E (pr o)
theorem qVA {IP:Prog} {T:Tab} {L:qzK} {f:Nat} {F:Fun} {args:List AV} {h:Heap} {β:Type} {dec:Res -> Heap -> Option β} {er:β -> Res × Heap} {t:DT β} {y:β} (hT:qao IP T) (hF:IP.fn f = some F) (hL:LOk IP L (loops F.body))
  (hdec:∀ r h y,dec r h = some y -> (r,h) = er y) (hb:qKa (R:=β) IP (qv7 T) (qri L) f F args h dec = t.ev) (ht:t.ev = some y):qbs IP f args h = some (er y):=by
 rw [ht] at hb
 obtain ⟨r,h',h1,h2⟩:=qv3 (fun R=>qqQ hT) (qrj hL) hb
 rw [<- hdec _ _ _ h2]
 exact qKd hF h1
def cvR {τ:Type} (ex:Nat -> X × St):Rd τ -> Rx τ
 | .next v=>.next v
 | .done j=>.out (ex j).1 (ex j).2
def cvD {τ:Type} (ex:Nat -> X × St):DT (Rd τ) -> DT (Rx τ)
 | .no=>.no
 | .at r=>.at (cvR ex r)
 | .br b x y=>.br b (cvD ex x) (cvD ex y)
theorem qDH {τ:Type} {ex:Nat -> X × St}:∀ {t:DT (Rd τ)},(cvD ex t).ev = cv ex t.ev
 | .no=>rfl
 | .at r=>by cases r <;> rfl
 | .br b x y=>by
  cases b
  ·exact qDH (t:=y)
  ·exact qDH (t:=x)
def qZ8:X -> Bool
 | .normal=>false
 | _=>true
open Classical in
noncomputable def qfI {β:Type} (s:Nat -> Option β):Option β:=if h:∃ r n,∀ m,n <= m -> s m = some r then some h.choose else none
theorem qFF {β:Type} {s:Nat -> Option β} {r:β} (h:qfI s = some r):∃ n,s n = some r:=by
 unfold qfI at h
 split at h
 ·rename_i hx
  obtain ⟨n,hn⟩:=hx.choose_spec
  cases h
  exact ⟨n,hn n (Nat.le_refl n)⟩
 ·cases h
theorem qb3 {β:Type} {s:Nat -> Option β} {r:β} {n:Nat} (h:∀ m,n <= m -> s m = some r):qfI s = some r:=by
 unfold qfI
 have hx:∃ r n,∀ m,n <= m -> s m = some r:=⟨r,n,h⟩
 rw [dif_pos hx]
 obtain ⟨k,hk⟩:=hx.choose_spec
 have h1:=hk (max n k) (Nat.le_max_right _ _)
 rw [h _ (Nat.le_max_left _ _)] at h1
 exact h1.symm
end Go.Eng
namespace Go.Eng
set_option linter.unusedSectionVars false
variable [Globs]
theorem qc6 {R:Type} {loop:qgM}:∀ c:ICode,qqH (R:=R) loop (fun _ _ _ _=>none) c
 | .seq a b=>⟨qc6 a,qc6 b⟩
 | .cond _ a b=>⟨qc6 a,qc6 b⟩
 | .block _ a=>qc6 a
 | .loop _ _=>fun _ _ _ h=>by cases h
 | .skip | .region _ _ | .exit _ | .ret=>trivial
end Go.Eng
namespace Go.Eng
def big:Nat:=9223372036854775807
theorem wrap64 {n:Int} (h1:-9223372036854775808 <= n) (h2:n <= 9223372036854775807):IntKind.i64.wrap n = n:=by
 simp [IntKind.wrap,IntKind.signed,IntKind.bits]
 split <;> omega
theorem qat {n m:Nat} (h:n < m) (hm:m <= big):IntKind.i64.wrap ((n:Int) + 1) = ((n + 1:Nat):Int):=by
 simp only [big] at hm
 rw [wrap64 (by omega) (by omega)]; simp
theorem qvt {n:Nat} (h:0 < n) (hm:n <= big):IntKind.i64.wrap ((n:Int) - 1) = ((n - 1:Nat):Int):=by
 simp only [big] at hm
 rw [wrap64 (by omega) (by omega)]; omega
section
variable {τ:Type} {av:τ -> AV} {ks:List CS}
theorem qs8 (l:List τ) (n:Nat):qd5 (l.map av) (n:Int) = (l[n]?).map av:=by simp [qd5]
theorem qKT (hk:∀ x,qnv ks (qac (av x)) = true) (l:List τ) (n:Nat):qaQ ks (l.map av) (n:Int) = decide (n < l.length):=by
 simp only [qaQ,qs8]
 by_cases h:n < l.length
 ·simp [h,hk]
 ·simp [h]
theorem qkc (hk:∀ x,qnv ks (qac (av x)) = true) {l:List τ} {n:Nat} (h:n < l.length):qaQ ks (l.map av) (n:Int) = true:=by
 rw [qKT hk,decide_eq_true h]
theorem qbF {l:List τ} {n:Nat} (h:n < l.length) (j:Nat):cellAt (l.map av) (n:Int) j = ((qac (av l[n]))[j]?).getD .junk:=by
 simp [cellAt,qs8,h]
theorem qtf {l:List τ} {n:Nat} (h:n < l.length) (j:Nat):qfl (l.map av) n j = ((qac (av l[n]))[j]?).getD .junk:=by
 simp [qfl,h]
theorem qGF {l:List τ} {n off:Nat} (h:n < l.length):okP ks (l.map av) n off = qnv ks (((qac (av l[n])).drop off).take ks.length):=by
 simp [okP,h]
theorem qcp {l n:Nat} (h:n < l):inB l (n:Int) = true:=by simp [inB,h]
theorem qbg {s:List UInt8} {n:Nat} (h:n < s.length):qaA s (n:Int) = ((s[n]).toNat:Int):=by
 simp [qaA,qd5,h]
theorem qbn {n m:Nat} (h:n < m):decide ((n:Int) < (m:Int)) = true:=by simp [h]
theorem qOS {n m:Nat} (h:¬ n < m):decide ((n:Int) < (m:Int)) = false:=by simp; omega
theorem qiy {n b:Nat} (h:n * b <= lim):room n b = true:=decide_eq_true h
end
theorem drop_at {τ:Type} {l:List τ} {n:Nat} (h:n < l.length):l.drop n = l[n] :: l.drop (n + 1):=List.drop_eq_getElem_cons h
theorem qdt {τ:Type} {st:τ -> Option (Rd τ)} (hd:Nat -> τ) (K j:Nat):∀ (n:Nat),n <= K -> (∀ m,n <= m -> m < K -> st (hd m) = some (.next (hd (m + 1)))) -> st (hd K) = some (.done j) -> qaw st (hd n) = some (j,hd K):=by
 intro n hn hs he
 obtain ⟨d,rfl⟩:∃ d,K = n + d:=⟨K - n,by omega⟩
 clear hn
 induction d generalizing n with
 | zero=>exact qaj he
 | succ d ih=>
  rw [qau (hs n (Nat.le_refl _) (by omega))]
  have:=ih (n + 1) (fun m h1 h2=>hs m (by omega) (by omega)) (by rw [show n + 1 + d = n + (d + 1) by omega]; exact he)
  rw [this,show n + 1 + d = n + (d + 1) by omega]
def qhf {α:Type} (p:α -> Bool) (jx:α -> Nat) (je:Nat) (l:List α):Nat:=match l.find? p with
 | some x=>jx x
 | none=>je
theorem qa8 {α τ:Type} {st:τ -> Option (Rd τ)} {l:List α} (hd:Nat -> τ) (p:α -> Bool) (jx:α -> Nat) (je:Nat)
  (hs:∀ n (h:n < l.length),st (hd n) = some (bif p l[n] then .done (jx l[n]) else .next (hd (n + 1)))) (he:st (hd l.length) = some (.done je)) :
  qaw st (hd 0) = some (qhf p jx je l,hd (l.findIdx p)):=by
 unfold qhf
 cases hf:l.find? p with
 | none=>
  have hn:∀ x ∈ l,¬ p x = true:=by simpa using List.find?_eq_none.1 hf
  have hi:l.findIdx p = l.length:=List.findIdx_eq_length.2 (by intro x hx; simpa using hn x hx)
  rw [hi]
  exact qdt hd l.length je 0 (Nat.zero_le _) (fun m _ hm=>by rw [hs m hm,Bool.eq_false_iff.2 (hn _ (List.getElem_mem hm))]; rfl) he
 | some x=>
  have hp:p x = true:=List.find?_some hf
  have hlt:l.findIdx p < l.length:=List.findIdx_lt_length.2 ⟨x,List.mem_of_find?_eq_some hf,hp⟩
  have hx:l[l.findIdx p] = x:=by
   have:=List.getElem?_eq_getElem hlt
   rw [List.find?_eq_getElem?_findIdx] at hf
   rw [this] at hf; exact Option.some.inj hf
  refine qdt hd (l.findIdx p) (jx x) 0 (Nat.zero_le _) (fun m _ hm=>?_) ?_
  ·rw [hs m (by omega),List.not_of_lt_findIdx hm]; rfl
  ·rw [hs _ hlt,hx,hp]; rfl
theorem qug {τ:Type} {st:τ -> Option (Rd τ)} (N:Nat) (hd:Nat -> τ) (p:Nat -> Bool) (jx:Nat -> Nat) (je:Nat)
  (hs:∀ n,n < N -> st (hd n) = some (bif p n then .done (jx n) else .next (hd (n + 1)))) (he:st (hd N) = some (.done je)) :
  qaw st (hd 0) = some (qhf p jx je (List.range N),hd ((List.range N).findIdx p)):=
 qa8 (l:=List.range N) hd p jx je (fun n h=>by rw [List.getElem_range]; exact hs n (by simpa using h)) (by simpa using he)
theorem qoh {α:Type} {p:α -> Bool} {jx:α -> Nat} {je:Nat} {l:List α} (h:l.any p = false):qhf p jx je l = je:=by
 unfold qhf
 rw [List.find?_eq_none.2 (by simpa using h)]
theorem qbG {α:Type} {p:α -> Bool} {j je:Nat} {l:List α}:qhf p (fun _=>j) je l = bif l.any p then j else je:=by
 unfold qhf
 cases hf:l.find? p with
 | none=>
  have:l.any p = false:=by simpa using hf
  rw [this]; rfl
 | some x=>
  have:l.any p = true:=List.any_eq_true.2 ⟨x,List.mem_of_find?_eq_some hf,List.find?_some hf⟩
  rw [this]; rfl
def qtE {α σ:Type} (f:Nat -> σ -> α -> σ):Nat -> σ -> List α -> σ
 | _,a,[]=>a
 | n,a,x :: l=>qtE f (n + 1) (f n a x) l
theorem qm0 {α σ:Type} {f:σ -> α -> σ}:∀ {l:List α} {n:Nat} {a:σ},qtE (fun _=>f) n a l = l.foldl f a
 | [],_,_=>rfl
 | x :: l,n,a=>by simp only [qtE,List.foldl_cons]; exact qm0
theorem qBm {α σ τ:Type} {st:τ -> Option (Rd τ)} {l:List α} (hd:Nat -> σ -> τ) (f:Nat -> σ -> α -> σ) (jx:σ -> Nat) (inv:Nat -> σ -> Prop) {a:σ} (h0:inv 0 a)
  (hi:∀ n a (h:n < l.length),inv n a -> inv (n + 1) (f n a l[n]))
  (hs:∀ n a (h:n < l.length),inv n a -> st (hd n a) = some (.next (hd (n + 1) (f n a l[n])))) (he:∀ a,inv l.length a -> st (hd l.length a) = some (.done (jx a))) :
  qaw st (hd 0 a) = some (jx (qtE f 0 a l),hd l.length (qtE f 0 a l)):=by
 have key:∀ (k n:Nat) (a:σ),n + k = l.length -> inv n a -> qaw st (hd n a) = some (jx (qtE f n a (l.drop n)),hd l.length (qtE f n a (l.drop n))):=by
  intro k
  induction k with
  | zero=>
   intro n a hn ha
   have:n = l.length:=by omega
   subst this
   rw [qaj (he a ha)]; simp [qtE]
  | succ k ih=>
   intro n a hn ha
   have h:n < l.length:=by omega
   rw [qau (hs n a h ha),ih (n + 1) _ (by omega) (hi n a h ha),drop_at h]
   rfl
 have:=key l.length 0 a (by omega) h0
 simpa using this
theorem qg5 {α σ τ:Type} {st:τ -> Option (Rd τ)} {l:List α} (hd:Nat -> σ -> τ) (f:σ -> α -> σ) (jx:σ -> Nat) (inv:Nat -> σ -> Prop) {a:σ} (h0:inv 0 a)
  (hi:∀ n a (h:n < l.length),inv n a -> inv (n + 1) (f a l[n]))
  (hs:∀ n a (h:n < l.length),inv n a -> st (hd n a) = some (.next (hd (n + 1) (f a l[n])))) (he:∀ a,inv l.length a -> st (hd l.length a) = some (.done (jx a))) :
  qaw st (hd 0 a) = some (jx (l.foldl f a),hd l.length (l.foldl f a)):=by
 have:=qBm (st:=st) (l:=l) hd (fun _=>f) jx inv h0 hi hs he
 rwa [qm0] at this
end Go.Eng
namespace Go.Eng
inductive LKd where
 | i | b | s | l | n | m
def kdA:PA -> List LKd
 | .int _=>[.i]
 | .bool=>[.b]
 | .str=>[.s]
 | .view _=>[.l]
 | .ownn _ _=>[.n]
 | .agg ps=>kdAs ps
 | .tup ps=>kdAs ps
 | .ptr ps=>kdAs ps
 | .fn _ ps=>kdAs ps
 | .iface _ p=>kdA p
 | _=>[]
where kdAs:List PA -> List LKd
 | []=>[]
 | p :: ps=>kdA p ++ kdAs ps
def kdB:PB -> List LKd
 | .box ps _=>kdA.kdAs ps
 | .arr _ _=>[.l]
 | .mp=>[.m]
def kdH:List (Nat × PB) -> List LKd
 | []=>[]
 | (_,b) :: r=>kdB b ++ kdH r
def kdE:List (Nat × PA) -> List LKd
 | []=>[]
 | (_,b) :: r=>kdA b ++ kdE r
def qdE (p:PArgs):List LKd:=kdA.kdAs p.as ++ kdH p.hp
def qra (p:PRes):List LKd:=kdA p.v ++ kdH p.hp
def qrb (p:PSt):List LKd:=kdE p.tm ++ kdH p.hp
abbrev TyK:LKd -> Type
 | .i=>Int
 | .b=>Bool
 | .s=>List UInt8
 | .l=>List AV
 | .n=>Nat
 | .m=>List (AV × AV)
abbrev Tup:List LKd -> Type
 | []=>Unit
 | [k]=>TyK k
 | k :: ks=>TyK k × Tup ks
abbrev qs5:List (List LKd) -> Type
 | []=>Empty
 | [k]=>Tup k
 | k :: ks=>Tup k ⊕ qs5 ks
def q0u:(k:LKd) -> TyK k -> Lf
 | .i,x=>.i x
 | .b,x=>.b x
 | .s,x=>.s x
 | .l,x=>.l x
 | .n,x=>.n x
 | .m,x=>.m x
def qXZ:(k:LKd) -> Lf -> Option (TyK k)
 | .i,.i x=>some x
 | .b,.b x=>some x
 | .s,.s x=>some x
 | .l,.l x=>some x
 | .n,.n x=>some x
 | .m,.m x=>some x
 | _,_=>none
theorem qGE:∀ {k:LKd} {x:Lf} {v:TyK k},qXZ k x = some v -> x = q0u k v:=by
 intro k x v h
 cases k <;> cases x <;> simp only [qXZ,Option.some.injEq,reduceCtorEq] at h <;> subst h <;> rfl
def toL:(ks:List LKd) -> Tup ks -> List Lf
 | [],_=>[]
 | [k],v=>[q0u k v]
 | k :: k' :: ks,v=>q0u k v.1 :: toL (k' :: ks) v.2
def ofL:(ks:List LKd) -> List Lf -> Option (Tup ks)
 | [],[]=>some ()
 | [k],[x]=>qXZ k x
 | k :: k' :: ks,x :: ls=>match qXZ k x with
  | some y=>match ofL (k' :: ks) ls with
   | some ys=>some (y,ys)
   | none=>none
  | none=>none
 | _,_=>none
theorem qp6:∀ {ks:List LKd} {ls:List Lf} {v:Tup ks},ofL ks ls = some v -> ls = toL ks v
 | [],[],v,_=>rfl
 | [],_ :: _,v,h=>by simp [ofL] at h
 | [k],[],v,h=>by simp [ofL] at h
 | [k],[x],v,h=>by simp only [ofL] at h; rw [qGE h]; rfl
 | [k],_ :: _ :: _,v,h=>by simp [ofL] at h
 | k :: k' :: ks,[],v,h=>by simp [ofL] at h
 | k :: k' :: ks,x :: ls,v,h=>by
  simp only [ofL] at h
  split at h
  ·rename_i y hy
   split at h
   ·rename_i ys hys
    cases h
    rw [qGE hy,qp6 hys]; rfl
   ·cases h
  ·cases h
def aE (p:PArgs) (v:Tup (qdE p)):List AV:=(qKn p (toL (qdE p) v)).1
def aH (p:PArgs) (v:Tup (qdE p)):Heap:=(qKn p (toL (qdE p) v)).2
def aD (p:PArgs) (a:List AV) (h:Heap):Option (Tup (qdE p)):=match qVR p a h with
 | some ls=>ofL (qdE p) ls
 | none=>none
theorem qYE {p:PArgs} {a:List AV} {h:Heap} {v:Tup (qdE p)} (hh:aD p a h = some v):a = aE p v /\ h = aH p v:=by
 unfold aD at hh
 split at hh
 ·rename_i ls hm
  have h1:=qKN hm
  rw [qp6 hh] at h1
  exact ⟨congrArg Prod.fst h1,congrArg Prod.snd h1⟩
 ·cases hh
abbrev RT (rs:List PRes):Type:=qs5 (rs.map qra)
def rE:(rs:List PRes) -> RT rs -> Res × Heap
 | [],v=>nomatch v
 | [r],v=>qTB r (toL (qra r) v)
 | r :: _ :: _,.inl v=>qTB r (toL (qra r) v)
 | _ :: r' :: rs,.inr v=>rE (r' :: rs) v
def rD:(rs:List PRes) -> Res -> Heap -> Option (RT rs)
 | [],_,_=>none
 | [r],x,h=>match qXT r x h with
  | some ls=>ofL (qra r) ls
  | none=>none
 | r :: r' :: rs,x,h=>match qXT r x h with
  | some ls=>match ofL (qra r) ls with
   | some v=>some (.inl v)
   | none=>none
  | none=>match rD (r' :: rs) x h with
   | some v=>some (.inr v)
   | none=>none
theorem qWi:∀ {rs:List PRes} {x:Res} {h:Heap} {v:RT rs},rD rs x h = some v -> (x,h) = rE rs v
 | [],x,h,v,hh=>by simp [rD] at hh
 | [r],x,h,v,hh=>by
  simp only [rD] at hh
  split at hh
  ·rename_i ls hm
   rw [qGh hm,qp6 hh]; rfl
  ·cases hh
 | r :: r' :: rs,x,h,v,hh=>by
  simp only [rD] at hh
  split at hh
  ·rename_i ls hm
   split at hh
   ·rename_i w hw
    cases hh
    rw [qGh hm,qp6 hw]; rfl
   ·cases hh
  ·split at hh
   ·rename_i w hw
    cases hh
    exact (qWi hw).trans rfl
   ·cases hh
instance instTupI:∀ ks:List LKd,Inhabited (Tup ks)
 | []=>⟨()⟩
 | [.i]=>⟨0⟩ | [.b]=>⟨false⟩ | [.s]=>⟨[]⟩ | [.l]=>⟨[]⟩ | [.n]=>⟨0⟩ | [.m]=>⟨[]⟩
 | .i :: k :: ks=>⟨(0,(instTupI (k :: ks)).default)⟩
 | .b :: k :: ks=>⟨(false,(instTupI (k :: ks)).default)⟩
 | .s :: k :: ks=>⟨([],(instTupI (k :: ks)).default)⟩
 | .l :: k :: ks=>⟨([],(instTupI (k :: ks)).default)⟩
 | .n :: k :: ks=>⟨(0,(instTupI (k :: ks)).default)⟩
 | .m :: k :: ks=>⟨([],(instTupI (k :: ks)).default)⟩
def rL:(rs:List PRes) -> Option (RT rs) -> List (Bool × Res × Heap)
 | [],_=>[]
 | [r],o=>[(sm o,qTB r (toL (qra r) (@gv _ (instTupI _) o)))]
 | r :: r' :: rs,o=>(sm (pl o),qTB r (toL (qra r) (@gv _ (instTupI _) (pl o)))) :: rL (r' :: rs) (pr o)
end Go.Eng
namespace Go.Eng
def FE (p:PArgs) (rs:List PRes) (G:Tup (qdE p) -> Option (RT rs)):Ent:=fun a h=>match aD p a h with
 | some v=>rL rs (G v)
 | none=>[]
def FH (IP:Prog) (f:Nat) (p:PArgs) (rs:List PRes) (G:Tup (qdE p) -> Option (RT rs)):Prop:=∀ v y,G v = some y -> qbs IP f (aE p v) (aH p v) = some (rE rs y)
theorem qWj:∀ {rs:List PRes} {o:Option (RT rs)} {r:Res} {h:Heap},(true,r,h) ∈ rL rs o -> ∃ y,o = some y /\ rE rs y = (r,h)
 | [],o,r,h,hm=>by cases hm
 | [a],o,r,h,hm=>by
  simp only [rL,List.mem_singleton,Prod.mk.injEq] at hm
  obtain ⟨hb,hr⟩:=hm
  exact ⟨_,@qLg _ (instTupI (qra a)) o hb.symm,hr.symm⟩
 | a :: b :: rs,o,r,h,hm=>by
  simp only [rL,List.mem_cons,Prod.mk.injEq] at hm
  rcases hm with ⟨hb,hr⟩ | hm
  ·exact ⟨_,qSx (@qLg _ (instTupI (qra a)) (pl o) hb.symm),hr.symm⟩
  ·obtain ⟨y,h1,h2⟩:=qWj hm
   exact ⟨_,qSy h1,h2⟩
theorem qan {IP:Prog} {f:Nat} {p:PArgs} {rs:List PRes} {G:Tup (qdE p) -> Option (RT rs)} (hG:FH IP f p rs G):Snd IP f (FE p rs G):=by
 intro a h r h' hm
 unfold FE at hm
 split at hm
 ·rename_i v hv
  obtain ⟨y,h1,h2⟩:=qWj hm
  obtain ⟨rfl,rfl⟩:=qYE hv
  rw [hG _ _ h1,h2]
 ·cases hm
theorem qak {IP:Prog} {T:Tab} {L:qzK} {f:Nat} {F:Fun} {p:PArgs} {rs:List PRes} {G:Tup (qdE p) -> Option (RT rs)} {t:Tup (qdE p) -> DT (RT rs)} (hT:qao IP T) (hL:LOk IP L (loops F.body)) (hF:IP.fn f = some F)
  (hb:∀ v,qKa (R:=RT rs) IP (qv7 T) (qri L) f F (aE p v) (aH p v) (rD rs) = (t v).ev) (hG:∀ v,G v = (t v).ev):FH IP f p rs G:=
 fun v _ h=>qVA hT hF hL (fun _ _ _ h=>qWi h) (hb v) ((hG v).symm.trans h)
theorem qbk {IP:Prog} {f:Nat} {p:PArgs} {rs:List PRes} {s:Nat -> Tup (qdE p) -> Option (RT rs)} (h:∀ n,FH IP f p rs (s n)):FH IP f p rs (fun v=>qfI fun n=>s n v):=
 fun v y hv=>(qFF hv).elim fun n hn=>h n v y hn
def hE:(hs:List PSt) -> qs5 (hs.map qrb) -> St
 | [],v=>nomatch v
 | [r],v=>fSt r (toL (qrb r) v)
 | r :: _ :: _,.inl v=>fSt r (toL (qrb r) v)
 | _ :: r' :: rs,.inr v=>hE (r' :: rs) v
def hD:(hs:List PSt) -> St -> Option (qs5 (hs.map qrb))
 | [],_=>none
 | [r],s=>match mSt r s with
  | some ls=>ofL (qrb r) ls
  | none=>none
 | r :: r' :: rs,s=>match mSt r s with
  | some ls=>match ofL (qrb r) ls with
   | some v=>some (.inl v)
   | none=>none
  | none=>match hD (r' :: rs) s with
   | some v=>some (.inr v)
   | none=>none
theorem qKA:∀ {hs:List PSt} {s:St} {v:qs5 (hs.map qrb)},hD hs s = some v -> s = hE hs v
 | [],s,v,hh=>by simp [hD] at hh
 | [r],s,v,hh=>by
  simp only [hD] at hh
  split at hh
  ·rename_i ls hm
   rw [<- qOU hm,qp6 hh]; rfl
  ·cases hh
 | r :: r' :: rs,s,v,hh=>by
  simp only [hD] at hh
  split at hh
  ·rename_i ls hm
   split at hh
   ·rename_i w hw
    cases hh
    rw [<- qOU hm,qp6 hw]; rfl
   ·cases hh
  ·split at hh
   ·rename_i w hw
    cases hh
    exact (qKA hw).trans rfl
   ·cases hh
def exN {τ:Type} (l:List (τ -> X × St)) (j:Nat) (v:τ):X × St:=match l[j]? with
 | some g=>g v
 | none=>(.ret,⟨[],[],0,0⟩)
def exB {τ:Type} (l:List (τ -> X × St)) (j:Nat) (v:τ):Bool:=qZ8 (exN l j v).1
def qVq {τ:Type} [Inhabited τ] (o:Option (Nat × τ)) (l:List (τ -> X × St)):Nat -> Nat -> List (Bool × X × St)
 | _,0=>[]
 | j,n + 1=>((match exB l j (gv (pj j o)) with | true=>sm (pj j o) | false=>false),(exN l j (gv (pj j o))).1,(exN l j (gv (pj j o))).2) :: qVq o l (j + 1) n
theorem qDP {τ:Type} [Inhabited τ] {o:Option (Nat × τ)} {l:List (τ -> X × St)} {x:X} {s:St}:∀ {j n:Nat},(true,x,s) ∈ qVq o l j n -> ∃ k w,o = some (k,w) /\ (x,s) = exN l k w /\ qZ8 (exN l k w).1 = true
 | j,0,h=>by simp [qVq] at h
 | j,n + 1,h=>by
  simp only [qVq,List.mem_cons,Prod.mk.injEq] at h
  rcases h with ⟨hb,hx,hs⟩ | h
  ·cases hq:exB l j (gv (pj j o)) with
   | false=>rw [hq] at hb; cases hb
   | true=>
    rw [hq] at hb
    exact ⟨j,_,q0a (qLg hb.symm),by rw [hx,hs],hq⟩
  ·exact qDP h
def LE {τ:Type} [Inhabited τ] (dec:St -> Option τ) (lo:τ -> Option (Nat × τ)) (l:List (τ -> X × St)):qdA:=fun s=>match dec s with
 | some v=>qVq (lo v) l 0 l.length
 | none=>[]
def cvX {τ:Type} (l:List (τ -> X × St)) (v:τ):DT (Rd τ) -> DT (Rx τ)
 | .no=>.no
 | .at (.next w)=>.at (.next w)
 | .at (.done j)=>.at (.out (exN l j v).1 (exN l j v).2)
 | .br b x y=>.br b (cvX l v x) (cvX l v y)
theorem qDI {τ:Type} {l:List (τ -> X × St)} {v:τ}:∀ {t:DT (Rd τ)},cvX l v t = cvD (fun j=>exN l j v) t
 | .no=>rfl
 | .at (.next w)=>rfl
 | .at (.done j)=>rfl
 | .br b x y=>by simp only [cvX,cvD,qDI (t:=x),qDI (t:=y)]
theorem qaF {IP:Prog} {T:Tab} {L:qzK} {keep:List Nat} {c:ICode} {hs:List PSt} (I:Inhabited (qs5 (hs.map qrb))) {ex:List (qs5 (hs.map qrb) -> X × St)} {st:qs5 (hs.map qrb) -> DT (Rd (qs5 (hs.map qrb)))} {lo:qs5 (hs.map qrb) -> Option (Nat × qs5 (hs.map qrb))} (hT:qao IP T) (hL:LOk IP L (loops c))
  (hlo:∀ v,lo v = qaw (fun v=>(st v).ev) v) (hn:∀ v,norm (hk keep) (hE hs v) = some (hE hs v))
  (hst:∀ v,qgJ IP (qv7 T) (qri L) c (hE hs v) (qR1 keep (hD hs)) = (cvX ex v (st v)).ev):Told IP keep c (LE (hD hs) lo ex):=by
 have key:∀ v j w,lo v = some (j,w) -> qZ8 (exN ex j w).1 = true -> qit IP keep c (hE hs v) = some (exN ex j w):=by
  intro v j w h ho
  rw [hlo] at h
  have h2:∀ v,qgJ IP (qv7 T) (qri L) c (hE hs v) (qR1 keep (hD hs)) = cv (fun j=>exN ex j v) ((st v).ev):=fun v=>(hst v).trans (by rw [qDI,qDH])
  replace h:=qeq.1 h
  obtain ⟨n,h⟩:=h
  induction n generalizing v with
  | zero=>simp [qg0] at h
  | succ n ih=>
   simp only [qg0] at h
   split at h
   ·rename_i v' hs'
    have hx:=h2 v
    rw [hs'] at hx
    obtain ⟨x,s',h3,h4⟩:=qbY (fun R=>qqQ hT) (qrj hL) hx
    cases x with
    | normal=>
     simp only [qR1] at h4
     split at h4
     ·rename_i s1 hs1
      split at h4
      ·rename_i v2 hv2
       cases h4
       have:=qKA hv2
       subst this
       exact qy3 (hn v) h3 (qp0 (by rw [hs1,hn v']) (ih v' h))
      ·cases h4
     ·cases h4
    | _=>
     simp only [qR1] at h4
     split at h4 <;> cases h4
   ·rename_i j' hs'
    cases h
    have hx:=h2 w
    rw [hs'] at hx
    obtain ⟨x,s',h3,h4⟩:=qbY (fun R=>qqQ hT) (qrj hL) hx
    cases x with
    | normal=>
     simp only [qR1] at h4
     split at h4
     ·split at h4 <;> cases h4
     ·cases h4
    | _=>
     simp only [qR1] at h4
     split at h4
     ·rename_i x2 s2 ho
      simp only [Option.some.injEq,Rx.out.injEq] at h4
      obtain ⟨h5,h6⟩:=h4
      exact qy3 (hn w) h3 (by simp only [ho,h5,h6])
     ·cases h4
   ·cases h
 refine ⟨fun s x s' hm=>?_,fun s hne=>?_⟩
 ·unfold LE at hm
  split at hm
  ·rename_i v hv
   obtain ⟨k,w,h1,h2,h3⟩:=qDP hm
   rw [qKA hv,key v k w h1 h3,<- h2]
  ·cases hm
 ·unfold LE at hne
  split at hne
  ·rename_i v hv
   rw [qKA hv]; exact hn v
  ·exact absurd rfl hne
end Go.Eng
namespace Go.Eng
section
variable {T:TypeId -> List Sh}
theorem qmZ {d:Nat} {k:IntKind} {x:AV} (h:Fit maxLen T d (.int k) x):∃ n,x = .int k n /\ (Lit.int k n).wf = true:=by
 cases d with
 | zero=>exact h.elim
 | succ d=>exact h
theorem qET {d:Nat} {x:AV} (h:Fit maxLen T d .str x):∃ s,x = .str s /\ s.length <= big:=by
 cases d with
 | zero=>exact h.elim
 | succ d=>obtain ⟨n,h,hl⟩:=h; exact ⟨n,h,Nat.le_trans hl (by decide)⟩
theorem qw5 {α τ:Type} {f:τ -> α} {p:τ -> Prop}:∀ {l:List α},(∀ e ∈ l,∃ x,e = f x /\ p x) -> ∃ m:List τ,l = m.map f /\ ∀ x ∈ m,p x
 | [],_=>⟨[],rfl,by simp⟩
 | e :: l,h=>by
  obtain ⟨x,rfl,hx⟩:=h e (by simp)
  obtain ⟨m,rfl,hm⟩:=qw5 (l:=l) fun e he=>h e (by simp [he])
  refine ⟨x :: m,rfl,fun y hy=>?_⟩
  rcases List.mem_cons.1 hy with rfl | hy
  ·exact hx
  ·exact hm y hy
theorem qKt {d sz:Nat} {t:TypeId} {x:AV} {τ:Type} {av:τ -> AV} {p:τ -> Prop} (h:Fit maxLen T d (.slice sz true t) x)
  (he:∀ d xs,qhU (Fit maxLen T d) (T t) xs -> ∃ y:τ,.agg xs = av y /\ p y):∃ l:List τ,x = .view sz (l.map av) /\ l.length <= big /\ ∀ y ∈ l,p y:=by
 cases d with
 | zero=>exact h.elim
 | succ d=>
  obtain ⟨es,rfl,hl,hx⟩:=h
  obtain ⟨m,rfl,hm⟩:=qw5 (f:=av) (p:=p) (l:=es) fun e hx'=>by
   obtain ⟨xs,rfl,hf⟩:=hx e hx'
   exact he d xs hf
  exact ⟨m,rfl,Nat.le_trans (by simpa using hl) (by decide),hm⟩
end
end Go.Eng

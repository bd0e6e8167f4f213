/- A machine of plain values, and that what it says holds of the program. -/
import Derived.Calls
import Derived.Laws.AppendOwn
import Derived.Laws.Entries
import Derived.Laws.Slices
import Derived.Laws.Strings
import Derived.Laws.StructEq
import Derived.Laws.MakeOwn
set_option linter.all false
namespace Go
abbrev jA0:=@List.length_cons
abbrev jA1:=@Bool.and_eq_true
abbrev jA2:=@List.length_append
abbrev jA3:=@Option.map_eq_some_iff
abbrev jA4:=@List.length_nil
abbrev jA5:=@List.length_map
abbrev jA6:=@decide_eq_true_eq
abbrev jA7:=@Option.some.injEq
abbrev jA8:=@decide_eq_true
abbrev jA9:=@cond_false
abbrev jAa:=@cond_true
abbrev jAb:=@List.all_eq_true
abbrev jAc:=@List.mem_cons
abbrev jAd:=@Prod.mk.injEq
abbrev jAe:=@decide_eq_false
abbrev jAf:=@List.append_assoc
abbrev jAg:=@List.getElem?_eq_some_iff
abbrev jAh:=@List.getElem?_eq_getElem
abbrev jAi:=@List.getElem_mem
abbrev jAj:=@Nat.le_refl
abbrev jAk:=@List.cons_append
abbrev jAl:=@List.mem_of_getElem?
abbrev jAm:=@if_neg
abbrev jAn:=@Bool.false_eq_true
abbrev jAo:=@List.mem_append
abbrev jAp:=@List.not_mem_nil
abbrev jAq:=@Array.getD_eq_getD_getElem?
abbrev jAr:=@if_pos
abbrev jAs:=@List.map_cons
abbrev jAt:=@List.mem_singleton
abbrev jAu:=@List.getElem?_append_left
abbrev jAv:=@Bool.or_eq_true
abbrev jAw:=@List.all_cons
abbrev jAx:=@List.nil_append
abbrev jAy:=@List.length_eq_zero_iff
abbrev jAz:=@Nat.le_trans
abbrev jB0:=@List.length_drop
abbrev jB1:=@List.getElem?_append_right
abbrev jB2:=@if_true
abbrev jB3:=@List.tail_cons
abbrev jB4:=@List.mem_of_find?_eq_some
abbrev jB5:=@Int.toNat_natCast
abbrev jB6:=@Bool.or_eq_false_iff
abbrev jB7:=@beq_iff_eq
abbrev jB8:=@List.contains_iff_mem
abbrev jB9:=@Bool.not_eq_true'
abbrev jBa:=@Nat.zero_le
abbrev jBb:=@List.take_of_length_le
abbrev jBc:=@Nat.mul_le_mul_right
abbrev jBd:=@of_decide_eq_true
abbrev jBe:=@Nat.add_mul
abbrev jBf:=@Array.getElem?_eq_some_iff
abbrev jBg:=@if_false
abbrev jBh:=@Option.map_some
abbrev jBi:=@List.pairwise_cons
abbrev jBj:=@beq_eq_false_iff_ne
abbrev jBk:=@List.takeWhile_cons
abbrev jBl:=@decide_eq_false_iff_not
abbrev jBm:=@Bool.true_and
abbrev jBn:=@List.mem_of_mem_drop
abbrev jBo:=@List.mem_append_left
abbrev jBp:=@or_false
abbrev jBq:=@List.mem_range
abbrev jBr:=@List.map_congr_left
abbrev jBs:=@List.getElem?_drop
abbrev jBt:=@Bool.and_true
abbrev jBu:=@List.mem_flatMap
abbrev jBv:=@eq_comm
abbrev jBw:=@List.size_toArray
abbrev jBx:=@Sum.elim_inr
abbrev jBy:=@Sum.elim_inl
abbrev jBz:=@Nat.lt_of_lt_of_le
abbrev jC0:=@List.drop_length
abbrev jC1:=@List.mem_of_mem_take
abbrev jC2:=@Option.some.inj
abbrev jC3:=@List.foldl_cons
abbrev jC4:=@List.find?_some
abbrev jC5:=@List.cons.injEq
abbrev jC6:=@List.append_nil
abbrev jC7:=@Bool.eq_iff_iff
abbrev jC8:=@List.getElem_cons_drop
abbrev jC9:=@Option.getD_some
abbrev jCa:=@List.suffix_refl
abbrev jCb:=@Nat.lt_or_ge
abbrev jCc:=@List.take_append_drop
abbrev jCd:=@List.mem_map
abbrev jCe:=@List.map_nil
abbrev jCf:=@List.getElem?_take
abbrev jCg:=@Option.isNone_iff_eq_none
abbrev jCh:=@Option.isSome_iff_exists
abbrev jCi:=@List.map_append
abbrev jCj:=@List.eq_of_mem_replicate
abbrev jCk:=@List.all_append
abbrev jCl:=@Nat.zero_add
abbrev jCm:=@List.find?_eq_getElem?_findIdx
abbrev jCn:=@Nat.add_assoc
abbrev jCo:=@List.take_succ_cons
abbrev jCp:=@List.length_pos_iff
abbrev jCq:=@Nat.le_max_right
abbrev jCr:=@List.suffix_cons
end Go
namespace Go.Eng
inductive NKd where
 |nil|any|non
deriving DecidableEq
structure NilS where
 sz:Nat
 kd:NKd
deriving DecidableEq
instance (n:Nat):OfNat NilS n:=⟨⟨n,.nil⟩⟩
inductive FnId where
 |func (n:Nat)
 |meth (s:String)
deriving DecidableEq
inductive AV where
 |int (k:IntKind) (n:Int)
 |bool (b:Bool)
 |str (s:List UInt8)
 |nilp|nilm|nilf|nili
 |nils (q:NilS)
 |agg (cs:List AV)
 |tup (vs:List AV)
 |view (sz:Nat) (es:List AV)
 |ptr (cs:List AV)
 |own (id off:Nat) (len:Option Nat)
 |ref (id idx off:Nat)
 |mref (id:Nat)
 |fn (f:FnId) (cap:List AV)
 |iface (t:Nat) (v:AV)
 |junk
inductive Opd where
 |t (n:Nat)
 |c (v:AV)
 |f (n:Nat)
inductive EK where
 |i|b|s
deriving DecidableEq
inductive NK where
 |s|m|f|p|i
inductive LK where
 |s|l|m
abbrev Key:=Bool×List EK
inductive CS where
 |int (k:IntKind)
 |bool
 |str
 |slice (sz:Nat)
 |ptr (n:Nat)
inductive IOp where
 |mov (x:Opd)
 |pick (c a b:Opd)
 |alloc (z:AV)
 |box (sz:Nat) (x:Opd)
 |build (z:List AV) (ps:List (Nat×Nat×Opd))
 |bslice (sz:Nat) (z:AV) (n:Nat) (ps:List (Nat×Opd))
 |load (agg:Bool) (n:Nat) (ks:List CS) (x:Opd)
 |store (n:Nat) (x v:Opd)
 |nilck (x:Opd)
 |bin (op:BinOp) (x y:Opd)
 |eqs (ks:Key) (neg:Bool) (x y:Opd)
 |eqn (k:NK) (neg:Bool) (x y:Opd)
 |un (op:UnOp) (x:Opd)
 |conv (k:IntKind) (x:Opd)
 |convs (x:Opd)
 |mki (t:Nat) (x:Opd)
 |mkf (f:Nat) (cap:List Opd)
 |mkb (s:String) (x:Opd)
 |nilm (s:String) (tbl:List (Nat×Nat)) (x:Opd)
 |mkm
 |mks (sz bytes:Nat) (z:AV) (len cap:Opd)
 |slc (sz:Nat) (x:Opd) (lo hi:Option Opd)
 |slcs (x:Opd) (lo hi:Option Opd)
 |slc3 (x lo hi mx:Opd)
 |faddr (off:Nat) (x:Opd)
 |fld (agg:Bool) (off n:Nat) (x:Opd)
 |iaddr (sz:Nat) (ks:List CS) (x i:Opd)
 |aaddr (n sz:Nat) (x i:Opd)
 |idxs (x i:Opd)
 |idxa (agg:Bool) (n sz:Nat) (x i:Opd)
 |look (ks:Key) (z:AV) (ok:Bool) (m k:Opd)
 |mupd (ks:Key) (m k v:Opd)
 |mdel (ks:Key) (m k:Opd)
 |tass (t:Nat) (z:AV) (ok:Bool) (x:Opd)
 |ext (x:Opd) (i:Nat)
 |len (k:LK) (x:Opd)
 |app (sz bytes:Nat) (s x:Opd)
 |clr (sz:Nat) (z:AV) (x:Opd)
 |mx (xs:List Opd)
 |mn (xs:List Opd)
 |call (f:Nat) (args:List Opd)
 |callv (fv:Opd) (args:List Opd)
 |invk (tbl:List (Nat×Nat)) (x:Opd) (args:List Opd)
 |pan (x:Opd)
structure IOper where
 dst:Option Nat
 op:IOp
 guard:Option (Nat×Bool)
inductive ICode where
 |skip
 |region (ops:List IOper) (drawn:Option (List (List Nat)))
 |seq (a b:ICode)
 |cond (c:Opd) (a b:ICode)
 |block (id:Nat) (c:ICode)
 |loop (keep:List Nat) (c:ICode)
 |exit (id:Nat)
 |ret
inductive Blk where
 |box (cs:List AV) (fz:Bool)
 |arr (sz:Nat) (es:List AV) (fz:Bool)
 |mp (kvs:List (AV×AV))
abbrev Heap:=List (Nat×Blk)
def qak:Heap->Nat->Option Blk
 | [],_=>none
 |(j,b)::h,i=>if i=j then some b else qak h i
def qHI:Heap->Nat->Heap
 | [],_=>[]
 |(j,b)::h,i=>if i=j then qHI h i else(j,b)::qHI h i
def qi3(h:Heap)(i:Nat)(b:Blk):Heap:=(i,b)::qHI h i
abbrev Env:=List (Nat×AV)
def qbV:Env->Nat->AV
 | [],_=>.junk
 |(j,v)::e,i=>if i=j then v else qbV e i
structure St where
 tm:Env
 hp:Heap
 nx:Nat
 k:Nat
inductive Res where
 |ret (v:AV)
 |pan (v:AV)
inductive X where
 |normal
 |exit (id:Nat)
 |ret
 |pan (v:AV)
abbrev qa2:=Nat->List AV->Heap->Option (Res×Heap)
abbrev qgp:=List Nat->ICode->St->Option (X×St)
def qmq(num off:Nat):Option Nat->Nat
 |some n=>n
 |none=>match off with
  |0=>num
  |off+1=>num-(off+1)
def qA0(es:List AV):Nat->List AV
 |0=>es
 |n+1=>es.drop (n+1)
def qCG(es:List AV)(off:Nat):Option Nat->List AV
 |some n=>(qA0 es off).take n
 |none=>qA0 es off
def qai:AV->List AV
 | .agg cs=>cs
 |v=>[v]
def idsA:AV->List Nat
 | .own id _ _=>[id]
 | .ref id _ _=>[id]
 | .mref id=>[id]
 | .agg cs=>idsL cs
 | .tup vs=>idsL vs
 | .fn _ cap=>idsL cap
 | .iface _ v=>idsA v
 |_=>[]
where idsL:List AV->List Nat
 | []=>[]
 |v::vs=>idsA v++idsL vs
def qNT:Blk->List Nat
 | .box cs _=>idsA.idsL cs
 | .arr _ _ _=>[]
 | .mp _=>[]
def shows:AV->Bool
 | .view _ _=>true
 | .ptr _=>true
 | .agg cs=>showsL cs
 | .tup vs=>showsL vs
 | .fn _ cap=>showsL cap
 | .iface _ v=>shows v
 | .junk=>true
 |_=>false
where showsL:List AV->Bool
 | []=>false
 |v::vs=>shows v||showsL vs
def qbn:AV->Bool
 | .agg _=>false
 | .tup _=>false
 | .junk=>false
 |_=>true
def qaW:List AV->Bool
 | []=>true
 |v::vs=>qbn v&&qaW vs
def qb8:Nat->Heap->List Nat->List Nat->Option (List Nat)
 |_,_,[],seen=>some seen
 |0,_,_::_,_=>none
 |n+1,h,i::todo,seen=>
  if seen.contains i then qb8 n h todo seen
  else match qak h i with
   |some b=>qb8 n h (todo++qNT b) (seen++[i])
   |none=>qb8 n h todo seen
def qg9:Nat:=200
def sub(h:Heap):List Nat->Heap
 | []=>[]
 |i::is=>match qak h i with
  |some b=>(i,b)::sub h is
  |none=>sub h is
def qa9(h:Heap):List Nat->Heap
 | []=>h
 |i::is=>qHI (qa9 h is) i
def qiX(f:AV->Option AV):List AV->Option (List AV)
 | []=>some []
 |v::vs=>match f v,qiX f vs with
  |some v,some vs=>some (v::vs)
  |_,_=>none
def snap(h:Heap):Nat->AV->Option AV
 |0,_=>none
 |n+1,v=>
  match v with
  | .nils q=>some (.view q.sz [])
  | .own id off lo=>match qak h id with
   |some (.arr sz es _)=>match lo with
    |some len=>if off+len<=es.length then some (.view sz (qCG es off (some len)))else none
    |none=>some (.view sz (qA0 es off))
   |_=>none
  | .ref id idx off=>match qak h id with
   |some (.box cs _)=>if idx=0/\off<=cs.length/\qaW cs=true then(qiX (snap h n) cs).map fun cs=>.ptr (cs.drop off)else none
   |some (.arr _ es _)=>match es[idx]? with
    |some e=>if off<=(qai e).length then some (.ptr ((qai e).drop off))else none
    |none=>none
   |_=>none
  | .mref _=>none
  | .agg cs=>(qiX (snap h n) cs).map .agg
  | .tup vs=>(qiX (snap h n) vs).map .tup
  | .fn f cap=>(qiX (snap h n) cap).map (.fn f)
  | .iface t v=>(snap h n v).map (.iface t)
  |v=>some v
def nz:AV->AV
 | .nils q=>.view q.sz []
 | .agg cs=>.agg (nzL cs)
 | .tup cs=>.tup (nzL cs)
 | .fn f cs=>.fn f (nzL cs)
 | .iface t v=>.iface t (nz v)
 |v=>v
where nzL:List AV->List AV
 | []=>[]
 |v::vs=>nz v::nzL vs
abbrev snap.snapL(h:Heap)(n:Nat):List AV->Option (List AV):=qiX (snap h n)
def qlL:Blk->Blk
 | .box cs _=>.box cs true
 | .arr sz es _=>.arr sz es true
 |b=>b
def freeze(h:Heap):List Nat->Heap
 | []=>h
 |i::is=>match qak h i with
  |some b=>qi3 (freeze h is) i (qlL b)
  |none=>freeze h is
def still(h:Heap)(v:AV):Option (AV×Heap):=
 match idsA v with
 | []=>some (nz v,h)
 |ids=>match snap h qg9 v,qb8 qg9 h ids []with
  |some v,some r=>some (v,freeze h r)
  |_,_=>none
def splice(cs:List AV)(off:Nat)(vs:List AV):List AV:=cs.take off++vs++cs.drop (off+vs.length)
def elemOf(like:AV)(cs:List AV):AV:=
 match like,cs with
 | .agg _,cs=>.agg cs
 |_,[v]=>v
 |_,_=>.junk
def eqK:EK->AV->AV->Option Bool
 | .i,.int k a,.int k' b=>if k=k' then some (a==b)else none
 | .b,.bool a,.bool b=>some (a==b)
 | .s,.str a,.str b=>some (a==b)
 |_,_,_=>none
def qeh:List EK->List AV->List AV->Option Bool
 | [],[],[]=>some true
 |k::ks,x::xs,y::ys=>match eqK k x y,qeh ks xs ys with
  |some b,some bs=>some (b&&bs)
  |_,_=>none
 |_,_,_=>none
def qc5:Key->AV->AV->Option Bool
 |(true,ks),.agg xs,.agg ys=>qeh ks xs ys
 |(false,[k]),x,y=>eqK k x y
 |_,_,_=>none
def isNil:AV->Option Bool
 | .ptr _=>some false
 | .ref _ _ _=>some false
 | .fn (.func _) _=>some false
 | .iface _ _=>some false
 |_=>none
def qeC:NK->AV->Option Bool
 | .s,.nils q=>match q.kd with
  | .nil=>some true
  | .any=>none
  | .non=>some false
 | .s,.view _ es=>if es.length=0 then none else some false
 | .s,.own _ _ _=>some false
 | .m,.nilm=>some true
 | .m,.mref _=>some false
 | .f,.nilf=>some true
 | .f,.fn _ _=>some false
 | .p,.nilp=>some true
 | .p,.ptr _=>some false
 | .p,.ref _ _ _=>some false
 | .i,.nili=>some true
 | .i,.iface _ _=>some false
 |_,_=>none
def bits(op:BinOp)(k:IntKind)(x y:Int):Option Int:=
 let a:=BitVec.ofInt k.bits x
 let b:=BitVec.ofInt k.bits y
 match op with
 | .and=>some (k.wrap (a &&& b).toNat)
 | .or=>some (k.wrap (a ||| b).toNat)
 | .xor=>some (k.wrap (a ^^^ b).toNat)
 | .andNot=>some (k.wrap (a &&& ~~~b).toNat)
 |_=>none
def znI(op:BinOp)(k:IntKind)(a b:Int):Option AV:=
 match op with
 | .add=>some (.int k (k.wrap (a+b)))
 | .sub=>some (.int k (k.wrap (a-b)))
 | .mul=>some (.int k (k.wrap (a*b)))
 | .quo=>if b=0 then none else some (.int k (k.wrap (a.tdiv b)))
 | .rem=>if b=0 then none else some (.int k (a.tmod b))
 | .eql=>some (.bool (a==b))
 | .neq=>some (.bool (a != b))
 | .lss=>some (.bool (decide (a<b)))
 | .leq=>some (.bool (decide (a<=b)))
 | .gtr=>some (.bool (decide (a>b)))
 | .geq=>some (.bool (decide (a>=b)))
 | .shl=>none
 | .shr=>none
 |op=>(bits op k a b).map (.int k)
def qbi:List UInt8->List UInt8->Bool:=Op.bytesLess
def znJ(op:BinOp)(a b:List UInt8):Option AV:=
 match op with
 | .add=>if a.length+b.length<=4611686018427387904 then some (.str (a++b))else none
 | .eql=>some (.bool (a==b))
 | .neq=>some (.bool (!(a==b)))
 | .lss=>some (.bool (qbi a b))
 | .leq=>some (.bool (qbi a b||a==b))
 | .gtr=>some (.bool (!(qbi a b||a==b)))
 | .geq=>some (.bool (!qbi a b))
 |_=>none
def zmT(op:BinOp):AV->AV->Option AV
 | .int k a,.int k' b=>
  match op with
  | .shl=>if 0<=b then some (.int k (k.wrap (a*2^(min b.toNat k.bits))))else none
  | .shr=>if 0<=b then some (.int k (a.fdiv (2^(min b.toNat k.bits))))else none
  |op=>if k=k' then znI op k a b else none
 | .str a,.str b=>znJ op a b
 |_,_=>none
def unA(op:UnOp):AV->Option AV
 | .int k n=>match op with
  | .neg=>some (.int k (k.wrap (0-n)))
  | .xor=>some (.int k (k.wrap (-1-n)))
  |_=>none
 | .bool b=>match op with
  | .not=>some (.bool (!b))
  |_=>none
 |_=>none
def zos:AV->AV->Option AV
 | .int k x,.int k' y=>if k=k' then some (.int k (if y>x then y else x))else none
 |_,_=>none
def zou:AV->AV->Option AV
 | .int k x,.int k' y=>if k=k' then some (.int k (if y<x then y else x))else none
 |_,_=>none
def qBk(g:AV->AV->Option AV):AV->List AV->Option AV
 |x,[]=>some x
 |x,y::ys=>match g x y with
  |some z=>qBk g z ys
  |none=>none
def qrx(h:Heap):AV->Option (List AV)
 | .ptr cs=>some cs
 | .ref id idx off=>match qak h id with
  |some (.box cs _)=>if idx=0/\off<=cs.length then some (cs.drop off)else none
  |some (.arr _ es _)=>match es[idx]? with
   |some e=>if off<=(qai e).length then some ((qai e).drop off)else none
   |none=>none
  |_=>none
 |_=>none
def part(agg:Bool)(n:Nat)(cs:List AV):Option AV:=
 if agg then if n<=cs.length then some (.agg (cs.take n))else none
 else cs.head?
def qZ6(h:Heap)(n:Nat)(x v:AV):Option Heap:=
 match x with
 | .ref id idx off=>match qak h id with
  |some (.box cs false)=>
   if idx=0/\(qai v).length=n/\off+n<=cs.length/\qaW (qai v)=true then some (qi3 h id (.box (splice cs off (qai v)) false))else none
  |some (.arr sz es false)=>
   match still h v with
   |some (v,h)=>
    match qak h id,es[idx]? with
    |some (.arr _ _ false),some e=>
     if (qai v).length=n/\off+n<=(qai e).length/\qaW (qai v)=true then
      some (qi3 h id (.arr sz (es.set idx (elemOf e (splice (qai e) off (qai v)))) false))else none
    |_,_=>none
   |none=>none
  |_=>none
 |_=>none
def qgU{α:Type}(l:List α)(i:Int):Option α:=if 0<=i then l[i.toNat]? else none
def lim:Nat:=17592186044416
def qy2(h:Heap)(sz:Nat):AV->Option (List AV)
 | .nils _=>some []
 | .view sz' es=>if sz'=sz then some es else none
 | .own id off lo=>match qak h id with
  |some (.arr sz' es _)=>match lo with
   |some len=>if sz'=sz/\off+len<=es.length then some (qCG es off (some len))else none
   |none=>if sz'=sz then some (qA0 es off)else none
  |_=>none
 |_=>none
def qKO(h:Heap)(nx sz bytes:Nat)(s:AV)(src:List AV):Option (AV×Heap):=
 match s with
 | .nils q=>if src.length=0 then some (s,h)else match q.kd with
  | .non=>none
  |_=>if src.length*bytes<=lim then some (.own nx 0 none,qi3 h nx (.arr sz src false))else none
 | .own id off lo=>match qak h id with
  |some (.arr sz' es false)=>
   if sz'=sz then
    if src.length=0 then some (s,h)
    else match lo with
     |none=>if off<=es.length/\(qmq es.length off none+src.length)*bytes<=lim then
       some (.own nx 0 none,qi3 (qHI h id) nx (.arr sz (qA0 es off++src) false))else none
     |some len=>
      if off+len<=es.length then
       if off+len+src.length<=es.length then
        some (.own id off (some (len+src.length)),qi3 h id (.arr sz (es.take (off+len)++src++es.drop (off+len+src.length)) false))
       else if (len+src.length)*bytes<=lim then
        some (.own nx 0 none,qi3 (qHI h id) nx (.arr sz (qCG es off (some len)++src) false))
       else none
      else none
   else none
  |_=>none
 | .view _ _=>if src.length=0 then some (s,h)else none
 |_=>none
def qNb(ks:Key):List (AV×AV)->AV->Option (Option AV)
 | [],_=>some none
 |(k,v)::m,x=>match qc5 ks x k with
  |some true=>some (some v)
  |some false=>qNb ks m x
  |none=>none
def qUN(ks:Key):List (AV×AV)->AV->AV->Option (List (AV×AV))
 | [],x,y=>some [(x,y)]
 |(k,v)::m,x,y=>match qc5 ks x k with
  |some true=>some ((k,y)::m)
  |some false=>(qUN ks m x y).map ((k,v):: ·)
  |none=>none
def ltL:List AV->List AV->Bool
 | .int _ a::xs,.int _ b::ys=>decide (a<b)||(decide (a=b)&&ltL xs ys)
 |_,_=>false
def ltK:AV->AV->Bool
 | .agg xs,.agg ys=>ltL xs ys
 |_,_=>false
def isI:EK->Bool
 | .i=>true
 |_=>false
def qBm(ks:Key):Bool:=ks.1&&ks.2.all isI
def qNc(ks:Key):List (AV×AV)->AV->AV->Option (List (AV×AV))
 | [],x,y=>some [(x,y)]
 |(k,v)::m,x,y=>match qc5 ks x k with
  |some true=>some ((k,y)::m)
  |some false=>if ltK x k then some ((x,y)::(k,v)::m)else(qNc ks m x y).map ((k,v):: ·)
  |none=>none
def zsO(ks:Key)(m:List (AV×AV))(x y:AV):Option (List (AV×AV)):=if qBm ks then qNc ks m x y else qUN ks m x y
def isKey:Key->AV->Bool
 |ks,x=>(qc5 ks x x).isSome
def qFi:List AV->List (Nat×Nat×AV)->Option (List AV)
 |cs,[]=>some cs
 |cs,(off,n,v)::ps=>
  if (qai v).length=n/\off+n<=cs.length/\qaW (qai v)=true then qFi (splice cs off (qai v)) ps else none
def qMF(sz:Nat):List AV->List (Nat×AV)->Option (List AV)
 |es,[]=>some es
 |es,(i,v)::ps=>if (qai v).length=sz/\i<es.length/\qaW (qai v)=true then qMF sz (es.set i v) ps else none
def qwW(h:Heap):List AV->Option (List AV×Heap)
 | []=>some ([],h)
 |v::vs=>match still h v with
  |some (v,h)=>match qwW h vs with
   |some (vs,h)=>some (v::vs,h)
   |none=>none
  |none=>none
def zdP(h:Nat):Option AV->Option (Nat×Nat)
 |none=>some (0,h)
 |some (.int _ n)=>if 0<=n/\n<=h then some (n.toNat,h)else none
 |some _=>none
def qMJ(len cap:Nat):Option AV->Option Nat
 |none=>some len
 |some (.int _ n)=>if 0<=n/\n<=cap then some n.toNat else none
 |some _=>none
def qgA(len cap:Nat)(lo hi:Option AV):Option (Nat×Nat):=
 match qMJ len cap hi with
 |none=>none
 |some h=>zdP h lo
def ren(r:Nat->Option Nat):AV->AV
 | .own id off len=>match r id with
  |some j=>.own j off len
  |none=>.junk
 | .ref id idx off=>match r id with
  |some j=>.ref j idx off
  |none=>.junk
 | .mref id=>match r id with
  |some j=>.mref j
  |none=>.junk
 | .agg cs=>.agg (renL r cs)
 | .tup vs=>.tup (renL r vs)
 | .fn f cap=>.fn f (renL r cap)
 | .iface t v=>.iface t (ren r v)
 |v=>v
where renL (r:Nat->Option Nat):List AV->List AV
 | []=>[]
 |v::vs=>ren r v::renL r vs
def zni(r:Nat->Option Nat):Blk->Blk
 | .box cs fz=>.box (ren.renL r cs) fz
 |b=>b
def place:List Nat->Nat->Option Nat
 | [],_=>none
 |j::l,i=>if i=j then some 0 else(place l i).map (· + 1)
def qjK(r:Nat->Option Nat):Heap->Heap
 | []=>[]
 |(i,b)::h=>match r i with
  |some j=>(j,zni r b)::qjK r h
  |none=>qjK r h
structure Fun where
 nparams:Nat
 ntmps:Nat
 results:List (Nat×Option (Bool×Nat))
 body:ICode
structure Seen where
 g:qa2->List AV->Heap->Option (Res×Heap)
 mono:∀c c':qa2,(∀f a h r,c f a h=some r->c' f a h=some r)-> ∀a h r,g c a h=some r->g c' a h=some r
structure Prog where
 fn:Nat->Option Fun
 mv:Nat->Bool
 fresh:Nat->Bool
 spec:Nat->Option (List AV->Heap->Option (Res×Heap)):=fun _=>none
 seen:Nat->Option Seen:=fun _=>none
 imp:Nat->Bool:=fun _=>false
 wid:Nat->Bool:=fun _=>false
def q7P:AV->Bool
 | .ref _ _ _=>true
 | .mref _=>true
 |_=>false
def zg1(h:Heap)(all:Bool)(v:AV):Option (AV×List Nat):=
 if q7P v||all then some (v,[])else match idsA v with
  | []=>some (nz v,[])
  |ids=>match snap h qg9 v with
   |some v=>some (v,ids)
   |none=>none
def qyQ(h:Heap)(all:Bool):List AV->Option (List AV×List Nat)
 | []=>some ([],[])
 |v::vs=>match zg1 h all v,qyQ h all vs with
  |some (v,a),some (vs,b)=>some (v::vs,a++b)
  |_,_=>none
def q7p(a b:List Nat):Bool:=a.all fun i=>!b.contains i
def q34:Res->AV
 | .ret v=>v
 | .pan v=>v
def q7Y(g:AV->AV):Res->Res
 | .ret v=>.ret (g v)
 | .pan v=>.pan (g v)
def back(moved:List Nat)(nx:Nat)(j:Nat):Option Nat:=
 match moved[j]? with
 |some i=>some i
 |none=>if j<moved.length+16 then some (nx+(j-moved.length))else none
def qkP(P:Prog)(call:qa2)(h:Heap)(nx f:Nat)(args:List AV):Option (Res×Heap×Bool):=
 match qyQ h (P.mv f) args with
 |none=>none
 |some (args',roots)=>
  match qb8 qg9 h (idsA.idsL args') [],qb8 qg9 h roots []with
  |some moved,some shown=>
   if q7p moved shown then
    match call f (ren.renL (place moved) args') (qjK (place moved) (sub h moved))with
    |none=>none
    |some (r,h')=>
     if h'.all (fun p=>decide (p.1<moved.length+16))then
      let touched:=!shown.isEmpty&&(shows (q34 r) || !h'.isEmpty)
      let old:=qa9 h moved
      some (q7Y (ren (back moved nx)) r,qjK (back moved nx) h'++(if touched then freeze old shown else old),!moved.isEmpty||touched)
     else none
   else none
  |_,_=>none
def qbR(ev:Opd->AV):Option Opd->Option AV
 |none=>none
 |some x=>some (ev x)
def val(v:AV)(h:Heap):Option (Res×Heap×Bool):=some (.ret v,h,false)
def qGV(v:Option AV)(h:Heap):Option (Res×Heap×Bool):=match v with
 |some v=>some (.ret v,h,false)
 |none=>none
def q0s:AV:=.tup []
def zm5(off:Nat)(i:Int):Nat:=match off with
 |0=>i.toNat
 |n+1=>n+1+i.toNat
theorem zdA(off:Nat)(i:Int):zm5 off i=off+i.toNat:=by cases off<;>simp[zm5]
def q4b:Opd->Opd->Bool
 | .t i,.t j=>i==j
 |_,_=>false
def zmY:Option Nat->Option Opd->Nat->Option Nat
 |none,none,_=>none
 |_,_,n=>some n
def opS(P:Prog)(call:qa2)(nx:Nat)(ev:Opd->AV)(h:Heap):IOp->Option (Res×Heap×Bool)
 | .mov x=>val (ev x) h
 | .pick c a b=>match ev c with
  | .bool t=>val (if t then ev a else ev b) h
  |_=>none
 | .alloc z=>some (.ret (.ref nx 0 0),qi3 h nx (.box (qai z) false),false)
 | .box sz x=>if (qai (ev x)).length=sz/\qaW (qai (ev x))=true then some (.ret (.ref nx 0 0),qi3 h nx (.box (qai (ev x)) false),false)else none
 | .build z ps=>match qFi z (ps.map fun p=>(p.1,p.2.1,ev p.2.2))with
  |some cs=>val (.agg cs) h
  |none=>none
 | .bslice sz z n ps=>if n=0/\ps.length=0 then some (.ret (.nils ⟨sz,.any⟩),h,false)else match qwW h (ps.map fun p=>ev p.2)with
  |some (vs,h)=>match qMF sz (List.replicate n (nz z)) ((ps.map (·.1)).zip vs)with
   |some es=>some (.ret (.own nx 0 none),qi3 h nx (.arr sz es false),true)
   |none=>none
  |none=>none
 | .load agg n _ x=>match qrx h (ev x)with
  |some cs=>qGV (part agg n cs) h
  |none=>none
 | .store n x v=>match qZ6 h n (ev x) (ev v)with
  |some h=>some (.ret q0s,h,true)
  |none=>none
 | .nilck x=>match isNil (ev x)with
  |some false=>val (ev x) h
  |_=>none
 | .bin op x y=>qGV (zmT op (ev x) (ev y)) h
 | .eqs ks neg x y=>match qc5 ks (ev x) (ev y)with
   |some b=>val (.bool (if neg then !b else b)) h
   |none=>none
 | .eqn k neg x y=>match qeC k (ev x),qeC k (ev y)with
  |some a,some b=>if a||b then val (.bool (if neg then !(a&&b)else a&&b)) h else none
  |_,_=>none
 | .un op x=>qGV (unA op (ev x)) h
 | .conv k x=>match ev x with
  | .int _ n=>val (.int k (k.wrap n)) h
  |_=>none
 | .mki t x=>val (.iface t (ev x)) h
 | .mkf f cap=>val (.fn (.func f) (cap.map ev)) h
 | .mks sz bytes z lx cx=>match ev lx,ev cx with
  | .int _ l,.int _ c=>if 0<=l/\l<=c/\c.toNat*bytes<=lim/\c<=4611686018427387904 then
    some (.ret (.own nx 0 (if q4b lx cx then none else some l.toNat)),qi3 h nx (.arr sz (List.replicate c.toNat (nz z)) false),false)else none
  |_,_=>none
 | .slc sz x lo hi=>match ev x with
  | .nils z=>match qgA 0 0 (qbR ev lo) (qbR ev hi)with
   |some _=>val (.nils z) h
   |none=>none
  | .view sz' es=>match qgA es.length es.length (qbR ev lo) (qbR ev hi)with
   |some (l,u)=>if sz'=sz then val (.view sz ((es.drop l).take (u-l))) h else none
   |none=>none
  | .own id off len=>match qak h id with
   |some (.arr sz' es _)=>match qgA (qmq es.length off len) (es.length-off) (qbR ev lo) (qbR ev hi)with
    |some (l,u)=>if sz'=sz/\off+u<=es.length then val (.own id (off+l) (zmY len hi (u-l))) h else none
    |none=>none
   |_=>none
  |_=>none
 | .slcs x lo hi=>match ev x with
  | .str s=>match qgA s.length s.length (qbR ev lo) (qbR ev hi)with
   |some (l,u)=>val (.str ((s.drop l).take (u-l))) h
   |none=>none
  |_=>none
 | .faddr off x=>match ev x with
  | .ptr cs=>if off<=cs.length then val (.ptr (cs.drop off)) h else none
  | .ref id idx o=>val (.ref id idx (o+off)) h
  |_=>none
 | .iaddr sz _ x i=>match ev x,ev i with
  | .view sz' es,.int _ i=>match qgU es i with
   |some e=>if sz'=sz then val (.ptr (qai e)) h else none
   |none=>none
  | .own id off len,.int _ i=>match qak h id with
   |some (.arr sz' es _)=>if sz'=sz/\0<=i/\i<qmq es.length off len/\off+i.toNat<es.length then val (.ref id (zm5 off i) 0) h else none
   |_=>none
  |_,_=>none
 | .aaddr n sz x i=>match ev i with
  | .int _ i=>if 0<=i/\i<n then
    match ev x with
    | .ptr cs=>if i.toNat*sz<=cs.length then val (.ptr (cs.drop (i.toNat*sz))) h else none
    | .ref id idx o=>val (.ref id idx (o+i.toNat*sz)) h
    |_=>none
   else none
  |_=>none
 | .idxs x i=>match ev x,ev i with
  | .str s,.int _ i=>match qgU s i with
   |some b=>val (.int .u8 b.toNat) h
   |none=>none
  |_,_=>none
 | .tass t z ok x=>match ev x with
  | .iface u v=>if u=t then val (if ok then .tup [v,.bool true]else v) h
   else if ok then val (.tup [z,.bool false]) h else none
  | .nili=>if ok then val (.tup [z,.bool false]) h else none
  |_=>none
 | .ext x i=>match ev x with
  | .tup vs=>qGV vs[i]? h
  |_=>none
 | .len k x=>match k,ev x with
  | .s,.str s=>val (.int .i64 s.length) h
  | .l,.nils _=>val (.int .i64 0) h
  | .l,.view _ es=>val (.int .i64 es.length) h
  | .l,.own id off n=>match qak h id with
   |some (.arr _ es _)=>val (.int .i64 (qmq es.length off n)) h
   |_=>none
  | .m,.nilm=>val (.int .i64 0) h
  | .m,.mref id=>match qak h id with
   |some (.mp kvs)=>val (.int .i64 kvs.length) h
   |_=>none
  |_,_=>none
 | .app sz bytes s x=>match qy2 h sz (ev x)with
  |some src=>match qKO h nx sz bytes (ev s) src with
   |some (v,h)=>some (.ret v,h,true)
   |none=>none
  |none=>none
 | .mx xs=>match xs.map ev with
  |x::ys=>qGV (qBk zos x ys) h
  | []=>none
 | .mn xs=>match xs.map ev with
  |x::ys=>qGV (qBk zou x ys) h
  | []=>none
 | .call f args=>qkP P call h nx f (args.map ev)
 | .callv fv args=>match ev fv with
  | .fn (.func f) cap=>qkP P call h nx f (args.map ev++cap)
  |_=>none
 | .pan x=>match ev x with
  | .iface t v=>some (.pan (.iface t v),h,true)
  |_=>none
 | .convs .. | .mkb .. | .nilm .. | .mkm | .slc3 .. | .fld .. | .idxa .. | .look .. | .mupd .. | .mdel .. | .clr .. | .invk ..=>none
def qNf:Option Opd->List Opd
 |none=>[]
 |some x=>[x]
def qu4:IOp->List Opd
 | .mov x | .mkb _ x | .nilm _ _ x | .box _ x | .load _ _ _ x | .nilck x | .un _ x | .conv _ x | .convs x | .mki _ x | .faddr _ x | .fld _ _ _ x | .tass _ _ _ x | .ext x _ | .len _ x
 | .clr _ _ x | .pan x=>[x]
 | .pick c a b=>[c,a,b]
 | .alloc _ | .mkm=>[]
 | .build _ ps=>ps.map fun p=>p.2.2
 | .bslice _ _ _ ps=>ps.map fun p=>p.2
 | .store _ x v=>[x,v]
 | .bin _ x y | .eqs _ _ x y | .eqn _ _ x y | .iaddr _ _ x y | .aaddr _ _ x y | .idxs x y | .idxa _ _ _ x y | .look _ _ _ x y | .mdel _ x y | .app _ _ x y | .mks _ _ _ x y=>[x,y]
 | .mkf _ cap=>cap
 | .slc _ x lo hi | .slcs x lo hi=>x::qNf lo++qNf hi
 | .slc3 x lo hi mx=>[x,lo,hi,mx]
 | .mupd _ m k v=>[m,k,v]
 | .mx xs | .mn xs | .call _ xs=>xs
 | .callv x xs=>x::xs
 | .invk _ x xs=>x::xs
def qbo(e:Env):Opd->AV
 | .t n=>qbV e n
 | .c v=>v
 | .f n=>.fn (.func n) []
def ql0(e:Env):Option (Nat×Bool)->Option Bool
 |none=>some true
 |some (t,want)=>match qbV e t with
  | .bool b=>some (b==want)
  | .tup []=>some false
  |_=>none
def qF6(e:Env):Option Nat->AV->Env
 |none,_=>e
 |some d,v=>(d,v)::e
inductive Step where
 |skip
 |did (r:List Nat) (w:Bool) (v:AV) (out:Heap)
 |pan (r:List Nat) (v:AV) (out:Heap)
def zg2(e:Env)(op:IOp):List Nat:=match op with
 | .mov _ | .nilck _ | .faddr _ _ | .aaddr _ _ _ _=>[]
 |op=>idsA.idsL ((qu4 op).map (qbo e))
def qcU(P:Prog)(call:qa2)(nx:Nat)(o:IOper)(e:Env)(h:Heap):Option Step:=
 match ql0 e o.guard with
 |none=>none
 |some false=>some .skip
 |some true=>
  match qb8 qg9 h (zg2 e o.op) []with
  |none=>none
  |some r=>
   match opS P call nx (qbo e) (sub h r) o.op with
   |none=>none
   |some (.ret v,out,w)=>some (.did r w v out)
   |some (.pan v,out,_)=>some (.pan r v out)
def qbz(e:Env)(dst:Option Nat):Step->Env
 | .skip=>qF6 e dst q0s
 | .did _ _ v _=>qF6 e dst v
 | .pan _ _ _=>e
def news(r:List Nat):Heap->Heap
 | []=>[]
 |(i,b)::h=>if r.contains i then news r h else(i,b)::news r h
def qaZ(h:Heap):Step->Heap
 | .skip=>h
 | .did r w _ out=>if w then out++qa9 h r else news r out++h
 | .pan r _ out=>out++qa9 h r
def qdS(c d:Nat):Env->Env
 | []=>[]
 |(j,v)::e=>match Nat.blt c j&&Nat.blt j d with
  |true=>qdS c d e
  |false=>(j,v)::qdS c d e
def qkU(o:IOper)(e:Env):Env:=match o.op,o.dst with
 | .pick (.t c) _ _,some d=>qdS c d e
 |_,_=>e
def qcL(P:Prog)(call:qa2):List IOper->Env->Heap->Nat->List Step->Option (X×Env×Heap×List Step)
 | [],e,h,_,log=>some (.normal,e,h,log)
 |o::ops,e,h,nx,log=>
  match qcU P call nx o e h with
  |none=>none
  |some (.pan r v out)=>some (.pan v,e,qaZ h (.pan r v out),log)
  |some s=>qcL P call ops (qkU o (qbz e o.dst s)) (qaZ h s) (nx+16) (log++[s])
def reached:Step->List Nat
 | .skip=>[]
 | .did r _ _ _=>r
 | .pan r _ _=>r
def wrote:Step->Bool
 | .skip=>false
 | .did _ w _ _=>w
 | .pan _ _ _=>true
def clash(a b:Step):Bool:=(wrote a||wrote b)&& !q7p (reached a) (reached b)
def q3n(ops:List IOper)(i:Nat):Opd->Bool
 | .t n=>(ops.drop i).all fun o=>!decide (o.dst=some n)
 |_=>true
def qyy(_:List IOper)(_:Env)(_ _:Nat):Bool:=false
def calm(base:Nat)(befs:List (List Nat))(ops:List IOper)(e:Env)(log:List Step):Bool:=
 (List.range log.length).all fun j=>
  let x:=log.getD j .skip
  let bj:=befs.getD j []
  ((List.range j).all fun i=>bj.contains i || !clash (log.getD i .skip) x||qyy ops e i j) &&
  (reached x).all fun q=>decide (q<base)||bj.contains ((q-base) / 16)
def inside(r:List Nat)(nx:Nat)(out:Heap):Bool:=out.all fun p=>r.contains p.1||(decide (nx<=p.1)&&decide (p.1<nx+16))
def qnF(h:Heap)(r:List Nat)(j:Nat):Bool:=r.contains j||(qak h j).isNone
def whole(h:Heap)(ids r:List Nat):Bool:=
 ids.all (qnF h r)&&r.all fun i=>match qak h i with
  |some b=>(qNT b).all (qnF h r)
  |none=>false
def lost(h:Heap)(ids:List Nat):Step->List Nat
 | .did r _ _ _=>(ids++(sub h r).flatMap fun p=>qNT p.2).filter fun j=>(qak h j).isNone
 |_=>[]
def mark:List Nat->Step->Step
 | [],s=>s
 |q::g,.did r w v out=>.did (r++q::g) w v out
 |_,s=>s
def tidy(nx:Nat)(ids:List Nat)(h:Heap):Step->Bool
 | .skip=>true
 | .did r _ _ out=>whole h ids r&&inside r nx out
 | .pan _ _ _=>false
def qdw(e:Env)(o:IOper):List Nat:=zg2 e o.op
def zd4:Step->Option AV
 | .pan _ v _=>some v
 |_=>none
def qwX:IOp->Bool
 | .mov _ | .load _ _ _ _ | .bin _ _ _ | .faddr _ _ | .nilck _=>true
 |_=>false
def znf(befs:List (List Nat))(ops:List IOper)(i:Nat):Bool:=
 ((List.range ops.length).all fun j=>Nat.ble j i||(befs.getD j []).contains i) &&
 (List.range i).all fun j=>(befs.getD i []).contains j || match ops[j]? with
  |some o=>qwX o.op
  |none=>true
def qdI(P:Prog)(call:qa2)(base:Nat):Nat->List IOper->Env->Heap->List Step->Option (Option AV×Env×Heap×List Step)
 |_,[],e,h,log=>some (none,e,h,log)
 |i,o::ops,e,h,log=>match qcU P call (base+16*i) o e h with
  |none=>none
  |some s=>match zd4 s with
   |some v=>some (some v,e,qaZ h s,log)
   |none=>if tidy (base+16*i) (qdw e o) h s then qdI P call base (i+1) ops (qbz e o.dst s) (qaZ h s) (log++[mark (lost h (qdw e o) s) s])else none
def qbv(P:Prog)(call:qa2)(ops:List IOper)(drawn:Option (List (List Nat)))(s:St):Option (X×St):=
 match drawn with
 |none=>match qcL P call ops s.tm s.hp s.nx []with
  |none=>none
  |some (x,e,h,_)=>some (x,⟨e,h,s.nx+16*ops.length,s.k⟩)
 |some befs=>match qdI P call s.nx 0 ops s.tm s.hp []with
  |none=>none
  |some (none,e,h,log)=>if calm s.nx befs ops e log then some (.normal,⟨e,h,s.nx+16*ops.length,s.k⟩)else none
  |some (some v,e,h,log)=>if calm s.nx befs ops e log&&znf befs ops log.length then some (.pan v,⟨[],h,s.nx+16*ops.length,s.k⟩)else none
def keepE(e:Env):List Nat->Env
 | []=>[]
 |t::ts=>(t,qbV e t)::keepE e ts
def zkr(r:Nat->Option Nat):Env->Env
 | []=>[]
 |(t,v)::e=>(t,ren r v)::zkr r e
def brought(h:Heap)(k:Nat):List Nat:=(sub h (List.range k)).flatMap fun p=>qNT p.2
def norm(keep:List Nat)(s:St):Option St:=
 match qb8 qg9 s.hp (idsA.idsL (keep.map (qbV s.tm))++brought s.hp s.k) (List.range s.k)with
 |none=>none
 |some r=>some ⟨zkr (place r) (keepE s.tm keep),qjK (place r) (sub s.hp r),r.length,s.k⟩
def qbY(P:Prog)(call:qa2)(loop:qgp):ICode->St->Option (X×St)
 | .skip,s=>some (.normal,s)
 | .region ops d,s=>qbv P call ops d s
 | .seq a b,s=>match qbY P call loop a s with
  |some (.normal,s)=>qbY P call loop b s
  |r=>r
 | .cond c a b,s=>match qbo s.tm c with
  | .bool true=>qbY P call loop a s
  | .bool false=>qbY P call loop b s
  |_=>none
 | .block id c,s=>match qbY P call loop c s with
  |some (.exit j,s)=>if j=id then some (.normal,s)else some (.exit j,s)
  |r=>r
 | .loop keep c,s=>loop keep c s
 | .exit id,s=>some (.exit id,s)
 | .ret,s=>some (.ret,s)
def q33(s:St):Nat×Option (Bool×Nat)->Option AV
 |(t,none)=>some (qbV s.tm t)
 |(t,some (agg,n))=>match qrx s.hp (qbV s.tm t)with
  |some cs=>part agg n cs
  |none=>none
def qjL(s:St):List (Nat×Option (Bool×Nat))->Option (List AV)
 | []=>some []
 |r::rs=>match q33 s r,qjL s rs with
  |some v,some vs=>some (v::vs)
  |_,_=>none
def one:List AV->AV
 | [v]=>v
 |vs=>.tup vs
def qva(P:Prog)(f k:Nat)(v:AV)(h:Heap):Option (AV×Heap):=
 match if P.fresh f then some (v,h)else still h v with
 |none=>none
 |some (v,h)=>
  match qb8 qg9 h (idsA v++brought h k) (List.range k)with
  |none=>none
  |some r=>some (ren (place r) v,qjK (place r) (sub h r))
def params:Nat->List AV->Env
 |_,[]=>[]
 |i,v::vs=>(i,v)::params (i+1) vs
def nzB:Blk->Blk
 | .box cs fz=>.box (nz.nzL cs) fz
 |b=>b
def nzH(h:Heap):Heap:=h.map fun p=>(p.1,nzB p.2)
def wH(P:Prog)(f:Nat)(h:Heap):Heap:=bif P.wid f then nzH h else h
def wV(P:Prog)(f:Nat)(v:AV):AV:=bif P.wid f then nz v else v
def body(P:Prog)(call:qa2)(loop:qgp)(f:Nat)(F:Fun)(args:List AV)(h:Heap):Option (Res×Heap):=
 match qbY P call loop F.body ⟨params 0 args,wH P f h,h.length,h.length⟩with
 |some (.normal,s)|some (.ret,s)=>match qjL s F.results with
  |some vs=>match qva P f h.length (one vs) s.hp with
   |some (v,h)=>some (.ret (wV P f v),h)
   |none=>none
  |none=>none
 |some (.pan v,s)=>match qva P f h.length v s.hp with
   |some (v,h)=>some (.pan v,h)
   |none=>none
 |_=>none
def hk:List Nat->List Nat
 | []=>[]
 |x::r=>if x=2000000 then[]else x::hk r
def xk:List Nat->List Nat
 | []=>[]
 |x::r=>if x=2000000 then r else xk r
def qyM(keep:List Nat)(x:X)(s:St):Option (X×St):=match x with
 | .pan v=>some (.pan v,s)
 |x=>match norm (xk keep) s with
  |some s=>some (x,s)
  |none=>none
def qaF(P:Prog):Nat->qa2×qgp
  |0=>(fun _ _ _=>none,fun _ _ _=>none)
  |n+1=>
    (fun f args h=>match P.fn f with
      |some F=>body P (qaF P n).1 (qaF P n).2 f F args h
      |none=>match P.spec f with
        |some g=>g args h
        |none=>match P.seen f with
          |some s=>s.g (qaF P n).1 args h
          |none=>none,
     fun keep c s=>match norm (hk keep) s with
      |none=>none
      |some s=>match qbY P (qaF P n).1 (qaF P n).2 c s with
        |some (.normal,s)=>(qaF P n).2 keep c s
        |some (x,s)=>qyM keep x s
        |none=>none)
end Go.Eng
namespace Go.Eng
structure Loc where
 blk:Nat
 base:Nat
 sz:Nat
 num:Nat
abbrev Names:=Nat->Option Loc
abbrev Imm:=Nat->Nat->Prop
def m0:Names:=fun _=>none
def ad(b o:Nat):Addr:=⟨b,o,none⟩
theorem qea(n off:Nat):qmq n off none=n-off:=by cases off<;>rfl
theorem qBF(n off k:Nat):qmq n off (some k)=k:=rfl
theorem qme(es:List AV)(off:Nat):qA0 es off=es.drop off:=by cases off<;>rfl
theorem qkK(es:List AV)(off k:Nat):qCG es off (some k)=(es.drop off).take k:=by simp[qCG,qme]
def isAgg:AV->Bool
 | .agg _=>true
 |_=>false
def OwnSl(w:World)(L:Loc)(off len:Nat)(v:Value):Prop:=
 ∃(o cap:Nat) (C:Array Value) (e:TypeId),v= .slice (some (ad L.blk o)) len cap/\len<=cap/\(cap≠0->o=L.base+off*L.sz)/\L.num<=off+cap /\
  w.heap[L.blk]? = some (Obj.cells C e (0,0))/\L.base+(off+cap)*L.sz<=C.size
def zao(k:NKd)(v:Value):Prop:=∃b cap,v= .slice b 0 cap/\(k≠ .non->cap=0)/\(k= .nil->b=none)/\(k= .non-> ∃a,b=some a)
theorem qte{v:Value}:zao .nil v ↔ v= .slice none 0 0:=by
 constructor
 ·rintro⟨b,cap,rfl,h1,h2,_⟩;rw[h1 (by simp),h2 rfl]
 ·rintro rfl;exact⟨_,_,rfl,by simp,by simp,by simp⟩
theorem qjB{k:NKd}{v:Value}(h:zao k v):∃b cap,v= .slice b 0 cap/\(b=none->cap=0):=by
 obtain⟨b,cap,rfl,h1,h2,h3⟩:=h;refine⟨_,_,rfl,fun hb=>?_⟩;cases k
 ·exact h1 (by simp)
 ·exact h1 (by simp)
 ·obtain⟨a,ha⟩:=h3 rfl;rw[hb]at ha;cases ha
def fnV:FnId->List Value->Value
 | .func n,vs=>.func (.func n) #[] vs.toArray
 | .meth s,vs=>.func (.method s) vs.toArray #[]
def fnA:FnId->Fn
 | .func n=>.func n
 | .meth s=>.method s
def fnB:FnId->List Value->Array Value
 | .func _,_=>#[]
 | .meth _,vs=>vs.toArray
def fnC:FnId->List Value->Array Value
 | .func _,vs=>vs.toArray
 | .meth _,_=>#[]
theorem qvL(f:FnId)(vs:List Value):fnV f vs= .func (fnA f) (fnB f vs) (fnC f vs):=by cases f<;>rfl
mutual
def Rel(w:World)(I:Imm):AV->Names->Value->Prop
 | .int k n,_,v=>v= .int k n
 | .bool b,_,v=>v= .bool b
 | .str s,_,v=>v= .string ⟨s.toArray⟩
 | .nilp,_,v=>v= .pointer none
 | .nils q,_,v=>zao q.kd v
 | .nilm,_,v=>v= .map none
 | .nilf,_,v=>v= .nilFunc
 | .nili,_,v=>v= .nilIface
 | .agg cs,m,v=>∃vs:List Value,v= .agg vs.toArray/\qaQ w I cs m vs
 | .tup cs,m,v=>∃vs:List Value,v= .tuple vs.toArray/\qaQ w I cs m vs
 | .view sz es,_,v=>∃a cap,v= .slice a es.length cap/\es.length<=cap/\(es.length=0\/ ∃b o,a=some (ad b o)/\qDt w I sz es b o)/\(a=none->cap=0)
 | .ptr cs,_,v=>∃b o,v= .pointer (some (ad b o))/\qCV w I cs b o
 | .own id off lo,m,v=>∃L,m id=some L/\OwnSl w L off (qmq L.num off lo) v
 | .ref id idx off,m,v=>∃L,m id=some L/\v= .pointer (some (ad L.blk (L.base+idx*L.sz+off)))
 | .mref id,m,v=>∃L,m id=some L/\v= .map (some L.blk)
 | .fn f cap,m,v=>∃vs:List Value,v=fnV f vs/\qaQ w I cap m vs
 | .iface t x,m,v=>∃y,v= .iface t y/\Rel w I x m y
 | .junk,_,_=>True
def qaQ(w:World)(I:Imm):List AV->Names->List Value->Prop
 | [],_,vs=>vs= []
 |c::cs,m,vs=>∃v vs',vs=v::vs'/\Rel w I c m v/\qaQ w I cs m vs'
def qCV(w:World)(I:Imm):List AV->Nat->Nat->Prop
 | [],_,_=>True
 |c::cs,b,o=>(I b o/\qbn c=true/\ ∃v,w.cell? (ad b o)=some v/\Rel w I c m0 v)/\qCV w I cs b (o+1)
def qDt(w:World)(I:Imm)(sz:Nat):List AV->Nat->Nat->Prop
 | [],_,_=>True
 |e::es,b,o=>(qai e).length=sz/\(match e with
   | .agg cs=>qCV w I cs b o
   |_=>True)/\(isAgg e=false->I b o/\qbn e=true/\ ∃v,w.cell? (ad b o)=some v/\Rel w I e m0 v)/\qDt w I sz es b (o+sz)
end
def flat(es:List AV):List AV:=es.flatMap qai
theorem qa7{w:World}{I:Imm}{m:Names}:∀{cs:List AV} {vs:List Value},qaQ w I cs m vs->vs.length=cs.length
 | [],_,h=>by simp only[qaQ]at h;simp[h]
 |c::cs,_,h=>by
  simp only[qaQ]at h;obtain⟨v,vs',rfl,_,h⟩:=h;simp[qa7 h]
theorem qcr{w:World}{I:Imm}{m:Names}:∀{cs:List AV} {vs:List Value},qaQ w I cs m vs-> ∀(i:Nat) (c:AV),cs[i]? = some c-> ∃v,vs[i]? = some v/\Rel w I c m v
 | [],_,_=>by simp
 |c::cs,_,h=>by
  simp only[qaQ]at h;obtain⟨v,vs',rfl,hv,h⟩:=h;intro i c' hc;cases i with
  |zero=>simp at hc;subst hc;exact⟨v,by simp,hv⟩
  |succ i=>simp at hc;simpa using qcr h i c' hc
theorem qyW{w:World}{I:Imm}{m:Names}:∀{cs:List AV} {vs:List Value},vs.length=cs.length ->
  (∀(i:Nat) (c:AV) (v:Value),cs[i]? = some c->vs[i]? = some v->Rel w I c m v)->qaQ w I cs m vs
 | [],vs,h,_=>by simp at h;simp[qaQ,h]
 |c::cs,[],h,_=>by simp at h
 |c::cs,v::vs,h,hh=>by
  simp only[qaQ];refine⟨v,vs,rfl,hh 0 c v rfl rfl,qyW (by simpa using h) fun i c v hc hv=>hh (i+1) c v (by simpa using hc) (by simpa using hv)⟩
theorem qdX{w:World}{I:Imm}{m:Names}{cs ds:List AV}{vs us:List Value}(h:qaQ w I cs m vs)(h':qaQ w I ds m us):qaQ w I (cs++ds) m (vs++us):=by
 induction cs generalizing vs with
 |nil=>simp only[qaQ]at h;subst h;simpa using h'
 |cons c cs ih=>
  simp only[qaQ]at h;obtain⟨v,vs',rfl,hv,h⟩:=h;simp only[jAk,qaQ];exact⟨v,_,rfl,hv,ih h⟩
theorem qjG{w:World}{I:Imm}{m:Names}:∀(n:Nat) {cs:List AV} {vs:List Value},qaQ w I cs m vs->qaQ w I (cs.drop n) m (vs.drop n)
 |0,_,_,h=>by simpa using h
 |n+1,[],vs,h=>by simp only[qaQ]at h;subst h;simp[qaQ]
 |n+1,c::cs,vs,h=>by
  simp only[qaQ]at h;obtain⟨v,vs',rfl,hv,h⟩:=h;simpa using qjG n h
theorem qjI{w:World}{I:Imm}{m:Names}:∀(n:Nat) {cs:List AV} {vs:List Value},qaQ w I cs m vs->qaQ w I (cs.take n) m (vs.take n)
 |0,_,_,h=>by simp[qaQ]
 |n+1,[],vs,h=>by simp only[qaQ]at h;subst h;simp[qaQ]
 |n+1,c::cs,vs,h=>by
  simp only[qaQ]at h;obtain⟨v,vs',rfl,hv,h⟩:=h;simp only[jCo,qaQ];exact⟨v,_,rfl,hv,qjI n h⟩
def At(w:World)(I:Imm)(cs:List AV)(b o:Nat):Prop:=
 ∀(i:Nat) (c:AV),cs[i]? = some c->I b (o+i)/\qbn c=true/\ ∃v,w.cell? (ad b (o+i))=some v/\Rel w I c m0 v
theorem qcq{w:World}{I:Imm}:∀{cs:List AV} {b o:Nat},qCV w I cs b o ↔ At w I cs b o
 | [],b,o=>by simp[qCV,At]
 |c::cs,b,o=>by
  simp only[qCV,qcq (cs:=cs)];constructor
  ·rintro⟨h,h'⟩ i c' hc;cases i with
   |zero=>simp at hc;subst hc;simpa using h
   |succ i=>simp at hc;have:=h' i c' hc;rwa[show o+1+i=o+(i+1) by omega]at this
  ·intro h;refine⟨by simpa using h 0 c rfl,fun i c' hc=>?_⟩;have:=h (i+1) c' (by simpa using hc);rwa[show o+(i+1)=o+1+i by omega]at this
theorem qrt{w:World}{I:Imm}{cs ds:List AV}{b o:Nat}:At w I (cs++ds) b o ↔ At w I cs b o/\At w I ds b (o+cs.length):=by
 constructor
 ·intro h;refine⟨fun i c hc=>h i c ?_,fun i c hc=>?_⟩
  ·rw[jAu (by have:=(jAg.1 hc).1;exact this)];exact hc
  ·have:=h (cs.length+i) c (by rw[jB1 (by omega)];simpa using hc);rwa[show o+(cs.length+i)=o+cs.length+i by omega]at this
 ·rintro⟨h,h'⟩ i c hc;by_cases hi:i<cs.length
  ·rw[jAu hi]at hc;exact h i c hc
  ·rw[jB1 (by omega)]at hc;have:=h' _ c hc;rwa[show o+cs.length+(i-cs.length)=o+i by omega]at this
theorem qmB{w:World}{I:Imm}{sz:Nat}{e:AV}{es:List AV}{b o:Nat}:qDt w I sz (e::es) b o ↔ ((qai e).length=sz/\qCV w I (qai e) b o/\qDt w I sz es b (o+sz)):=by
 cases e<;>simp[qDt,qCV,qai,isAgg,and_assoc]
theorem qko{w:World}{I:Imm}{sz:Nat}{es:List AV}{b o:Nat}:qDt w I sz es b o ↔ (∀e∈es,(qai e).length=sz)/\At w I (flat es) b o:=by
 induction es generalizing o with
 |nil=>simp[qDt,flat,At]
 |cons e es ih=>
  have hf:flat (e::es)=qai e++flat es:=rfl;rw[hf,qrt,qmB,ih,qcq];simp only[jAc,forall_eq_or_imp];constructor
  ·rintro⟨h1,h2,h3,h4⟩;exact⟨⟨h1,h3⟩,h2,h1▸h4⟩
  ·rintro⟨⟨h1,h3⟩,h2,h4⟩;exact⟨h1,h2,h3,h1▸h4⟩
theorem qcb{sz:Nat}:∀{es:List AV},(∀e∈es,(qai e).length=sz)->(flat es).length=es.length*sz
 | [],_=>by simp[flat]
 |e::es,h=>by
  have hf:flat (e::es)=qai e++flat es:=rfl;rw[hf,jA2,h e (by simp),qcb fun x hx=>h x (by simp[hx])];simp[jBe];omega
theorem qdR(es fs:List AV):flat (es++fs)=flat es++flat fs:=by simp[flat]
structure Stays (w w':World) (I:Imm):Prop where
 size:w.heap.size<=w'.heap.size
 row:∀(b:Nat) (C:Array Value) (e:TypeId),w.heap[b]? = some (Obj.cells C e (0,0))-> ∃C':Array Value,w'.heap[b]? = some (Obj.cells C' e (0,0))/\C'.size=C.size
 imm:∀b o,I b o->w'.cell? (ad b o)=w.cell? (ad b o)
 out:w'.os=w.os/\w'.output=w.output/\w'.tape=w.tape
theorem Stays.refl(w:World)(I:Imm):Stays w w I:=⟨jAj _,fun _ C _ h=>⟨C,h,rfl⟩,fun _ _ _=>rfl,⟨rfl,rfl,rfl⟩⟩
theorem Stays.trans{w w1 w2:World}{I I1:Imm}(h:Stays w w1 I)(h':Stays w1 w2 I1)(hI:∀b o,I b o->I1 b o):Stays w w2 I:=
  ⟨jAz h.size h'.size,fun b C e hc=>by
    obtain⟨C1,h1,e1⟩:=h.row b C e hc;obtain⟨C2,h2,e2⟩:=h'.row b C1 e h1;exact⟨C2,h2,e2.trans e1⟩,
   fun b o hi=>(h'.imm b o (hI b o hi)).trans (h.imm b o hi),
   ⟨h'.out.1.trans h.out.1,h'.out.2.1.trans h.out.2.1,h'.out.2.2.trans h.out.2.2⟩⟩
theorem Stays.sub{w w1:World}{I I1:Imm}(h:Stays w w1 I1)(hI:∀b o,I b o->I1 b o):Stays w w1 I:=
 ⟨h.size,h.row,fun b o hi=>h.imm b o (hI b o hi),h.out⟩
theorem OwnSl.stays{w w':World}{I:Imm}{L:Loc}{off len:Nat}{v:Value}(s:Stays w w' I)(h:OwnSl w L off len v):OwnSl w' L off len v:=by
 obtain⟨o,cap,C,e,hv,h1,h2,h3,h4,h5⟩:=h;obtain⟨C',hc,hs⟩:=s.row _ _ _ h4;exact⟨o,cap,C',e,hv,h1,h2,h3,hc,by omega⟩
mutual
theorem qaV{w w':World}{I I':Imm}(s:Stays w w' I)(hI:∀b o,I b o->I' b o):∀(x:AV) {m m':Names} {v:Value},(∀i L,m i=some L->m' i=some L)->Rel w I x m v->Rel w' I' x m' v
 | .int ..,_,_,_,_,h=>h
 | .bool ..,_,_,_,_,h=>h
 | .str ..,_,_,_,_,h=>h
 | .nilp,_,_,_,_,h=>h
 | .nils _,_,_,_,_,h=>h
 | .nilm,_,_,_,_,h=>h
 | .nilf,_,_,_,_,h=>h
 | .nili,_,_,_,_,h=>h
 | .agg cs,_,_,_,hm,h=>by
  simp only[Rel]at h ⊢;obtain⟨vs,hv,h⟩:=h;exact⟨vs,hv,qhz s hI cs hm h⟩
 | .tup cs,_,_,_,hm,h=>by
  simp only[Rel]at h ⊢;obtain⟨vs,hv,h⟩:=h;exact⟨vs,hv,qhz s hI cs hm h⟩
 | .view sz es,_,_,_,hm,h=>by
  simp only[Rel]at h ⊢;obtain⟨a,cap,hv,hc,h,hz⟩:=h;exact⟨a,cap,hv,hc,h.imp id fun⟨b,o,ha,h⟩=>⟨b,o,ha,qCm s hI sz es h⟩,hz⟩
 | .ptr cs,_,_,_,hm,h=>by
  simp only[Rel]at h ⊢;obtain⟨b,o,hv,h⟩:=h;exact⟨b,o,hv,qjF s hI cs h⟩
 | .own ..,_,_,_,hm,h=>by
  simp only[Rel]at h ⊢;obtain⟨L,hL,h⟩:=h;exact⟨L,hm _ _ hL,h.stays s⟩
 | .ref ..,_,_,_,hm,h=>by
  simp only[Rel]at h ⊢;obtain⟨L,hL,h⟩:=h;exact⟨L,hm _ _ hL,h⟩
 | .mref ..,_,_,_,hm,h=>by
  simp only[Rel]at h ⊢;obtain⟨L,hL,h⟩:=h;exact⟨L,hm _ _ hL,h⟩
 | .fn f cs,_,_,_,hm,h=>by
  simp only[Rel]at h ⊢;obtain⟨vs,hv,h⟩:=h;exact⟨vs,hv,qhz s hI cs hm h⟩
 | .iface t x,_,_,_,hm,h=>by
  simp only[Rel]at h ⊢;obtain⟨y,hv,h⟩:=h;exact⟨y,hv,qaV s hI x hm h⟩
 | .junk,_,_,_,_,_=>by simp[Rel]
termination_by x=>SizeOf.sizeOf x
theorem qhz{w w':World}{I I':Imm}(s:Stays w w' I)(hI:∀b o,I b o->I' b o):∀(cs:List AV) {m m':Names} {vs:List Value},(∀i L,m i=some L->m' i=some L)->qaQ w I cs m vs->qaQ w' I' cs m' vs
 | [],_,_,_,_,h=>h
 |c::cs,_,_,_,hm,h=>by
  simp only[qaQ]at h ⊢;obtain⟨v,vs',hv,h1,h2⟩:=h;exact⟨v,vs',hv,qaV s hI c hm h1,qhz s hI cs hm h2⟩
termination_by cs=>SizeOf.sizeOf cs
theorem qjF{w w':World}{I I':Imm}(s:Stays w w' I)(hI:∀b o,I b o->I' b o):∀(cs:List AV) {b o:Nat},qCV w I cs b o->qCV w' I' cs b o
 | [],_,_,h=>h
 |c::cs,b,o,h=>by
  simp only[qCV]at h ⊢;obtain⟨⟨h0,hk,v,hv,h1⟩,h2⟩:=h;exact⟨⟨hI _ _ h0,hk,v,(s.imm _ _ h0).trans hv,qaV s hI c (fun _ _ h=>h) h1⟩,qjF s hI cs h2⟩
termination_by cs=>SizeOf.sizeOf cs
theorem qCm{w w':World}{I I':Imm}(s:Stays w w' I)(hI:∀b o,I b o->I' b o)(sz:Nat):∀(es:List AV) {b o:Nat},qDt w I sz es b o->qDt w' I' sz es b o
 | [],_,_,h=>h
 |e::es,b,o,h=>by
  rw[qmB]at h ⊢;obtain⟨h0,h1,h2⟩:=h;refine⟨h0,?_,qCm s hI sz es h2⟩;by_cases ha:isAgg e=true
  ·obtain⟨cs,rfl⟩:∃cs,e= .agg cs:=by cases e<;>first|exact⟨_,rfl⟩|simp[isAgg]at ha
   exact qjF s hI cs h1
  ·have hc:qai e= [e]:=by cases e<;>first|rfl|exact absurd rfl ha
   rw[hc]at h1 ⊢;simp only[qCV]at h1 ⊢;obtain⟨⟨h0,hk,v,hv,h1⟩,h2⟩:=h1;exact⟨⟨hI _ _ h0,hk,v,(s.imm _ _ h0).trans hv,qaV s hI e (fun _ _ h=>h) h1⟩,h2⟩
termination_by es=>SizeOf.sizeOf es
end
theorem At.mono{w w':World}{I I':Imm}(s:Stays w w' I)(hI:∀b o,I b o->I' b o){cs:List AV}{b o:Nat}(h:At w I cs b o):At w' I' cs b o:=
 qcq.1 (qjF s hI cs (qcq.2 h))
def qbU:List AV->Option (List IntKind)
 | []=>some []
 | .int k _::xs=>(qbU xs).map (k:: ·)
 |_::_=>none
def qhr:AV->Option (List IntKind)
 | .agg xs=>qbU xs
 |_=>none
def MapOf(kvs0 kvs:List (AV×AV)):Prop:=
 (kvs0=kvs/\ ∀p∈kvs,qhr p.1=none)\/(kvs0.Perm kvs/\(∃kk,∀p∈kvs,qhr p.1=some kk)/\kvs.Pairwise fun p q=>ltK p.1 q.1=true)
theorem MapOf.nil:MapOf [] []:=.inl ⟨rfl,by simp⟩
theorem MapOf.len{kvs0 kvs:List (AV×AV)}(h:MapOf kvs0 kvs):kvs0.length=kvs.length:=by
 rcases h with⟨rfl,_⟩|⟨h,_⟩
 ·rfl
 ·exact h.length_eq
def BlkAt(w:World)(I:Imm)(m:Names)(L:Loc):Blk->Prop
 | .box cs fz=>L.num=1/\L.sz=cs.length/\ ∃(C:Array Value) (e:TypeId),w.heap[L.blk]? = some (Obj.cells C e (0,0))/\L.base+cs.length<=C.size /\
   (∀(i:Nat) (c:AV),cs[i]? = some c-> ∃v,C[L.base+i]? = some v/\Rel w I c m v) /\
   (if fz=true then ∀i,i<cs.length->I L.blk (L.base+i)else ∀o,¬I L.blk o)
 | .arr sz es fz=>L.num=es.length/\L.sz=sz/\(∀e∈es,(qai e).length=sz)/\ ∃(C:Array Value) (e:TypeId),w.heap[L.blk]? = some (Obj.cells C e (0,0))/\L.base+es.length*sz<=C.size /\
   (∀(i:Nat) (c:AV),(flat es)[i]? = some c-> ∃v,C[L.base+i]? = some v/\qbn c=true/\Rel w I c m0 v) /\
   (if fz=true then ∀i,i<es.length*sz->I L.blk (L.base+i)else ∀o,¬I L.blk o)
 | .mp kvs=>∃(es:Array MapEntry) (clock:Nat) (kvs0:List (AV×AV)),MapOf kvs0 kvs/\w.heap[L.blk]? = some (Obj.map es clock)/\es.size=kvs0.length /\
   (∀(i:Nat) (kv:AV×AV),kvs0[i]? = some kv-> ∃x,es[i]? = some x/\Rel w I kv.1 m0 x.key/\Rel w I kv.2 m0 x.val)
class Globs where
 g:Nat->Option (List AV)
def GlobAt[Globs](w:World)(I:Imm):Prop:=∀g cs,Globs.g g=some cs->qCV w I cs g 0/\ ∃(C:Array Value) (e:TypeId),w.heap[g]? = some (Obj.cells C e (0,0))/\C.size=cs.length
theorem GlobAt.mono[Globs]{w w':World}{I I':Imm}(h:GlobAt w I)(s:Stays w w' I)(hI:∀b o,I b o->I' b o):GlobAt w' I':=fun g cs hg=>by
 obtain⟨h1,C,e,h2,h3⟩:=h g cs hg;obtain⟨C',h4,h5⟩:=s.row g C e h2;exact⟨qjF s hI cs h1,C',e,h4,h5.trans h3⟩
structure HeapAt [Globs] (w:World) (I:Imm) (m:Names) (h:Heap):Prop where
 at_:∀i b,qak h i=some b-> ∃L,m i=some L/\BlkAt w I m L b
 apart:∀i j a b L L',qak h i=some a->qak h j=some b->m i=some L->m j=some L'->L.blk=L'.blk->i=j
 old:∀b o,I b o->b<w.heap.size
 glob:GlobAt w I
def Owns(m:Names)(h:Heap)(b:Nat):Prop:=∃i a L,qak h i=some a/\m i=some L/\L.blk=b
end Go.Eng
namespace Go.Eng
mutual
def qpm:Value->Option AV
 | .bool b=>some (.bool b)
 | .int k n=>some (.int k n)
 | .string s=>some (.str s.data.toList)
 | .pointer none=>some .nilp
 | .slice none 0 0=>some (.nils 0)
 | .map none=>some .nilm
 | .nilFunc=>some .nilf
 | .nilIface=>some .nili
 | .agg ⟨vs⟩=>(qKQ vs).map .agg
 | .tuple ⟨vs⟩=>(qKQ vs).map .tup
 |_=>none
def qKQ:List Value->Option (List AV)
 | []=>some []
 |v::vs=>match qpm v,qKQ vs with
  |some x,some xs=>some (x::xs)
  |_,_=>none
end
mutual
theorem qpx{w:World}{I:Imm}{m:Names}:∀(v:Value) {x:AV},qpm v=some x->Rel w I x m v
 | .bool _,x,h=>by simp[qpm]at h;subst h;simp[Rel]
 | .int _ _,x,h=>by simp[qpm]at h;subst h;simp[Rel]
 | .string s,x,h=>by simp[qpm]at h;subst h;simp[Rel]
 | .pointer none,x,h=>by simp[qpm]at h;subst h;simp[Rel]
 | .pointer (some _),x,h=>by simp[qpm]at h
 | .slice none 0 0,x,h=>by simp[qpm]at h;subst h;simp only[Rel];exact qte.2 rfl
 | .slice none 0 (_+1),x,h=>by simp[qpm]at h
 | .slice none (_+1) _,x,h=>by simp[qpm]at h
 | .slice (some _) _ _,x,h=>by simp[qpm]at h
 | .map none,x,h=>by simp[qpm]at h;subst h;simp[Rel]
 | .map (some _),x,h=>by simp[qpm]at h
 | .nilFunc,x,h=>by simp[qpm]at h;subst h;simp[Rel]
 | .nilIface,x,h=>by simp[qpm]at h;subst h;simp[Rel]
 | .agg ⟨vs⟩,x,h=>by
  simp only[qpm,jA3]at h;obtain⟨xs,h,rfl⟩:=h;simp only[Rel];exact⟨vs,rfl,qt8 vs h⟩
 | .tuple ⟨vs⟩,x,h=>by
  simp only[qpm,jA3]at h;obtain⟨xs,h,rfl⟩:=h;simp only[Rel];exact⟨vs,rfl,qt8 vs h⟩
 | .float _ _,x,h=>by simp[qpm]at h
 | .complex _ _ _,x,h=>by simp[qpm]at h
 | .chan _,x,h=>by simp[qpm]at h
 | .func _ _ _,x,h=>by simp[qpm]at h
 | .iface _ _,x,h=>by simp[qpm]at h
theorem qt8{w:World}{I:Imm}{m:Names}:∀(vs:List Value) {xs:List AV},qKQ vs=some xs->qaQ w I xs m vs
 | [],xs,h=>by simp[qKQ]at h;subst h;simp[qaQ]
 |v::vs,xs,h=>by
  simp only[qKQ]at h;split at h
  ·rename_i x xs' h1 h2;simp at h;subst h;simp only[qaQ];exact⟨v,vs,rfl,qpx v h1,qt8 vs h2⟩
  ·simp at h
end
def qhS:Operand->Option Opd
 | .tmp t=>some (.t t)
 | .const v=>(qpm v).map .c
 | .func f=>some (.f f)
 | .global _=>none
def qxy:List Operand->Option (List Opd)
 | []=>some []
 |x::xs=>match qhS x,qxy xs with
  |some y,some ys=>some (y::ys)
  |_,_=>none
def zhT:Option Operand->Option (Option Opd)
 |none=>some none
 |some x=>match qhS x with
  |some y=>some (some y)
  |none=>none
section
variable (P:Program)
def qgn(t:TypeId):Option Nat:=(P.info? t).map (·.size)
def bytesOf(t:TypeId):Option Nat:=(P.info? t).map (·.bytes)
def qb1(t:TypeId):Option Bool:=(P.underlying t).map fun d=>match d with | .struct _ | .array _ _=>true|_=>false
def qK3(t:TypeId):Option TypeId:=match P.underlying t with
 |some (.slice e)=>some e
 |_=>none
def qmp(lv:TypeId->Option (List EK)):List Field->Nat->Option (List EK)
 | [],_=>some []
 |f::fs,off=>if f.name= "_" \/ f.offset≠off then none else match lv f.type with
  |some ks=>if qgn P f.type=some ks.length then(qmp lv fs (off+ks.length)).map (ks++ ·)else none
  |none=>none
def leaves:Nat->TypeId->Option (List EK)
 |0,_=>none
 |n+1,t=>match P.underlying t with
  |some .bool=>some [.b]
  |some (.int _)=>some [.i]
  |some .string=>some [.s]
  |some (.struct fs)=>if P.stoodInHeld t then none else qmp P (leaves n) fs.toList 0
  |_=>none
def zgZ(t:TypeId):Option Key:=match leaves P 20 t with
 |some ks=>(qb1 P t).map fun a=>(a,ks)
 |none=>none
def zs2(sh:TypeId->Option (List CS)):List Field->Nat->Option (List CS)
 | [],_=>some []
 |f::fs,off=>if f.offset=off then match sh f.type with
   |some cs=>match zs2 sh fs (off+cs.length)with
    |some r=>some (cs++r)
    |none=>none
   |none=>none
  else none
def shN(cs:List CS):Nat->List CS
 |0=>[]
 |n+1=>cs++shN cs n
def shC:Nat->TypeId->Option (List CS)
 |0,_=>none
 |n+1,t=>match P.underlying t with
  |some .bool=>some [.bool]
  |some (.int k)=>some [.int k]
  |some .string=>some [.str]
  |some (.slice e)=>(qgn P e).map fun k=>[.slice k]
  |some (.pointer e)=>(qgn P e).map fun k=>[.ptr k]
  |some (.struct fs)=>zs2 (shC n) fs.toList 0
  |some (.array k e)=>(shC n e).map fun cs=>shN cs k
  |_=>none
def zk8:CS->AV->AV
 | .slice k,.nils q=>.nils ⟨k,q.kd⟩
 |_,v=>v
def zg7:List CS->List AV->List AV
 |k::ks,c::cs=>zk8 k c::zg7 ks cs
 |_,cs=>cs
def zqC(ks:List CS):AV->AV
 | .agg cs=>.agg (zg7 ks cs)
 |v=>match ks with
  | [k]=>zk8 k v
  |_=>v
def csT(t:TypeId):List CS:=(shC P 12 t).getD []
def zeroOf(t:TypeId):Option AV:=(((P.info? t).bind (·.zero)).bind qpm).map (zqC (csT P t))
def qoO(place:Nat->Option (Nat×Nat)):List (Nat×Operand)->Option (List (Nat×Nat×Opd))
 | []=>some []
 |(i,x)::ps=>match place i,qhS x,qoO place ps with
  |some (off,n),some y,some qs=>some ((off,n,y)::qs)
  |_,_,_=>none
def qAO:List (Nat×Operand)->Option (List (Nat×Opd))
 | []=>some []
 |(i,x)::ps=>match qhS x,qAO ps with
  |some y,some qs=>some ((i,y)::qs)
  |_,_=>none
def qin(fs:Array Field)(i:Nat):Option (Nat×Nat):=match fs[i]? with
 |some f=>(qgn P f.type).map fun n=>(f.offset,n)
 |none=>none
def qvN:AV->Bool
 | .agg _=>true
 |_=>false
def qdd:Operand->Bool
 | .const (.pointer none) | .const (.slice none 0 0) | .const (.map none) | .const .nilFunc | .const .nilIface=>true
 |_=>false
def qyE:TypeDesc->Option NK
 | .slice _=>some .s
 | .map _ _=>some .m
 | .func _ _ _=>some .f
 | .pointer _=>some .p
 | .interface _=>some .i
 |_=>none
def cEq(neg:Bool)(op:BinOp)(t:TypeId)(x y:Operand)(a b:Opd):Option IOp:=
 match P.underlying t with
 |none=>none
 |some d=>match d with
  | .int _=>some (.bin op a b)
  | .string=>some (.bin op a b)
  | .bool=>some (.eqs (false,[.b]) neg a b)
  | .struct _=>match zgZ P t with
   |some ks=>if P.eqGuardType P.depth t=true then none else some (.eqs ks neg a b)
   |none=>none
  |d=>if qdd x=true\/qdd y=true then(qyE d).map fun k=>.eqn k neg a b else none
def zmU(op:BinOp)(t:TypeId)(x y:Operand):Option IOp:=
 match qhS x,qhS y with
 |some a,some b=>
  if op= .eql then cEq P false op t x y a b
  else if op= .neq then cEq P true op t x y a b
  else some (.bin op a b)
 |_,_=>none
def zmV(fn:Fn)(first:List Operand)(cap:List Operand):Option IOp:=match fn with
 | .func f=>if first.length=0 then(qxy cap).map (.mkf f)else none
 |_=>none
def zmX(t:TypeId)(x:Operand)(lo hi mx:Option Operand):Option IOp:=
 match mx with
 |some _=>none
 |none=>
 match P.underlying t,qhS x,zhT lo,zhT hi with
 |some (.slice e),some y,some l,some h=>(qgn P e).map fun n=>.slc n y l h
 |some .string,some y,some l,some h=>some (.slcs y l h)
 |_,_,_,_=>none
def qFT:TypeDesc->Option LK
 | .slice _=>some .l
 | .string=>some .s
 | .map _ _=>some .m
 |_=>none
def zhS(x:Operand)(t:TypeId):Option IOp:=match P.underlying t,qhS x with
 |some d,some y=>(qFT d).map fun k=>.len k y
 |_,_=>none
def zhQ(s x:Operand)(t u:TypeId):Option IOp:=match qK3 P t,qK3 P u,qhS s,qhS x with
 |some e,some _,some a,some b=>match qgn P e,bytesOf P e,zeroOf P e with
  |some sz,some by_,some z=>if 0<sz/\0<by_/\(qai z).length=sz/\qaW (qai z)=true then some (.app sz by_ a b)else none
  |_,_,_=>none
 |_,_,_,_=>none
def qmc(b:Builtin)(args:List Operand)(ts:List TypeId):Option IOp:=
 if b= .len then match args,ts with
  | [x],[t]=>zhS P x t
  |_,_=>none
 else if b= .append then match args,ts with
  | [s,x],[t,u]=>zhQ P s x t u
  |_,_=>none
 else if b= .delete then match args,ts with
  | [_,_],_::_=>none
  |_,_=>none
 else if b= .clear then match args,ts with
  | [_],[_]=>none
  |_,_=>none
 else if b= .max then(qxy args).map .mx
 else if b= .min then(qxy args).map .mn
 else if b= .panic then match args with
  | [x]=>(qhS x).map .pan
  |_=>none
 else none
def zuu:Option CS->Opd->Opd
 |some k,.c v=>.c (zk8 k v)
 |_,y=>y
def q4m:List (Option CS)->List Opd->List Opd
 |k::ks,y::ys=>zuu k y::q4m ks ys
 |_,ys=>ys
def zkB(t:TypeId):Option CS:=match P.underlying t with
 |some (.slice e)=>(qgn P e).map .slice
 |_=>none
def zuo(f:Nat):List (Option CS):=match P.funcs[f]? with
 |some F=>F.params.toList.map (zkB P)
 |none=>[]
def qD5(f:Operand)(args:List Operand):Option IOp:=match f with
 | .func f=>(qxy args).map fun ys=>.call f (q4m (zuo P f) ys)
 | .tmp t=>(qxy args).map (.callv (.t t))
 |_=>none
def znN(_:Operand)(_:String)(_:List Operand):Option IOp:=none
def qD4(c:Go.Call):Option IOp:=
 match c.callee with
 | .value f=>qD5 P f c.args.toList
 | .invoke r m=>znN r m c.args.toList
 | .builtin b=>qmc P b c.args.toList c.argTypes.toList
def zgw(mn:Nat->Option String):Operand->Option IOp
 | .tmp t=>match mn t with
  |some _=>none
  |none=>some (.nilck (.t t))
 |x=>(qhS x).map .nilck
def cOp(mn:Nat->Option String):Op->Option IOp
 | .move x | .assign x=>(qhS x).map .mov
 | .panic x=>(qhS x).map .pan
 | .pick c a b=>match qhS c,qhS a,qhS b with
  |some c,some a,some b=>some (.pick c a b)
  |_,_,_=>none
 | .alloc t=>match zeroOf P t with
  |some z=>if qaW (qai z)then some (.alloc z)else none
  |none=>none
 | .box t x=>match qgn P t,qhS x with
  |some n,some y=>some (.box n y)
  |_,_=>none
 | .build t ps=>match zeroOf P t,P.underlying t with
  |some z,some (.struct fs)=>if fs.all (fun f=>(qgn P f.type).isSome)=true/\qvN z=true then(qoO (qin P fs) ps.toList).map (.build (qai z))else none
  |some z,some (.array _ e)=>match qgn P e with
   |some n=>if qvN z=true then(qoO (fun i=>some (i*n,n)) ps.toList).map (.build (qai z))else none
   |none=>none
  |_,_=>none
 | .buildSlice t n ps=>match qK3 P t with
  |some e=>match qgn P e,zeroOf P e,qAO ps.toList with
   |some sz,some z,some qs=>if n*sz<=16777216/\0<sz/\(qai z).length=sz/\qaW (qai z)=true then some (.bslice sz z n qs)else none
   |_,_,_=>none
  |none=>none
 | .load t x=>match qgn P t,qb1 P t,qhS x with
  |some n,some a,some y=>if a=true\/n=1 then some (.load a n (csT P t) y)else none
  |_,_,_=>none
 | .store t x v=>match qgn P t,qhS x,qhS v with
  |some n,some a,some b=>some (.store n a b)
  |_,_,_=>none
 | .nilCheck x=>zgw mn x
 | .binOp op t x y _=>zmU P op t x y
 | .unOp op _ x=>(qhS x).map (.un op)
 | .convert s d x=>match P.underlying s,P.underlying d,qhS x with
  |some (.int _),some (.int k),some y=>some (.conv k y)
  |_,_,_=>none
 | .makeInterface t x=>match P.underlying t,qhS x with
  |some (.interface _),_=>none
  |some _,some y=>some (.mki t y)
  |_,_=>none
 | .makeFunc fn first cap=>zmV fn first.toList cap.toList
 | .makeSlice t l c=>match qK3 P t,qhS l,qhS c with
  |some e,some a,some b=>match qgn P e,bytesOf P e,zeroOf P e with
   |some sz,some by_,some z=>if 0<sz/\(qai z).length=sz/\qaW (qai z)=true then some (.mks sz by_ z a b)else none
   |_,_,_=>none
  |_,_,_=>none
 | .slice t x lo hi mx=>zmX P t x lo hi mx
 | .fieldAddr s x f=>match P.underlying s,qhS x with
  |some (.struct fs),some y=>match fs[f]? with
   |some fd=>match qgn P fd.type with
    |some n=>if n=0 then none else some (.faddr fd.offset y)
    |none=>none
   |none=>none
  |_,_=>none
 | .indexAddr t x i=>match P.underlying t,qhS x,qhS i with
  |some (.slice e),some y,some j=>(qgn P e).map fun n=>.iaddr n (csT P e) y j
  |some (.array k e),some y,some j=>(qgn P e).map fun n=>.aaddr k n y j
  |_,_,_=>none
 | .index t x i=>match P.underlying t,qhS x,qhS i with
  |some .string,some y,some j=>some (.idxs y j)
  |_,_,_=>none
 | .typeAssert x _ t ok=>match P.underlying t,zeroOf P t,qhS x with
  |some (.interface _),_,_=>none
  |some _,some z,some y=>some (.tass t z ok y)
  |_,_,_=>none
 | .extract x i=>(qhS x).map fun y=>.ext y i
 | .call c=>qD4 P c
 |_=>none
end
theorem qyY{w:World}{I:Imm}{m:Names}{k:CS}{x:AV}{v:Value}(h:Rel w I x m v):Rel w I (zk8 k x) m v:=by
 unfold zk8;split
 ·simpa only[Rel]using h
 ·exact h
theorem qKk{w:World}{I:Imm}{m:Names}:∀{ks:List CS} {xs:List AV} {vs:List Value},qaQ w I xs m vs->qaQ w I (zg7 ks xs) m vs
 | [],xs,vs,h=>by cases xs<;>simpa[zg7]using h
 |k::ks,[],vs,h=>by simpa[zg7]using h
 |k::ks,x::xs,vs,h=>by
  simp only[qaQ,zg7]at h ⊢;obtain⟨v,vs',he,h1,h2⟩:=h;exact⟨v,vs',he,qyY h1,qKk h2⟩
theorem qZG{w:World}{I:Imm}{m:Names}{ks:List CS}{x:AV}{v:Value}(h:Rel w I x m v):Rel w I (zqC ks x) m v:=by
 unfold zqC;split
 ·simp only[Rel]at h ⊢;obtain⟨vs,hv,h⟩:=h;exact⟨vs,hv,qKk h⟩
 ·split
  ·exact qyY h
  ·exact h
mutual
theorem qmC{w:World}{I:Imm}:∀(x:AV) {m:Names} {v:Value},Rel w I x m v->Rel w I (nz x) m v
 | .int ..,_,_,h=>h
 | .bool ..,_,_,h=>h
 | .str ..,_,_,h=>h
 | .nilp,_,_,h=>h
 | .nils _,_,_,h=>by
  simp only[Rel]at h;simp only[nz,Rel];obtain⟨b,cap,rfl,hz⟩:=qjB h;exact⟨b,cap,rfl,by simp,.inl rfl,hz⟩
 | .nilm,_,_,h=>h
 | .nilf,_,_,h=>h
 | .nili,_,_,h=>h
 | .agg cs,_,_,h=>by
  simp only[nz,Rel]at h ⊢;obtain⟨vs,hv,h⟩:=h;exact⟨vs,hv,qyX cs h⟩
 | .tup cs,_,_,h=>by
  simp only[nz,Rel]at h ⊢;obtain⟨vs,hv,h⟩:=h;exact⟨vs,hv,qyX cs h⟩
 | .view ..,_,_,h=>h
 | .ptr ..,_,_,h=>h
 | .own ..,_,_,h=>h
 | .ref ..,_,_,h=>h
 | .mref ..,_,_,h=>h
 | .fn f cs,_,_,h=>by
  simp only[nz,Rel]at h ⊢;obtain⟨vs,hv,h⟩:=h;exact⟨vs,hv,qyX cs h⟩
 | .iface t x,_,_,h=>by
  simp only[nz,Rel]at h ⊢;obtain⟨y,hv,h⟩:=h;exact⟨y,hv,qmC x h⟩
 | .junk,_,_,h=>h
theorem qyX{w:World}{I:Imm}:∀(xs:List AV) {m:Names} {vs:List Value},qaQ w I xs m vs->qaQ w I (nz.nzL xs) m vs
 | [],_,_,h=>h
 |x::xs,_,_,h=>by
  simp only[nz.nzL,qaQ]at h ⊢;obtain⟨v,vs',he,h1,h2⟩:=h;exact⟨v,vs',he,qmC x h1,qyX xs h2⟩
end
theorem qth:∀xs:List AV,(nz.nzL xs).length=xs.length
 | []=>rfl
 |x::xs=>by simp[nz.nzL,qth xs]
theorem qU4(x:AV):qbn (nz x)=qbn x:=by cases x<;>rfl
theorem q70:∀xs:List AV,qaW (nz.nzL xs)=qaW xs
 | []=>rfl
 |x::xs=>by simp[nz.nzL,qaW,qU4,q70 xs]
theorem q71(z:AV):(qai (nz z)).length=(qai z).length:=by
 cases z<;>simp[nz,qai,qth]
theorem zj1(z:AV):qaW (qai (nz z))=qaW (qai z):=by
 cases z<;>simp[nz,qai,q70,qaW,qbn]
mutual
theorem qU5:∀x:AV,idsA (nz x)=idsA x
 | .int .. | .bool .. | .str .. | .nilp | .nils _ | .nilm | .nilf | .nili | .view .. | .ptr .. | .own .. | .ref .. | .mref .. | .junk=>rfl
 | .agg cs=>by simp only[nz,idsA];exact qyH cs
 | .tup cs=>by simp only[nz,idsA];exact qyH cs
 | .fn f cs=>by simp only[nz,idsA];exact qyH cs
 | .iface t x=>by simp only[nz,idsA];exact qU5 x
theorem qyH:∀xs:List AV,idsA.idsL (nz.nzL xs)=idsA.idsL xs
 | []=>rfl
 |x::xs=>by simp only[nz.nzL,idsA.idsL,qU5 x,qyH xs]
end
def qle(w:World)(I:Imm)(m:Names)(e:Env)(a:Act):Prop:=∀t,Rel w I (qbV e t) m (a.tmps.getD t undef)
theorem qaU{w:World}{I:Imm}{m:Names}{e:Env}{a:Act}(ht:qle w I m e a){x:Operand}{y:Opd}(h:qhS x=some y):Rel w I (qbo e y) m (a.eval x):=by
 cases x with
 |tmp t=>simp[qhS]at h;subst h;exact ht t
 |const v=>
  simp only[qhS,jA3]at h;obtain⟨z,h,rfl⟩:=h;exact qpx v h
 |func f=>simp[qhS]at h;subst h;simp[qbo,Rel,Act.eval,qaQ,fnV]
 |global g=>simp[qhS]at h
theorem qhA{w:World}{I:Imm}{m:Names}{e:Env}{a:Act}(ht:qle w I m e a):∀{xs:List Operand} {ys:List Opd},qxy xs=some ys->qaQ w I (ys.map (qbo e)) m (xs.map a.eval)
 | [],ys,h=>by simp[qxy]at h;subst h;simp[qaQ]
 |x::xs,ys,h=>by
  simp only[qxy]at h;split at h
  ·rename_i y ys' h1 h2;simp at h;subst h;simp only[jAs,qaQ];exact⟨_,_,rfl,qaU ht h1,qhA ht h2⟩
  ·simp at h
theorem qwM{w:World}{I:Imm}{m:Names}{e:Env}:∀{ks:List (Option CS)} {ys:List Opd} {vs:List Value},qaQ w I (ys.map (qbo e)) m vs->qaQ w I ((q4m ks ys).map (qbo e)) m vs
 | [],[],vs,h=>h
 | [],_::_,vs,h=>h
 |_::_,[],vs,h=>h
 |k::ks,y::ys,vs,h=>by
  simp only[q4m,jAs,qaQ]at h ⊢;obtain⟨v,vs',hv,h1,h2⟩:=h;refine⟨v,vs',hv,?_,qwM h2⟩;cases k with
  |none=>exact h1
  |some k=>
   cases y with
   |c z=>exact qyY h1
   |t n=>exact h1
   |f n=>exact h1
end Go.Eng
namespace Go.Eng
set_option linter.unusedSectionVars false
variable [Globs]
theorem qry{α β:Type}{Q:Nat->α->β->Prop}:∀(cs:List α),(∀i c,cs[i]? = some c-> ∃u,Q i c u)-> ∃us:List β,us.length=cs.length/\ ∀i c u,cs[i]? = some c->us[i]? = some u->Q i c u:=by
 intro cs
 induction cs generalizing Q with
 |nil=>intro _;exact⟨[],rfl,by simp⟩
 |cons c cs ih=>
  intro h;obtain⟨u,hu⟩:=h 0 c rfl;obtain⟨us,hl,hq⟩:=ih (Q:=fun i c u=>Q (i+1) c u) fun i c hc=>h (i+1) c (by simpa using hc)
  refine⟨u::us,by simp[hl],fun i c' u' hc' hu'=>?_⟩;cases i with
  |zero=>simp at hc' hu';subst hc';subst hu';exact hu
  |succ i=>exact hq i c' u' (by simpa using hc') (by simpa using hu')
theorem qiN(b o n:Nat):(ad b o).add n=ad b (o+n):=Addr.add_lit b o n
def Cells(w:World)(I:Imm)(m:Names)(cs:List AV)(b o:Nat):Prop:=
 ∀(i:Nat) (c:AV),cs[i]? = some c-> ∃u,w.cell? (ad b (o+i))=some u/\Rel w I c m u
theorem zoq(m:Names):∀i L,m0 i=some L->m i=some L:=by intro i L h;simp[m0]at h
theorem qKl{w:World}{I:Imm}{m:Names}{x:AV}{v:Value}(h:Rel w I x m0 v):Rel w I x m v:=
 qaV (Stays.refl w I) (fun _ _ h=>h) x (zoq m) h
theorem Cells.drop{w:World}{I:Imm}{m:Names}{cs:List AV}{b o:Nat}(h:Cells w I m cs b o)(n:Nat):Cells w I m (cs.drop n) b (o+n):=by
 intro i c hc;rw[jBs]at hc;have:=h _ c hc;rwa[show o+(n+i)=o+n+i by omega]at this
theorem Cells.take{w:World}{I:Imm}{m:Names}{cs:List AV}{b o:Nat}(h:Cells w I m cs b o)(n:Nat):Cells w I m (cs.take n) b o:=by
 intro i c hc;rw[jCf]at hc;split at hc
 ·exact h i c hc
 ·cases hc
theorem At.cells{w:World}{I:Imm}{m:Names}{cs:List AV}{b o:Nat}(h:At w I cs b o):Cells w I m cs b o:=fun i c hc=>by
 obtain⟨_,_,u,hu,hr⟩:=h i c hc;exact⟨u,hu,qKl hr⟩
theorem qft{w:World}{b o:Nat}{C:Array Value}{e:TypeId}{fr:Nat×Nat}(h:w.heap[b]? = some (.cells C e fr)):w.cell? (ad b o)=C[o]?:=by
 simp[World.cell?,ad,h]
theorem qK4{w:World}{I:Imm}{m:Names}{es:List AV}{sz b o:Nat}(hs:∀e∈es,(qai e).length=sz)(h:Cells w I m (flat es) b o){i:Nat}{e:AV}(he:es[i]? = some e) :
  Cells w I m (qai e) b (o+i*sz):=by
 induction es generalizing o i with
 |nil=>simp at he
 |cons x es ih=>
  have hf:flat (x::es)=qai x++flat es:=rfl;have hx:(qai x).length=sz:=hs x (by simp);cases i with
  |zero=>
   simp at he;subst he;intro j c hc;have:=h j c (by rw[hf,jAu (jAg.1 hc).1];exact hc);simpa using this
  |succ i=>
   have h':=h.drop sz;rw[hf,<-hx,List.drop_left]at h';have:=ih (fun e he=>hs e (by simp[he])) h' (by simpa using he);rw[hx]at this;rwa[show o+(i+1)*sz=o+sz+i*sz by rw[jBe];omega]
theorem qR0{w:World}{I:Imm}{es:List AV}{sz b o:Nat}(hs:∀e∈es,(qai e).length=sz)(h:At w I (flat es) b o){i:Nat}{e:AV}(he:es[i]? = some e) :
  At w I (qai e) b (o+i*sz):=by
 induction es generalizing o i with
 |nil=>simp at he
 |cons x es ih=>
  have hf:flat (x::es)=qai x++flat es:=rfl;have hx:(qai x).length=sz:=hs x (by simp);rw[hf,qrt]at h;cases i with
  |zero=>simp at he;subst he;simpa using h.1
  |succ i=>
   have:=ih (fun e he=>hs e (by simp[he])) h.2 (by simpa using he);rw[hx]at this;rwa[show o+(i+1)*sz=o+sz+i*sz by rw[jBe];omega]
theorem qru{w:World}{I:Imm}{cs:List AV}{b o:Nat}(h:At w I cs b o)(n:Nat):At w I (cs.drop n) b (o+n):=by
 intro i c hc;rw[jBs]at hc;have:=h _ c hc;rwa[show o+(n+i)=o+n+i by omega]at this
theorem zaI{w:World}{I:Imm}{cs:List AV}{b o:Nat}(h:At w I cs b o)(n:Nat):At w I (cs.take n) b o:=by
 intro i c hc;rw[jCf]at hc;split at hc
 ·exact h i c hc
 ·cases hc
theorem qjq{sz:Nat}{es:List AV}(hs:∀e∈es,(qai e).length=sz)(n:Nat):flat (es.drop n)=(flat es).drop (n*sz):=by
 induction es generalizing n with
 |nil=>simp[flat]
 |cons x es ih=>
  cases n with
  |zero=>simp
  |succ n=>
   have hf:flat (x::es)=qai x++flat es:=rfl;have hx:(qai x).length=sz:=hs x (by simp);rw[List.drop_succ_cons,ih (fun e he=>hs e (by simp[he])),hf,show(n+1)*sz=(qai x).length+n*sz by rw[jBe,hx];omega,List.drop_append];simp
theorem qjr{sz:Nat}{es:List AV}(hs:∀e∈es,(qai e).length=sz)(n:Nat):flat (es.take n)=(flat es).take (n*sz):=by
 induction es generalizing n with
 |nil=>simp[flat]
 |cons x es ih=>
  cases n with
  |zero=>simp[flat]
  |succ n=>
   have hf:flat (x::es)=qai x++flat es:=rfl;have hx:(qai x).length=sz:=hs x (by simp);have hf2:flat (x::es.take n)=qai x++flat (es.take n):=rfl;rw[jCo,hf2,ih (fun e he=>hs e (by simp[he])),hf,show(n+1)*sz=(qai x).length+n*sz by rw[jBe,hx];omega,List.take_append];simp;exact(jBb (Nat.le_add_right _ _)).symm
theorem qmd{w:World}{I:Imm}{m:Names}{h:Heap}(H:HeapAt w I m h){x:AV}{v:Value}(hr:Rel w I x m v){cs:List AV}(hc:qrx h x=some cs) :
  ∃b o,v= .pointer (some (ad b o))/\Cells w I m cs b o:=by
 cases x<;>simp only[qrx]at hc<;>try(simp at hc;done)
 case ptr cs'=>
  simp at hc;subst hc;simp only[Rel]at hr;obtain⟨b,o,rfl,hr⟩:=hr;exact⟨b,o,rfl,(qcq.1 hr).cells⟩
 case ref id idx off=>
  simp only[Rel]at hr;obtain⟨L,hL,rfl⟩:=hr;cases hb:qak h id with
  |none=>simp[hb]at hc
  |some blk=>
   obtain⟨L',hL',hat⟩:=H.at_ id blk hb;rw[hL]at hL';cases hL';cases blk with
   |mp kvs=>simp[hb]at hc
   |box cs' fz=>
    simp[hb]at hc;obtain⟨⟨rfl,hoff⟩,rfl⟩:=hc;obtain⟨hn,hsz,C,e,hC,hsize,hcell,_⟩:=hat;refine⟨_,_,rfl,?_⟩;have:Cells w I m cs' L.blk L.base:=fun i c hc=>by
     obtain⟨u,hu,hr⟩:=hcell i c hc;exact⟨u,by rw[qft hC];exact hu,hr⟩
    have:=this.drop off;simpa using this
   |arr sz es fz=>
    obtain⟨hn,hsz,hs,C,e,hC,hsize,hcell,_⟩:=hat;simp only[hb]at hc;cases he:es[idx]? with
    |none=>simp[he]at hc
    |some e0=>
     simp[he]at hc;obtain⟨hoff,rfl⟩:=hc;refine⟨_,_,rfl,?_⟩;have h0:Cells w I m (flat es) L.blk L.base:=fun i c hc=>by
      obtain⟨u,hu,_,hr⟩:=hcell i c hc;exact⟨u,by rw[qft hC];exact hu,qKl hr⟩
     rw[hsz];exact(qK4 hs h0 he).drop off
theorem Cells.list{w:World}{I:Imm}{m:Names}{cs:List AV}{b o:Nat}(h:Cells w I m cs b o) :
  ∃us:List Value,us.length=cs.length/\(∀j u,us[j]? = some u->w.cell? ((ad b o).add j)=some u)/\qaQ w I cs m us:=by
 obtain⟨us,hl,hq⟩:=qry (Q:=fun i c u=>w.cell? (ad b (o+i))=some u/\Rel w I c m u) cs h;refine⟨us,hl,fun j u hu=>?_,qyW hl fun i c v hc hv=>(hq i c v hc hv).2⟩;have hj:j<cs.length:=by have:=(jAg.1 hu).1;omega
 rw[qiN];exact(hq j cs[j] u (by simp[hj]) hu).1
theorem qmr{P:Program}{w:World}{I:Imm}{m:Names}{t:TypeId}{n:Nat}{agg:Bool}(hn:qgn P t=some n)(ha:qb1 P t=some agg)(h1:agg=true\/n=1)
  {cs:List AV} {b o:Nat} (hc:Cells w I m cs b o) {v:AV} (hp:part agg n cs=some v):∃u,(loadVar t (ad b o)).run P w= .ok u w/\Rel w I v m u:=by
 simp only[qgn,jA3]at hn;obtain⟨ti,hti,rfl⟩:=hn;simp only[qb1,jA3]at ha;obtain⟨d,hd,hda⟩:=ha;have hagg:(Go.isAgg t).run P w= .ok agg w:=by
  unfold Go.isAgg;rw[Sem.run_bind,run_underlying hd w];subst hda;cases d<;>simp
 cases agg with
 |true=>
  simp only[part,jB2]at hp;split at hp
  ·rename_i hle;simp at hp;subst hp;obtain⟨us,hl,hcell,hrel⟩:=(hc.take ti.size).list;have hlen:us.length=ti.size:=by rw[hl];simp[hle]
   have hload:=run_loadCells_list (P:=P) w (ad b o) us hcell;rw[hlen]at hload;refine⟨.agg us.toArray,by simp[loadVar,hagg,Go.sizeOf,typeInfo,hti,hload],?_⟩;simp only[Rel];exact⟨us,rfl,hrel⟩
  ·cases hp
 |false=>
  have hn1:ti.size=1:=by simpa using h1
  simp only[part]at hp;simp at hp;have h0:cs[0]? = some v:=by cases cs<;>simp_all
  obtain⟨u,hu,hr⟩:=hc 0 v h0;refine⟨u,?_,hr⟩;simp only[Nat.add_zero]at hu;simp[loadVar,hagg,run_load,hu]
end Go.Eng
namespace Go.Eng
theorem qvy:∀{ks1 ks2:List EK} {xs ys:List AV} {b:Bool},qeh (ks1++ks2) xs ys=some b ->
  ∃b1 b2,qeh ks1 (xs.take ks1.length) (ys.take ks1.length)=some b1/\qeh ks2 (xs.drop ks1.length) (ys.drop ks1.length)=some b2/\b=(b1&&b2)
 | [],ks2,xs,ys,b,h=>⟨true,b,by simp[qeh],by simpa using h,by simp⟩
 |k::ks1,ks2,[],_,b,h=>by cases ks2<;>simp[qeh]at h
 |k::ks1,ks2,_::_,[],b,h=>by simp[qeh]at h
 |k::ks1,ks2,x::xs,y::ys,b,h=>by
  simp only[jAk,qeh]at h;split at h
  ·rename_i c d h1 h2;simp at h;subst h;obtain⟨b1,b2,e1,e2,rfl⟩:=qvy h2;exact⟨c&&b1,b2,by simp[qeh,h1,e1],by simpa using e2,by simp[Bool.and_assoc]⟩
  ·cases h
theorem qxI:∀{ks:List EK} {xs ys:List AV} {b:Bool},qeh ks xs ys=some b->xs.length=ks.length/\ys.length=ks.length
 | [],[],[],_,_=>by simp
 | [],_::_,_,_,h=>by simp[qeh]at h
 | [],[],_::_,_,h=>by simp[qeh]at h
 |k::ks,[],_,_,h=>by simp[qeh]at h
 |k::ks,_::_,[],_,h=>by simp[qeh]at h
 |k::ks,x::xs,y::ys,b,h=>by
  simp only[qeh]at h;split at h
  ·rename_i c d h1 h2;have:=qxI h2;simp[this]
  ·cases h
section
variable {P:Program} {w:World} {I:Imm} {m:Names}
theorem q3N{t:TypeId}{n:Nat}(hn:qgn P t=some n)(ha:qb1 P t=some true)(us:List Value)(off:Nat) :
  (Go.part t us.toArray off).run P w= .ok (.agg ((us.drop off).take n).toArray) w:=by
 simp only[qgn,jA3]at hn;obtain⟨ti,hti,rfl⟩:=hn;simp only[qb1,jA3]at ha;obtain⟨d,hd,hda⟩:=ha;have hagg:(Go.isAgg t).run P w= .ok true w:=by
  unfold Go.isAgg;rw[Sem.run_bind,run_underlying hd w];cases d<;>simp_all
 simp[Go.part,hagg,Go.sizeOf,typeInfo,hti,List.extract_eq_take_drop]
theorem q3O{t:TypeId}(ha:qb1 P t=some false)(us:List Value)(off:Nat)(u:Value)(hu:us[off]? = some u) :
  (Go.part t us.toArray off).run P w= .ok u w:=by
 simp only[qb1,jA3]at ha;obtain⟨d,hd,hda⟩:=ha;have hagg:(Go.isAgg t).run P w= .ok false w:=by
  unfold Go.isAgg;rw[Sem.run_bind,run_underlying hd w];cases d<;>simp_all
 simp[Go.part,hagg,hu]
def Is(P:Program)(t:TypeId)(us:List Value)(u:Value):Prop:=
 match qb1 P t with
 |some true=>u= .agg us.toArray
 |some false=>us= [u]
 |none=>False
theorem qkX:∀(n:Nat) {t:TypeId} {ks:List EK},leaves P n t=some ks-> ∀{xs ys:List AV} {us vs:List Value},qaQ w I xs m us->qaQ w I ys m vs ->
  ∀{b:Bool},qeh ks xs ys=some b-> ∀{u v:Value},Is P t us u->Is P t vs v-> ∀d,n<=d->(Op.equalIn d t u v).run P w= .ok b w
 |0,t,ks,h=>by simp[leaves]at h
 |n+1,t,ks,h=>by
  intro hx hy b hb u v hu hv d hd;rename_i xs ys us vs;obtain⟨d,rfl⟩:∃d',d=d'+1:=⟨d-1,by omega⟩;simp only[leaves]at h;have scalar:∀(k:EK) (D:TypeDesc),P.underlying t=some D->qb1 P t=some false->ks= [k] ->
    (∀x y c u v,eqK k x y=some c->Rel w I x m u->Rel w I y m v->(Op.equalIn (d+1) t u v).run P w= .ok c w)->(Op.equalIn (d+1) t u v).run P w= .ok b w:=by
   intro k D hD ha hk hh;subst hk;simp only[Is,ha]at hu hv;subst hu;subst hv
   match xs,ys,hb with
   | [x],[y],hb=>
    simp only[qeh]at hb;split at hb
    ·rename_i c d' h1 h2;simp at h2 hb;subst h2;subst hb;simp only[qaQ]at hx hy;obtain⟨u',_,he,hx,_⟩:=hx;obtain⟨v',_,he',hy,_⟩:=hy;simp at he he';obtain⟨rfl,_⟩:=he;obtain⟨rfl,_⟩:=he';simpa using hh _ _ _ _ _ h1 hx hy
    ·cases hb
   | [],_,hb=>simp[qeh]at hb
   | [_],[],hb=>simp[qeh]at hb
   | [_],_::_::_,hb=>simp[qeh]at hb
   |_::_::_,[],hb=>simp[qeh]at hb
   |_::_::_,_::_,hb=>simp[qeh]at hb
  cases hU:P.underlying t with
  |none=>simp[hU]at h
  |some D=>
   rw[hU]at h;cases D<;>simp only[jA7,reduceCtorEq]at h
   case bool=>
    refine scalar .b _ hU (by simp[qb1,hU]) h.symm fun x y c u v hc hx hy=>?_
    cases x<;>cases y<;>simp only[eqK,reduceCtorEq,jA7]at hc;simp only[Rel]at hx hy;subst hx;subst hy;subst hc;exact run_equalIn_bool' w d t _ _ hU
   case int kk=>
    refine scalar .i _ hU (by simp[qb1,hU]) h.symm fun x y c u v hc hx hy=>?_
    cases x<;>cases y<;>simp only[eqK,reduceCtorEq]at hc;simp only[Rel]at hx hy;subst hx;subst hy;split at hc
    ·simp at hc;subst hc;rename_i hk;subst hk;exact run_equalIn_int w d t _ _ _ _ hU
    ·cases hc
   case string=>
    refine scalar .s _ hU (by simp[qb1,hU]) h.symm fun x y c u v hc hx hy=>?_
    cases x<;>cases y<;>simp only[eqK,reduceCtorEq,jA7]at hc;simp only[Rel]at hx hy;subst hx;subst hy;subst hc;rw[run_equalIn_string w d t _ _ hU];simp
   case struct fs=>
    have hagg:qb1 P t=some true:=by simp[qb1,hU]
    simp only[Is,hagg]at hu hv;subst hu;subst hv;split at h
    ·cases h
    ·rename_i hp;have hfo:P.fieldsOf t=fs:=by simp[Program.fieldsOf,hU]
     rw[run_equalIn_struct w d t _ _ (by rw[hfo];exact hU) (by simpa using hp),hfo];have key:∀(fl:List Field) (off:Nat) (ks:List EK),qmp P (leaves P n) fl off=some ks-> ∀{b:Bool},qeh ks (xs.drop off) (ys.drop off)=some b ->
       (Op.eqFields d us.toArray vs.toArray fl).run P w= .ok b w:=by
      intro fl
      induction fl with
      |nil=>
       intro off ks hk b hb;simp[qmp]at hk;subst hk;have hl:=qxI hb;have:b=true:=by
        cases hxs:xs.drop off<;>cases hys:ys.drop off<;>simp[hxs,hys,qeh]at hb;exact hb
       subst this;simp[Op.eqFields]
      |cons f fl ih=>
       intro off ks hk b hb;simp only[qmp]at hk;split at hk
       ·cases hk
       ·rename_i hne;simp at hne;obtain⟨hname,hoff⟩:=hne;split at hk
        ·rename_i ks1 hks1;split at hk
         ·rename_i hsz;simp only[jA3]at hk;obtain⟨ks2,hks2,rfl⟩:=hk;obtain⟨b1,b2,e1,e2,rfl⟩:=qvy hb;have hag:∃a,qb1 P f.type=some a:=by
           cases n with
           |zero=>simp[leaves]at hks1
           |succ n=>
            simp only[leaves]at hks1;cases hq:P.underlying f.type with
            |none=>simp[hq]at hks1
            |some D=>exact⟨_,by simp[qb1,hq];rfl⟩
          obtain⟨a,ha⟩:=hag;have hx1:=qjI ks1.length (qjG off hx);have hy1:=qjI ks1.length (qjG off hy);have hpart:∀(zs:List AV) (qs:List Value),qaQ w I zs m qs->((zs.drop off).take ks1.length).length=ks1.length ->
            ∃q,(Go.part f.type qs.toArray off).run P w= .ok q w/\Is P f.type ((qs.drop off).take ks1.length) q:=by
           intro zs qs hz hlen;cases a with
           |true=>exact⟨_,q3N hsz ha qs off,by simp[Is,ha]⟩
           |false=>
            have h1:ks1.length=1:=by
             cases n with
             |zero=>simp[leaves]at hks1
             |succ n=>
              simp only[leaves]at hks1;cases hq:P.underlying f.type with
              |none=>simp[hq]at hks1
              |some D=>
               rw[hq]at hks1;simp only[qb1,hq,jBh,jA7]at ha;cases D<;>simp_all<;>subst hks1<;>rfl
            have hql:=qa7 hz;have:off<qs.length:=by
             rw[h1]at hlen;simp at hlen;omega
            refine⟨qs[off],q3O ha qs off _ (by simp[this]),?_⟩;have ht:(qs.drop off).take 1= [qs[off]]:=by rw[List.drop_eq_getElem_cons this];rfl
            simp only[Is,ha,h1,ht]
          have hl1:=qxI e1;obtain⟨q1,hq1,hi1⟩:=hpart xs us hx hl1.1;obtain⟨q2,hq2,hi2⟩:=hpart ys vs hy hl1.2;have heq:=qkX n hks1 hx1 hy1 e1 hi1 hi2 d (by omega);rw[List.drop_drop]at e2;rw[List.drop_drop]at e2;have hrest:=ih _ _ hks2 e2;simp only[Op.eqFields];rw[jAr (by simpa using hname),Sem.run_bind,hoff,hq1,Result.andThen_ok,Sem.run_bind,hq2,Result.andThen_ok,Sem.run_bind,heq,Result.andThen_ok];cases b1 with
          |true=>simpa using hrest
          |false=>simp
         ·cases hk
        ·cases hk
     exact key fs.toList 0 ks h (by simpa using hb)
end
end Go.Eng
namespace Go.Eng
section
variable {P:Program} {w:World} {I:Imm} {m:Names}
theorem qBn{t:TypeId}{ks:Key}(hk:zgZ P t=some ks){x:AV}{u:Value}{xs:List AV}(hx:(ks.1=true/\x= .agg xs)\/(ks.1=false/\xs= [x]))(hr:Rel w I x m u) :
  ∃us,qaQ w I xs m us/\Is P t us u/\leaves P 20 t=some ks.2:=by
 simp only[zgZ]at hk;split at hk
 ·rename_i l hl;simp only[jA3]at hk;obtain⟨a,ha,rfl⟩:=hk;rcases hx with⟨h1,rfl⟩|⟨h1,rfl⟩
  ·simp at h1;subst h1;simp only[Rel]at hr;obtain⟨us,rfl,hr⟩:=hr;exact⟨us,hr,by simp[Is,ha],hl⟩
  ·simp at h1;subst h1;exact⟨[u],by simp[qaQ,hr],by simp[Is,ha],hl⟩
 ·cases hk
theorem qsP{ks:Key}{x y:AV}{b:Bool}(h:qc5 ks x y=some b) :
  ∃xs ys,((ks.1=true/\x= .agg xs)\/(ks.1=false/\xs= [x]))/\((ks.1=true/\y= .agg ys)\/(ks.1=false/\ys= [y]))/\qeh ks.2 xs ys=some b:=by
 obtain⟨a,l⟩:=ks;cases a with
 |true=>
  cases x<;>cases y<;>simp only[qc5,reduceCtorEq]at h;exact⟨_,_,.inl ⟨rfl,rfl⟩,.inl ⟨rfl,rfl⟩,h⟩
 |false=>
  match l,h with
  | [k],h=>
   have h:eqK k x y=some b:=by cases x<;>cases y<;>exact h
   exact⟨_,_,.inr ⟨rfl,rfl⟩,.inr ⟨rfl,rfl⟩,by simp[qeh,h]⟩
  | [],h=>cases x<;>cases y<;>simp[qc5]at h
  |_::_::_,h=>cases x<;>cases y<;>simp[qc5]at h
theorem qFn{t:TypeId}{ks:Key}(hk:zgZ P t=some ks){x y:AV}{u v:Value}(hx:Rel w I x m u)(hy:Rel w I y m v){b:Bool}(h:qc5 ks x y=some b)(d:Nat)(hd:20<=d) :
  (Op.equalIn d t u v).run P w= .ok b w:=by
 obtain⟨xs,ys,h1,h2,h3⟩:=qsP h;obtain⟨us,hu,hi,hl⟩:=qBn hk h1 hx;obtain⟨vs,hv,hj,_⟩:=qBn hk h2 hy;exact qkX 20 hl hu hv h3 hi hj d hd
theorem size_mk(s:List UInt8):(ByteArray.mk s.toArray).size=s.length:=by simp[ByteArray.size]
theorem qRz{op:BinOp}{t:TypeId}{x y:AV}{u v:Value}(hx:Rel w I x m u)(hy:Rel w I y m v){z:AV}(h:zmT op x y=some z)(o1 o2:Operand) :
    ∃r,(do eqGuard op t o1 o2 u v;binOp op t u v).run P w= .ok r w/\Rel w I z m r:=by
  cases x<;>cases y<;>simp only[zmT,reduceCtorEq]at h
  case int.int k a k' b=>
    simp only[Rel,qvL]at hx hy;subst hx;subst hy;rw[eqGuard_at_int];cases op<;>simp only[]at h
    case shl=>
      split at h
      · rename_i hb
        simp at h;subst h;have hb':¬b<0:=by omega
        exact⟨_,by simp[binOp,Op.shift,hb'];rfl,by simp[Rel]⟩
      · cases h
    case shr=>
      split at h
      · rename_i hb
        simp at h;subst h;have hb':¬b<0:=by omega
        exact⟨_,by simp[binOp,Op.shift,hb'];rfl,by simp[Rel]⟩
      · cases h
    all_goals
      split at h
      · rename_i hk
        subst hk;simp only[znI,bits]at h
        first
          |(simp at h;subst h;exact⟨_,by simp[binOp,Op.intArith,Op.intCmp,Op.intBits];rfl,by simp[Rel]⟩)
          | (split at h
             · cases h
             · rename_i hb
               simp at h;subst h;exact⟨_,by simp[binOp,Op.intDiv,hb];rfl,by simp[Rel]⟩)
      · cases h
  case str.str a b=>
    simp only[Rel,qvL]at hx hy;subst hx;subst hy;rw[eqGuard_at_string];cases op<;>simp only[znJ,reduceCtorEq]at h
    case add=>
      split at h
      · rename_i hl
        simp at h;subst h;have hl':¬(9223372036854775807<(a.length:Int)+(b.length:Int)):=by omega
        refine⟨.string ⟨(a++b).toArray⟩,?_,by simp[Rel]⟩;simp[binOp,Op.stringOp,size_mk,hl'];apply ByteArray.ext;simp
      · cases h
    all_goals
      simp at h;subst h;exact⟨_,by simp[binOp,Op.stringOp];rfl,by simp[Rel,qbi,Bool.or_comm]⟩
theorem zhP{b:Nat}{x:Int}:((BitVec.ofInt b x).toNat:Int)=x%2^b:=by
 rw[BitVec.toNat_ofInt];have h:((2^b:Nat):Int)=2^b:=by simp
 have:(0:Int)<2^b:=Int.pow_pos (by decide);rw[h,Int.toNat_of_nonneg (Int.emod_nonneg _ (by omega))]
theorem q5y{k:IntKind}{n:Int}:k.wrap ((BitVec.ofInt k.bits (if k.signed then -1 else k.max) ^^^ BitVec.ofInt k.bits n).toNat:Int)=k.wrap (-1-n):=by
 have h:BitVec.ofInt k.bits (if k.signed then -1 else k.max)=BitVec.allOnes k.bits:=by cases k<;>decide
 have hb:0<(2:Int)^k.bits:=Int.pow_pos (by decide);have e:((BitVec.ofInt k.bits (if k.signed then -1 else k.max) ^^^ BitVec.ofInt k.bits n).toNat:Int)%2^k.bits=(-1-n)%2^k.bits:=by
  rw[h,BitVec.allOnes_xor,BitVec.toNat_not];have h1:=zhP (b:=k.bits) (x:=n);have h2:=(BitVec.ofInt k.bits n).isLt;have h3:((2^k.bits:Nat):Int)=2^k.bits:=by simp
  have h4:((2^k.bits-1-(BitVec.ofInt k.bits n).toNat:Nat):Int)=2^k.bits-1-n%2^k.bits:=by omega
  rw[h4];have h5:=Int.mul_ediv_add_emod n (2^k.bits);rw[show(2:Int)^k.bits-1-n%2^k.bits= -1-n+2^k.bits*(1+n / 2^k.bits) by rw[Int.mul_add];omega,Int.add_mul_emod_self_left]
 unfold IntKind.wrap;simp only[e]
theorem q4q{op:UnOp}{x:AV}{u:Value}(hx:Rel w I x m u){z:AV}(h:unA op x=some z) :
  ∃r,(Op.unary op u).run P w= .ok r w/\Rel w I z m r:=by
 cases x<;>simp only[unA,reduceCtorEq]at h
 case int k n=>
  simp only[Rel]at hx;subst hx;cases op<;>simp only[reduceCtorEq,jA7]at h
  ·subst h;exact⟨_,by simp[Op.unary,Op.intArith];rfl,by simp[Rel]⟩
  ·subst h;exact⟨.int k (k.wrap (-1-n)),by rw[<-q5y];simp[Op.unary,Op.intBits],by simp[Rel]⟩
 case bool b=>
  simp only[Rel]at hx;subst hx;cases op<;>simp only[reduceCtorEq,jA7]at h;subst h;exact⟨_,by simp[Op.unary];rfl,by simp[Rel]⟩
theorem qTd{op:BinOp}{t:TypeId}{u v:Value}{o1 o2:Operand}(hu:∀cs,u≠ .agg cs)(hc:qdd o1=true\/qdd o2=true) :
  (eqGuard op t o1 o2 u v).run P w= .ok () w:=by
 have h1:qdd o1=true-> ∃z,o1= .const z:=by
  intro h;cases o1<;>simp[qdd]at h;exact⟨_,rfl⟩
 have h2:qdd o2=true-> ∃z,o2= .const z:=by
  intro h;cases o2<;>simp[qdd]at h;exact⟨_,rfl⟩
 cases u<;>try(first
  |simp[eqGuard_at_bool]|simp[eqGuard_at_int]|simp[eqGuard_at_float]|simp[eqGuard_at_complex]|simp[eqGuard_at_string]|simp[eqGuard_at_pointer]
  |simp[eqGuard_at_slice]|simp[eqGuard_at_map]|simp[eqGuard_at_chan]|simp[eqGuard_at_func]|simp[eqGuard_at_nilFunc]|simp[eqGuard_at_iface]|simp[eqGuard_at_tuple]
  |exact absurd rfl (hu _))
 case nilIface=>
  cases v
  case nilIface=>
   rcases hc with h|h
   ·obtain⟨z,rfl⟩:=h1 h;simp[eqGuard_nil_constL]
   ·obtain⟨z,rfl⟩:=h2 h;simp[eqGuard_nil_constR]
  all_goals(cases op<;>simp[eqGuard])
theorem qUW{t:TypeId}{k:NK}{x y:AV}{u v:Value}(hx:Rel w I x m u)(hy:Rel w I y m v){a b:Bool}(ha:qeC k x=some a)(hb:qeC k y=some b) :
  (∀cs,u≠ .agg cs)/\ ∀op,(op= .eql\/op= .neq)->(binOp op t u v).run P w=((Op.equalIn 10000 t u v).run P w).andThen fun b w'=>.ok (.bool (if op= .neq then !b else b)) w':=by
 cases k<;>cases x<;>simp only[qeC,reduceCtorEq]at ha<;>cases y<;>simp only[qeC,reduceCtorEq]at hb<;>simp only[Rel,qvL]at hx hy
 all_goals
  first|subst hx|(obtain⟨_,_,_,rfl,_⟩:=hx)|(obtain⟨_,_,_,_,_,_,rfl,_⟩:=hx)|(obtain⟨_,_,rfl⟩:=hx)|(obtain⟨_,_,rfl,_⟩:=hx)|(obtain⟨_,rfl,_⟩:=hx)
  first|subst hy|(obtain⟨_,_,_,rfl,_⟩:=hy)|(obtain⟨_,_,_,_,_,_,rfl,_⟩:=hy)|(obtain⟨_,_,rfl⟩:=hy)|(obtain⟨_,_,rfl,_⟩:=hy)|(obtain⟨_,rfl,_⟩:=hy)
  refine⟨by simp,?_⟩;rintro op (rfl|rfl)<;>simp[binOp,Op.equal,Op.maxDepth]
theorem qCw{x:AV}{u:Value}(hx:Rel w I x m u){a:Bool}(ha:qeC .s x=some a):(a=true/\u= .slice none 0 0)\/(a=false/\ ∃q n c,u= .slice (some q) n c):=by
 cases x<;>simp only[qeC,reduceCtorEq]at ha
 case nils q=>
  obtain⟨sz,kd⟩:=q;cases kd<;>simp only[reduceCtorEq,jA7]at ha<;>subst ha
  ·simp only[Rel]at hx;exact .inl ⟨rfl,qte.1 hx⟩
  ·simp only[Rel]at hx;obtain⟨b,cap,rfl,_,_,h⟩:=hx;obtain⟨a,rfl⟩:=h rfl;exact .inr ⟨rfl,_,_,_,rfl⟩
 case view sz es=>
  split at ha
  ·cases ha
  ·rename_i hne;simp at ha;subst ha;simp only[Rel]at hx;obtain⟨ar,cap,rfl,_,hE,_⟩:=hx;obtain⟨b,o,rfl,_⟩:=hE.resolve_left hne;exact .inr ⟨rfl,_,_,_,rfl⟩
 case own id off lo=>
  simp at ha;subst ha;simp only[Rel]at hx;obtain⟨L,_,o,cap,C,e,rfl,_⟩:=hx;exact .inr ⟨rfl,_,_,_,rfl⟩
set_option maxHeartbeats 1000000 in
theorem qUV{t:TypeId}{d:TypeDesc}(ht:P.underlying t=some d){k:NK}(hk:qyE d=some k){x y:AV}{u v:Value}(hx:Rel w I x m u)(hy:Rel w I y m v){a b:Bool}
  (ha:qeC k x=some a) (hb:qeC k y=some b) (hab:(a||b)=true) (n:Nat):(Op.equalIn (n+1) t u v).run P w= .ok (a&&b) w:=by
 cases d<;>simp only[qyE,reduceCtorEq,jA7]at hk<;>subst hk
 case slice=>
  rcases qCw hx ha with⟨rfl,rfl⟩|⟨rfl,q,n1,c1,rfl⟩<;>rcases qCw hy hb with⟨rfl,rfl⟩|⟨rfl,q',n2,c2,rfl⟩<;>simp at hab <;>
   (simp only[Op.equalIn,Sem.run_bind,run_underlying ht,Result.andThen_ok];rfl)
 all_goals
  cases x<;>simp only[qeC,reduceCtorEq,jA7]at ha<;>subst ha<;>cases y<;>simp only[qeC,reduceCtorEq,jA7]at hb<;>subst hb <;>
   simp at hab<;>simp only[Rel,qvL]at hx hy
 all_goals
  first|subst hx|(obtain⟨_,_,_,rfl,_⟩:=hx)|(obtain⟨_,_,_,_,_,_,rfl,_⟩:=hx)|(obtain⟨_,_,rfl⟩:=hx)|(obtain⟨_,_,rfl,_⟩:=hx)|(obtain⟨_,rfl,_⟩:=hx)
  first|subst hy|(obtain⟨_,_,_,rfl,_⟩:=hy)|(obtain⟨_,_,_,_,_,_,rfl,_⟩:=hy)|(obtain⟨_,_,rfl⟩:=hy)|(obtain⟨_,_,rfl,_⟩:=hy)|(obtain⟨_,rfl,_⟩:=hy)
  simp only[Op.equalIn,Sem.run_bind,run_underlying ht,Result.andThen_ok];rfl
theorem qUX{neg:Bool}{t:TypeId}{d:TypeDesc}(ht:P.underlying t=some d){k:NK}(hk:qyE d=some k){x y:AV}{u v:Value}(hx:Rel w I x m u)(hy:Rel w I y m v){a b:Bool}
  (ha:qeC k x=some a) (hb:qeC k y=some b) (hab:(a||b)=true) :
  (binOp (if neg then .neq else .eql) t u v).run P w= .ok (.bool (if neg then !(a&&b)else a&&b)) w/\ ∀cs,u≠ .agg cs:=by
 have hE:=qUW (P:=P) (t:=t) hx hy ha hb;refine⟨?_,hE.1⟩;rw[hE.2 (if neg then .neq else .eql) (by cases neg<;>simp),qUV ht hk hx hy ha hb hab 9999];cases neg<;>simp
end
end Go.Eng
namespace Go.Eng
section
variable {P:Program} {w:World} {I:Imm} {m:Names}
theorem qcT{x:AV}{u:Value}(hr:Rel w I x m u)(hok:qaW (qai x)=true):qaQ w I (qai x) m u.cells.toList:=by
 cases x<;>simp only[qai,qaW,qbn,jBt,jAn]at hok ⊢
 case agg cs=>
  simp only[Rel]at hr;obtain⟨us,rfl,hr⟩:=hr;simpa[Value.cells]using hr
 all_goals
  have h1:u.cells= #[u]:=by
   simp only[Rel,qvL]at hr
   first
    |(subst hr;rfl)
    |(obtain⟨_,_,_,_,_,_,rfl,_⟩:=hr;rfl)
    |(obtain⟨_,_,_,_,_,_,_,rfl,_⟩:=hr;rfl)
    |(obtain⟨_,_,_,rfl,_⟩:=hr;rfl)
    |(obtain⟨_,_,rfl⟩:=hr;rfl)
    |(obtain⟨_,_,rfl,_⟩:=hr;rfl)
    |(obtain⟨_,rfl,_⟩:=hr;rfl)
    |(obtain⟨_,_,_,_,_,_,h,_⟩:=hr;rw[h];rfl)
  rw[h1];simp only[qaQ];exact⟨u,[],rfl,hr,rfl⟩
theorem qcx:∀{cs:List AV},qaW cs=true-> ∀c∈cs,qbn c=true
 | [],_,c,h=>by simp at h
 |d::cs,hk,c,h=>by
  simp only[qaW,jA1]at hk;rcases jAc.1 h with rfl|h
  ·exact hk.1
  ·exact qcx hk.2 c h
theorem qGb{x:AV}{u:Value}(hr:Rel w I x m u)(hok:qbn x=true):u.oneCell'=true:=by
 cases x<;>simp only[qbn,jAn]at hok<;>simp only[Rel,qvL]at hr <;>
  first
   |(subst hr;rfl)
   |(obtain⟨_,_,_,_,_,_,rfl,_⟩:=hr;rfl)
   |(obtain⟨_,_,_,rfl,_⟩:=hr;rfl)
   |(obtain⟨_,_,rfl⟩:=hr;rfl)
   |(obtain⟨_,_,rfl,_⟩:=hr;rfl)
   |(obtain⟨_,rfl,_⟩:=hr;rfl)
   |(obtain⟨_,_,_,_,_,_,h,_⟩:=hr;rw[h];rfl)
theorem qjH{cs:List AV}{us:List Value}(h:qaQ w I cs m us)(hok:qaW cs=true):∀u∈us,u.oneCell'=true:=by
 intro u hu;obtain⟨i,hi⟩:=List.mem_iff_getElem?.1 hu;have hlen:=qa7 h;have hlt:i<cs.length:=by have:=(jAg.1 hi).1;omega
 obtain⟨v,hv,hr⟩:=qcr h i cs[i] (by simp[hlt]);rw[hi]at hv;cases hv;exact qGb hr (qcx hok _ (by simp))
theorem qwU{cs vs:List AV}{us qs:List Value}(h:qaQ w I cs m us)(h':qaQ w I vs m qs)(off:Nat):qaQ w I (splice cs off vs) m (us.take off++qs++us.drop (off+qs.length)):=by
 unfold splice;rw[qa7 h'];exact qdX (qdX (qjI off h) h') (qjG _ h)
theorem foldl_set(cs:Array Value):∀(vs:List Value) (off j:Nat) (acc:Array Value),off+j+vs.length<=acc.size ->
  ((vs.zipIdx j).foldl (fun cs (c:Value×Nat)=>cs.setIfInBounds (off+c.2) c.1) acc)=(acc.toList.take (off+j)++vs++acc.toList.drop (off+j+vs.length)).toArray
 | [],off,j,acc,h=>by simp
 |v::vs,off,j,acc,h=>by
  simp only[List.zipIdx_cons,jC3];rw[foldl_set cs vs off (j+1) _ (by simp at h ⊢;omega)];have:=list_seg_step acc.toList (off+j) v vs (by simp at h ⊢;omega);simpa[Array.toList_setIfInBounds,jCn]using this
theorem qnD{e:Env}{a:Act}(ht:qle w I m e a){place:Nat->Option (Nat×Nat)}:∀{ps:List (Nat×Operand)} {qs:List (Nat×Nat×Opd)},qoO place ps=some qs ->
  ∀{cs:List AV} {us:List Value},qaQ w I cs m us-> ∀{cs':List AV},qFi cs (qs.map fun p=>(p.1,p.2.1,qbo e p.2.2))=some cs' ->
   ∃us':List Value,Instr.fill place us.toArray (ps.map fun p=>(p.1,a.eval p.2))=some us'.toArray/\qaQ w I cs' m us'
 | [],qs,h,cs,us,hr,cs',hf=>by
  simp[qoO]at h;subst h;simp[qFi]at hf;subst hf;exact⟨us,rfl,hr⟩
 |(i,x)::ps,qs,h,cs,us,hr,cs',hf=>by
  simp only[qoO]at h;split at h
  ·rename_i off n y qs' h1 h2 h3;simp at h;subst h;simp only[jAs,qFi]at hf;split at hf
   ·rename_i hc;obtain⟨hc1,hc2,hc3⟩:=hc;have hx:=qaU ht h2;have hcells:=qcT hx hc3;have hl1:=qa7 hcells;have hl2:=qa7 hr;have hsz:(a.eval x).cells.size=n:=by rw[<-hc1,<-hl1];simp
    have hnew:=qwU hr hcells off;obtain⟨us',hfill,hrel⟩:=qnD ht h3 hnew hf;refine⟨us',?_,hrel⟩;simp only[jAs,Instr.fill,h1];rw[jAm (by simp[hsz];omega)];have hfs:=foldl_set us.toArray (a.eval x).cells.toList off 0 us.toArray (by simp[hsz];omega);have hz:(a.eval x).cells.zipIdx=((a.eval x).cells.toList.zipIdx 0).toArray:=by
     rw[<-Array.toArray_toList (xs:=(a.eval x).cells.zipIdx)];simp
    rw[hz];simp only[List.foldl_toArray'];rw[hfs];simpa using hfill
   ·cases hf
  ·cases h
def Gives(P:Program)(w:World)(I:Imm)(m:Names)(s:Sem Next)(v:AV):Prop:=∃u,s.run P w= .ok (.value u) w/\Rel w I v m u
theorem qaO{s:Sem Value}{v:AV}{u:Value}(h:s.run P w= .ok u w)(hr:Rel w I v m u):Gives P w I m (do pure (.value (<- s))) v:=⟨u,by simp[h],hr⟩
theorem quH{t:TypeId}{n:Nat}(h:qgn P t=some n):∃i,P.info? t=some i/\i.size=n:=by
 simpa[qgn,jA3]using h
theorem run_sizeOf{t:TypeId}{n:Nat}(h:qgn P t=some n)(w:World):(Go.sizeOf t).run P w= .ok n w:=by
 obtain⟨i,hi,rfl⟩:=quH h;simp[Go.sizeOf,typeInfo,hi]
theorem qCT{t:TypeId}{z:AV}{i:TypeInfo}(hi:P.info? t=some i)(h:zeroOf P t=some z):∃v,i.zero=some v/\ ∀(w:World) (I:Imm) (m:Names),Rel w I z m v:=by
 simp only[zeroOf,hi,jA3,Option.bind_eq_some_iff]at h;obtain⟨y,⟨v,⟨i',he,hz⟩,hv⟩,rfl⟩:=h;cases he;exact⟨v,hz,fun _ _ _=>qZG (qpx v hv)⟩
theorem qhR{t:TypeId}{z:AV}(h:zeroOf P t=some z)(w:World):∃v,(zeroValue t).run P w= .ok v w/\ ∀(w:World) (I:Imm) (m:Names),Rel w I z m v:=by
 have h':=h;simp only[zeroOf,jA3,Option.bind_eq_some_iff]at h';obtain⟨y,⟨v,⟨i,hi,hz⟩,hv⟩,rfl⟩:=h';exact⟨v,by simp[zeroValue,typeInfo,hi,hz],fun _ _ _=>qZG (qpx v hv)⟩
theorem qu7{e:Env}{a:Act}(ht:qle w I m e a){t:TypeId}{z:AV}(hz:zeroOf P t=some z)(hag:qvN z=true){fs:Array Field}(hu:P.underlying t=some (.struct fs))
  (hall:fs.all (fun f=>(qgn P f.type).isSome)=true) {ps:Array (Nat×Operand)} {qs:List (Nat×Nat×Opd)} (hq:qoO (qin P fs) ps.toList=some qs)
  {cs:List AV} (hf:qFi (qai z) (qs.map fun p=>(p.1,p.2.1,qbo e p.2.2))=some cs) :
  Gives P w I m (do pure (.value (<- Instr.build t (ps.map fun(i,x)=>(i,a.eval x))))) (.agg cs):=by
 obtain⟨v,hv,hav⟩:=qhR hz w;have hr:Rel w I z m v:=hav _ _ _;obtain⟨zs,rfl⟩:∃zs,z= .agg zs:=by cases z<;>simp[qvN]at hag;exact⟨_,rfl⟩
 simp only[Rel]at hr;obtain⟨us,rfl,hr⟩:=hr;obtain⟨us',hfill,hrel⟩:=qnD ht hq hr hf;have hplaces:(fs.mapM fun f=>do pure (f.offset,<-Go.sizeOf f.type):Sem (Array (Nat×Nat))).run P w= .ok (fs.map fun f=>(f.offset,(qgn P f.type).getD 0)) w:=by
  have:∀l:List Field,(∀f∈l,(qgn P f.type).isSome=true)->(l.mapM fun f=>do pure (f.offset,<-Go.sizeOf f.type):Sem (List (Nat×Nat))).run P w= .ok (l.map fun f=>(f.offset,(qgn P f.type).getD 0)) w:=by
   intro l
   induction l with
   |nil=>intro _;simp
   |cons f l ih=>
    intro hl;obtain⟨n,hn⟩:=jCh.1 (hl f (by simp));have:=ih fun g hg=>hl g (by simp[hg])
    simp only[List.mapM_cons,Sem.run_bind,run_sizeOf hn,Result.andThen_ok,Sem.run_pure,this,jAs,hn,jC9]
  have h2:=this fs.toList (fun f hf=>by
   have:=Array.all_eq_true'.1 hall f (by simpa using hf);exact this)
  have h3:(fs.mapM fun f=>do pure (f.offset,<-Go.sizeOf f.type):Sem (Array (Nat×Nat)))=Functor.map List.toArray (fs.toList.mapM fun f=>do pure (f.offset,<-Go.sizeOf f.type)):=by
   rw[Array.mapM_eq_mapM_toList]
  rw[h3,Sem.run_map,h2];simp;apply Array.ext';simp
 refine qaO (u:=.agg us'.toArray) ?_ (by simp only[Rel];exact⟨us',rfl,hrel⟩);have hpl:(fun i=>(fs.map fun f=>(f.offset,(qgn P f.type).getD 0))[i]?)=qin P fs:=by
  funext i
  simp only[qin,Array.getElem?_map];cases hi:fs[i]? with
  |none=>simp
  |some f=>
   have:=Array.all_eq_true'.1 hall f (Array.mem_of_getElem? hi);obtain⟨n,hn⟩:=jCh.1 this;simp[hn]
 have hfl:Instr.fill (fun i=>(fs.map fun f=>(f.offset,(qgn P f.type).getD 0))[i]?) us.toArray (ps.map fun x=>(x.1,a.eval x.2)).toList=some us'.toArray:=by
  rw[hpl];simpa using hfill
 have hm:(ps.map fun(i,x)=>(i,a.eval x))=ps.map fun x=>(x.1,a.eval x.2):=rfl
 simp only[Instr.build,Sem.run_bind,hv,Result.andThen_ok,run_underlying hu,hplaces,Value.cells];rw[hm,hfl];rfl
theorem qxZ{e:Env}{a:Act}(ht:qle w I m e a){t et:TypeId}{z:AV}(hz:zeroOf P t=some z)(hag:qvN z=true){k n:Nat}(hu:P.underlying t=some (.array k et))(hn:qgn P et=some n)
  {ps:Array (Nat×Operand)} {qs:List (Nat×Nat×Opd)} (hq:qoO (fun i=>some (i*n,n)) ps.toList=some qs)
  {cs:List AV} (hf:qFi (qai z) (qs.map fun p=>(p.1,p.2.1,qbo e p.2.2))=some cs) :
  Gives P w I m (do pure (.value (<- Instr.build t (ps.map fun(i,x)=>(i,a.eval x))))) (.agg cs):=by
 obtain⟨v,hv,hav⟩:=qhR hz w;have hr:Rel w I z m v:=hav _ _ _;obtain⟨zs,rfl⟩:∃zs,z= .agg zs:=by cases z<;>simp[qvN]at hag;exact⟨_,rfl⟩
 simp only[Rel]at hr;obtain⟨us,rfl,hr⟩:=hr;obtain⟨us',hfill,hrel⟩:=qnD ht hq hr hf;refine qaO (u:=.agg us'.toArray) ?_ (by simp only[Rel];exact⟨us',rfl,hrel⟩);have hfl:Instr.fill (fun i=>some (i*n,n)) us.toArray (ps.map fun x=>(x.1,a.eval x.2)).toList=some us'.toArray:=by
  simpa using hfill
 have hm:(ps.map fun(i,x)=>(i,a.eval x))=ps.map fun x=>(x.1,a.eval x.2):=rfl
 simp only[Instr.build,Sem.run_bind,hv,Result.andThen_ok,run_underlying hu,run_sizeOf hn,Value.cells];rw[hm,hfl];rfl
end
end Go.Eng
namespace Go.Eng
set_option linter.unusedSectionVars false
variable [Globs]
section
variable {P:Program} {w:World} {I:Imm} {m:Names}
def qCW(w:World)(I:Imm)(m:Names):Option AV->Option Value->Prop
 |none,none=>True
 |some x,some v=>Rel w I x m v
 |_,_=>False
theorem qpw{e:Env}{a:Act}(ht:qle w I m e a){x:Option Operand}{y:Option Opd}(h:zhT x=some y):qCW w I m (qbR (qbo e) y) (x.map a.eval):=by
 cases x with
 |none=>simp[zhT]at h;subst h;simp[qbR,qCW]
 |some x=>
  simp only[zhT]at h;split at h
  ·rename_i y' h1;simp at h;subst h;simpa[qbR,qCW]using qaU ht h1
  ·cases h
theorem zdS{q:Nat}{lo:Option AV}{lo':Option Value}(hl:qCW w I m lo lo'){l u:Nat}(h:zdP q lo=some (l,u)) :
  u=q/\l<=u/\((lo'=none/\l=0)\/ ∃v,lo'=some v/\(Instr.sliceBound v q .sliceB).run P w= .ok l w):=by
 cases lo with
 |none=>
  simp[zdP]at h;obtain⟨rfl,rfl⟩:=h;cases lo' with
  |none=>simp
  |some v=>simp[qCW]at hl
 |some x=>
  cases lo' with
  |none=>simp[qCW]at hl
  |some v=>
   cases x<;>simp only[zdP,reduceCtorEq]at h;simp only[qCW,Rel]at hl;subst hl;split at h
   ·rename_i hi;simp at h;obtain⟨rfl,rfl⟩:=h;refine⟨rfl,by omega,.inr ⟨_,rfl,?_⟩⟩;simp[Instr.sliceBound,asIntOf,hi]
   ·cases h
theorem qj0{isSlice:Bool}{n c cap:Nat}(hn:n<=cap)(hc:c<=cap){lo hi:Option AV}{lo' hi':Option Value}(hl:qCW w I m lo lo')(hh:qCW w I m hi hi'){l u:Nat}(h:qgA n c lo hi=some (l,u)) :
  (Instr.sliceBounds isSlice n cap lo' hi' none).run P w= .ok (l,u,cap) w/\l<=u/\(u=n\/u<=c):=by
 simp only[qgA]at h;split at h
 ·cases h
 ·rename_i q hq;obtain⟨rfl,h1,h2⟩:=zdS (P:=P) hl h;have hhi:(u=n\/u<=c)/\((hi'=none/\u=n)\/ ∃v,hi'=some v/\(Instr.sliceBound v cap (if isSlice=true then BoundsCode.sliceAcap else BoundsCode.sliceAlen)).run P w= .ok u w):=by
   cases hi with
   |none=>
    simp[qMJ]at hq;subst hq;cases hi' with
    |none=>simp
    |some v=>simp[qCW]at hh
   |some x=>
    cases hi' with
    |none=>simp[qCW]at hh
    |some v=>
     cases x<;>simp only[qMJ,reduceCtorEq]at hq;simp only[qCW,Rel]at hh;subst hh;split at hq
     ·rename_i i hi;simp at hq;subst hq;refine⟨.inr (by omega),.inr ⟨_,rfl,?_⟩⟩;have h1:=hi.1;have h2:i<=(cap:Int):=by omega
      simp[Instr.sliceBound,asIntOf,h1,h2]
     ·cases hq
  refine⟨?_,h1,hhi.1⟩;rcases hhi.2 with⟨rfl,rfl⟩|⟨v,rfl,hv⟩<;>rcases h2 with⟨rfl,rfl⟩|⟨v',rfl,hv'⟩
  ·simp only[Instr.sliceBounds,Sem.run_bind,Sem.run_pure,Result.andThen_ok]
  ·simp only[Instr.sliceBounds,Sem.run_bind,Sem.run_pure,Result.andThen_ok,Option.isSome,jAn,jBg,hv']
  ·simp only[Instr.sliceBounds,Sem.run_bind,Sem.run_pure,Result.andThen_ok,hv]
  ·simp only[Instr.sliceBounds,Sem.run_bind,Sem.run_pure,Result.andThen_ok,Option.isSome,jAn,jBg,hv,hv']
theorem qwL{sz:Nat}{es:List AV}{b o:Nat}(h:qDt w I sz es b o)(l n:Nat):qDt w I sz ((es.drop l).take n) b (o+l*sz):=by
 rw[qko]at h ⊢;obtain⟨hs,hat⟩:=h;have hs':∀e∈es.drop l,(qai e).length=sz:=fun e he=>hs e (jBn he)
 refine⟨fun e he=>hs' e (jC1 he),?_⟩;rw[qjr hs',qjq hs];exact zaI (qru hat _) _
theorem qjM{t et:TypeId}{sz:Nat}(hu:P.underlying t=some (.slice et))(hsz:qgn P et=some sz){a:Option Addr}{len cap l u:Nat}{lo hi:Option Value}
  (hb:(Instr.sliceBounds true len cap lo hi none).run P w= .ok (l,u,cap) w) :
  (Instr.sliceAt t (.slice a len cap) lo hi none).run P w= .ok (.slice (if cap=l then a else a.map (·.add (l*sz))) (u-l) (cap-l)) w:=by
 simp[Instr.sliceAt,Instr.slice,run_underlying hu,hb,run_sizeOf hsz]
theorem zog{h:Heap}(H:HeapAt w I m h){t et:TypeId}{sz:Nat}(hu:P.underlying t=some (.slice et))(hsz:qgn P et=some sz){x:AV}{v:Value}(hr:Rel w I x m v)
  {lo hi:Option AV} {lo' hi':Option Value} (hl:qCW w I m lo lo') (hh:qCW w I m hi hi') {z:AV}
  (hz:(∃ q,x = .nils q /\ z = .nils q /\ ∃ p,qgA 0 0 lo hi = some p) \/
   (∃es l u,x= .view sz es/\qgA es.length es.length lo hi=some (l,u)/\z= .view sz ((es.drop l).take (u-l))) \/
   (∃id off lo' es fz l u lo2,x= .own id off lo'/\qak h id=some (.arr sz es fz)/\qgA (qmq es.length off lo') (es.length-off) lo hi=some (l,u)/\off+u<=es.length/\(lo2=some (u-l)\/lo2=none/\lo'=none/\u=es.length-off)/\z= .own id (off+l) lo2)) :
  Gives P w I m (do pure (.value (<- Instr.sliceAt t v lo' hi' none))) z:=by
 rcases hz with⟨q,rfl,rfl,⟨l,u⟩,hb⟩|⟨es,l,u,rfl,hb,rfl⟩|⟨id,off,lo',es,fz,l,u,lo2,rfl,hlk,hb,hle,hlo2,rfl⟩
 ·simp only[Rel]at hr;obtain⟨b,cap,rfl,g1,g2,g3⟩:=hr;obtain⟨hrun,h1,h2⟩:=qj0 (P:=P) (isSlice:=true) (jBa cap) (jBa cap) hl hh hb;have hu0:u=0:=by omega
  have hl0:l=0:=by omega
  subst hu0;subst hl0;refine qaO (qjM hu hsz hrun) ?_;simp only[Rel];refine⟨_,_,rfl,fun h=>by simp[g1 h],fun h=>?_,fun h=>?_⟩
  ·rw[g2 h];simp
  ·obtain⟨a,rfl⟩:=g3 h;split<;>exact⟨_,rfl⟩
 ·simp only[Rel]at hr;obtain⟨ar,cap,rfl,hcap,hE,hzc⟩:=hr;obtain⟨hrun,h1,h2⟩:=qj0 (P:=P) (isSlice:=true) hcap hcap hl hh hb;have hul:u<=es.length:=by omega
  refine qaO (qjM hu hsz hrun) ?_;simp only[Rel];by_cases hcl:cap=l
  ·refine⟨ar,cap-l,?_,?_,.inl ?_,fun _=>by omega⟩
   ·simp[hcl];omega
   ·simp;omega
   ·have:u-l=0:=by omega
    rw[this];simp
  ·rcases hE with he|⟨b,o,rfl,hE⟩
   ·refine⟨ar.map (·.add (l*sz)),cap-l,?_,?_,.inl (by simp;omega),fun hn=>by have:=hzc (by simpa using hn);omega⟩
    ·simp[hcl];omega
    ·simp;omega
   ·refine⟨some (ad b (o+l*sz)),cap-l,?_,?_,.inr ⟨b,_,rfl,qwL hE l _⟩,fun hn=>by cases hn⟩
    ·simp[hcl,qiN];omega
    ·simp;omega
 ·simp only[Rel]at hr;obtain⟨L,hL,o,cap,C,e,rfl,hcap,ho,hnum,hC,hsize⟩:=hr;obtain⟨L',hL',hat⟩:=H.at_ id _ hlk;rw[hL]at hL';cases hL';obtain⟨hn,hs,_⟩:=hat;rw[hn]at hcap;obtain⟨hrun,h1,h2⟩:=qj0 (P:=P) (isSlice:=true) hcap (show es.length-off<=cap by omega) hl hh hb;rw[hn];refine qaO (qjM hu hsz hrun) ?_;simp only[Rel];refine⟨L,hL,?_⟩;have hlen2:qmq L.num (off+l) lo2=u-l:=by
   rcases hlo2 with rfl|⟨rfl,rfl,hu2⟩
   ·rfl
   ·rw[qea,hn];omega
  rw[hlen2];have hucap:u<=cap:=by omega
  by_cases hcl:cap=l
  ·refine⟨o,0,C,e,?_,?_,?_,?_,hC,?_⟩
   ·simp[hcl]
   ·omega
   ·intro h;exact absurd rfl h
   ·omega
   ·have:(off+l+0)=off+cap:=by omega
    rw[this];exact hsize
  ·have hc0:cap≠0:=by omega
   refine⟨o+l*sz,cap-l,C,e,?_,?_,?_,?_,hC,?_⟩
   ·simp[hcl,qiN]
   ·omega
   ·intro _;rw[ho hc0,hs,jBe];omega
   ·omega
   ·have:(off+l+(cap-l))=off+cap:=by omega
    rw[this];exact hsize
theorem zju{t:TypeId}(hu:P.underlying t=some .string){s:List UInt8}{v:Value}(hr:Rel w I (.str s) m v)
  {lo hi:Option AV} {lo' hi':Option Value} (hl:qCW w I m lo lo') (hh:qCW w I m hi hi') {l u:Nat} (hb:qgA s.length s.length lo hi=some (l,u)) :
  Gives P w I m (do pure (.value (<- Instr.sliceAt t v lo' hi' none))) (.str ((s.drop l).take (u-l))):=by
 simp only[Rel]at hr;subst hr;obtain⟨hrun,h1,h2⟩:=qj0 (P:=P) (isSlice:=false) (jAj _) (jAj _) hl hh hb;refine qaO (u:=.string ((⟨s.toArray⟩:ByteArray).extract l u)) ?_ ?_
 ·simp[Instr.sliceAt,Instr.slice,run_underlying hu,size_mk,hrun]
 ·simp only[Rel,Value.string.injEq];apply ByteArray.ext;simp[ByteArray.data_extract,List.extract_eq_take_drop]
theorem zdt{h:Heap}(H:HeapAt w I m h){s:TypeId}{fs:Array Field}(hu:P.underlying s=some (.struct fs)){f:Nat}{fd:Field}(hf:fs[f]? = some fd){n:Nat}(hn:qgn P fd.type=some n)(hn0:n≠0)
  {x:AV} {v:Value} (hr:Rel w I x m v) {z:AV}
  (hz:(∃cs,x= .ptr cs/\fd.offset<=cs.length/\z= .ptr (cs.drop fd.offset))\/(∃id idx o,x= .ref id idx o/\z= .ref id idx (o+fd.offset))) :
  Gives P w I m (do pure (.value (<- Instr.fieldAt s v f))) z:=by
 have hfp:∀b o,(fieldPlace (ad b o) fd).run P w= .ok (ad b (o+fd.offset)) w:=by
  intro b o;simp[fieldPlace,run_sizeOf hn,hn0,qiN]
 rcases hz with⟨cs,rfl,hle,rfl⟩|⟨id,idx,o,rfl,rfl⟩
 ·simp only[Rel]at hr;obtain⟨b,o,rfl,hC⟩:=hr;refine qaO (u:=.pointer (some (ad b (o+fd.offset)))) ?_ ?_
  ·simp[Instr.fieldAt,run_underlying hu,hf,Instr.sureAddr,hfp]
  ·simp only[Rel];exact⟨b,_,rfl,qcq.2 (qru (qcq.1 hC) _)⟩
 ·simp only[Rel]at hr;obtain⟨L,hL,rfl⟩:=hr;refine qaO (u:=.pointer (some (ad L.blk (L.base+idx*L.sz+o+fd.offset)))) ?_ ?_
  ·simp[Instr.fieldAt,run_underlying hu,hf,Instr.sureAddr,hfp]
  ·simp only[Rel];exact⟨L,hL,by simp[jCn]⟩
theorem qTc{h:Heap}(H:HeapAt w I m h){t et:TypeId}{sz:Nat}(hu:P.underlying t=some (.slice et))(hsz:qgn P et=some sz){x:AV}{v:Value}(hr:Rel w I x m v){k:IntKind}{i:Int}{z:AV}
  (hz:(∃ es e,x = .view sz es /\ qgU es i = some e /\ z = .ptr (qai e)) \/
   (∃id off len es fz,x= .own id off len/\qak h id=some (.arr sz es fz)/\0<=i/\i<qmq es.length off len/\off+i.toNat<es.length/\z= .ref id (off+i.toNat) 0)) :
  Gives P w I m (do pure (.value (<- Instr.indexAt t v (.int k i)))) z:=by
 rcases hz with⟨es,e,rfl,hat,rfl⟩|⟨id,off,len,es,fz,rfl,hlk,h0,h1,h2,rfl⟩
 ·simp only[Rel]at hr;obtain⟨ar,cap,rfl,hcap,hE,hzc⟩:=hr;simp only[qgU]at hat;split at hat
  ·rename_i h0;have hlt:i.toNat<es.length:=(jAg.1 hat).1;have hE':∃b o,ar=some (ad b o)/\qDt w I sz es b o:=hE.resolve_left (by omega);obtain⟨b,o,rfl,hE2⟩:=hE';have h1:i<(es.length:Int):=by omega
   obtain⟨hs,hA⟩:=qko.1 hE2;refine qaO (u:=.pointer (some (ad b (o+i.toNat*sz)))) ?_ ?_
   ·simp[Instr.indexAt,asIntOf,run_underlying hu,h0,h1,run_sizeOf hsz,qiN]
   ·simp only[Rel];exact⟨b,_,rfl,qcq.2 (qR0 hs hA hat)⟩
  ·cases hat
 ·simp only[Rel]at hr;obtain⟨L,hL,o,cap,C,e,rfl,hcap,ho,hnum,hC,hsize⟩:=hr;obtain⟨L',hL',hat⟩:=H.at_ id _ hlk;rw[hL]at hL';cases hL';obtain⟨hn,hs,_⟩:=hat;rw[hn]at hcap;rw[<-hn]at h1;have hc0:cap≠0:=by rw[hn]at h1;omega
  refine qaO (u:=.pointer (some (ad L.blk (o+i.toNat*sz)))) ?_ ?_
  ·simp[Instr.indexAt,asIntOf,run_underlying hu,h0,h1,run_sizeOf hsz,qiN]
  ·simp only[Rel];refine⟨L,hL,?_⟩;rw[ho hc0,hs,jBe];simp[jCn]
theorem qTa{t et:TypeId}{n sz:Nat}(hu:P.underlying t=some (.array n et))(hsz:qgn P et=some sz){x:AV}{v:Value}(hr:Rel w I x m v){k:IntKind}{i:Int}(h0:0<=i)(h1:i<n){z:AV}
  (hz:(∃cs,x= .ptr cs/\i.toNat*sz<=cs.length/\z= .ptr (cs.drop (i.toNat*sz)))\/(∃id idx o,x= .ref id idx o/\z= .ref id idx (o+i.toNat*sz))) :
  Gives P w I m (do pure (.value (<- Instr.indexAt t v (.int k i)))) z:=by
 rcases hz with⟨cs,rfl,hle,rfl⟩|⟨id,idx,o,rfl,rfl⟩
 ·simp only[Rel]at hr;obtain⟨b,o,rfl,hC⟩:=hr;refine qaO (u:=.pointer (some (ad b (o+i.toNat*sz)))) ?_ ?_
  ·simp[Instr.indexAt,asIntOf,run_underlying hu,Instr.sureAddr,h0,h1,run_sizeOf hsz,qiN]
  ·simp only[Rel];exact⟨b,_,rfl,qcq.2 (qru (qcq.1 hC) _)⟩
 ·simp only[Rel]at hr;obtain⟨L,hL,rfl⟩:=hr;refine qaO (u:=.pointer (some (ad L.blk (L.base+idx*L.sz+o+i.toNat*sz)))) ?_ ?_
  ·simp[Instr.indexAt,asIntOf,run_underlying hu,Instr.sureAddr,h0,h1,run_sizeOf hsz,qiN]
  ·simp only[Rel];exact⟨L,hL,by simp[jCn]⟩
theorem zjt{t:TypeId}(hu:P.underlying t=some .string){s:List UInt8}{v:Value}(hr:Rel w I (.str s) m v){k:IntKind}{i:Int}{b:UInt8}(hb:qgU s i=some b) :
  Gives P w I m (do pure (.value (<- Instr.index t v (.int k i)))) (.int .u8 b.toNat):=by
 simp only[Rel]at hr;subst hr;simp only[qgU]at hb;split at hb
 ·rename_i h0;have hlt:i.toNat<s.length:=(jAg.1 hb).1;have hi:0<=i/\i<((⟨s.toArray⟩:ByteArray).size:Int):=by rw[size_mk];omega
  refine qaO (u:=.int .u8 b.toNat) ?_ (by simp[Rel]);rw[run_index_string w t _ k i hu,dif_pos hi];have:((⟨s.toArray⟩:ByteArray)[i.toNat]'(by omega))=b:=by
   have:=(jAg.1 hb).2;rw[<-this];rfl
  rw[this]
 ·cases hb
theorem zjv{t:TypeId}{d:TypeDesc}(hd:P.underlying t=some d)(hni:∀ms,d≠ .interface ms){z0:AV}(hz0:zeroOf P t=some z0){xt:TypeId}{ok:Bool}{x:AV}{v:Value}(hr:Rel w I x m v){z:AV}
  (hz:(∃u y,x= .iface u y/\((u=t/\z=if ok then .tup [y,.bool true]else y)\/(u≠t/\ok=true/\z= .tup [z0,.bool false])))\/(x= .nili/\ok=true/\z= .tup [z0,.bool false])) :
  Gives P w I m (do pure (.value (<- Instr.typeAssert v xt t ok))) z:=by
 obtain⟨zv,hzv,hav⟩:=qhR hz0 w;have hzr:Rel w I z0 m zv:=hav _ _ _;have hfail:Rel w I (.tup [z0,.bool false]) m (.tuple #[zv,.bool false]):=by
  simp only[Rel];exact⟨[zv,.bool false],rfl,by simp[qaQ,Rel,hzr]⟩
 rcases hz with⟨u,y,rfl,hz⟩|⟨rfl,hok,rfl⟩
 ·simp only[Rel]at hr;obtain⟨yv,rfl,hr⟩:=hr;rcases hz with⟨rfl,rfl⟩|⟨hne,hok,rfl⟩
  ·cases ok
   ·exact qaO (u:=yv) (by cases d<;>simp_all[Instr.typeAssert,run_underlying hd]) (by simpa using hr)
   ·refine qaO (u:=.tuple #[yv,.bool true]) (by cases d<;>simp_all[Instr.typeAssert,run_underlying hd]) ?_;simp only[jB2,Rel];exact⟨[yv,.bool true],rfl,by simp[qaQ,Rel,hr]⟩
  ·subst hok;exact qaO (u:=.tuple #[zv,.bool false]) (by cases d<;>simp_all[Instr.typeAssert,run_underlying hd]) hfail
 ·simp only[Rel]at hr;subst hr;subst hok;exact qaO (u:=.tuple #[zv,.bool false]) (by cases d<;>simp_all[Instr.typeAssert,run_underlying hd]) hfail
theorem zoc{vs:List AV}{v:Value}(hr:Rel w I (.tup vs) m v){i:Nat}{z:AV}(hz:vs[i]? = some z):Gives P w I m (do pure (.value (<- Instr.extract v i))) z:=by
 simp only[Rel]at hr;obtain⟨us,rfl,hr⟩:=hr;obtain⟨u,hu,hr'⟩:=qcr hr i z hz;exact qaO (u:=u) (by simp[Instr.extract,hu]) hr'
theorem qTb{g:AV->AV->Option AV}{G:Value->Value->Sem Value}(hG:∀x y z u v,g x y=some z->Rel w I x m u->Rel w I y m v-> ∃r,(G u v).run P w= .ok r w/\Rel w I z m r) :
  ∀{ys:List AV} {vs:List Value},qaQ w I ys m vs-> ∀{x z:AV} {u:Value},Rel w I x m u->qBk g x ys=some z-> ∃r,(vs.foldlM G u).run P w= .ok r w/\Rel w I z m r
 | [],vs,h,x,z,u,hx,hf=>by
  simp only[qaQ]at h;subst h;simp[qBk]at hf;subst hf;exact⟨u,by simp,hx⟩
 |y::ys,vs,h,x,z,u,hx,hf=>by
  simp only[qaQ]at h;obtain⟨v,vs',rfl,hy,h⟩:=h;simp only[qBk]at hf;split at hf
  ·rename_i q hq;obtain⟨r,hr,hrel⟩:=hG _ _ _ _ _ hq hx hy;obtain⟨r',hr',hrel'⟩:=qTb hG h hrel hf;exact⟨r',by simp[hr,hr'],hrel'⟩
  ·cases hf
theorem zoe{xs:List AV}{vs:List Value}(h:qaQ w I xs m vs){z x:AV}{ys:List AV}(hx:xs=x::ys)(hf:qBk zos x ys=some z)(ts:Array TypeId)(t:TypeId) :
  Gives P w I m (do pure (.value (<- Builtin.max_ ts t vs.toArray))) z:=by
 subst hx;simp only[qaQ]at h;obtain⟨v,vs',rfl,hx,h⟩:=h;obtain⟨r,hr,hrel⟩:=qTb (P:=P) (G:=Builtin.max2) (fun x y z u v hz hx hy=>by
  cases x<;>cases y<;>simp only[zos,reduceCtorEq]at hz;simp only[Rel]at hx hy;subst hx;subst hy;split at hz
  ·simp at hz;subst hz;exact⟨_,by simp[Builtin.max2];rfl,by simp[Rel]⟩
  ·cases hz) h hx hf
 exact qaO (u:=r) (by simp[Builtin.max_,hr]) hrel
theorem zof{xs:List AV}{vs:List Value}(h:qaQ w I xs m vs){z x:AV}{ys:List AV}(hx:xs=x::ys)(hf:qBk zou x ys=some z)(ts:Array TypeId)(t:TypeId) :
  Gives P w I m (do pure (.value (<- Builtin.min_ ts t vs.toArray))) z:=by
 subst hx;simp only[qaQ]at h;obtain⟨v,vs',rfl,hx,h⟩:=h;obtain⟨r,hr,hrel⟩:=qTb (P:=P) (G:=Builtin.min2) (fun x y z u v hz hx hy=>by
  cases x<;>cases y<;>simp only[zou,reduceCtorEq]at hz;simp only[Rel]at hx hy;subst hx;subst hy;split at hz
  ·simp at hz;subst hz;exact⟨_,by simp[Builtin.min2];rfl,by simp[Rel]⟩
  ·cases hz) h hx hf
 exact qaO (u:=r) (by simp[Builtin.min_,hr]) hrel
end
end Go.Eng
namespace Go.Eng
set_option linter.unusedSectionVars false
variable [Globs]
theorem qhp(h:Heap)(i j:Nat):qak (qHI h i) j=if j=i then none else qak h j:=by
 induction h with
 |nil=>simp[qHI,qak]
 |cons p h ih=>
  obtain⟨k,b⟩:=p;simp only[qHI];by_cases hk:i=k
  ·subst hk;simp only[jB2,ih,qak];by_cases hj:j=i<;>simp[hj]
  ·simp only[hk,jBg,qak,ih];by_cases hj:j=k
   ·subst hj;have:¬j=i:=fun e=>hk e.symm
    simp[this]
   ·simp[hj]
theorem qbG(h:Heap)(i:Nat)(b:Blk)(j:Nat):qak (qi3 h i b) j=if j=i then some b else qak h j:=by
 simp only[qi3,qak,qhp];by_cases hj:j=i<;>simp[hj]
theorem qbQ(h:Heap)(r:List Nat)(j:Nat):qak (qa9 h r) j=if j∈r then none else qak h j:=by
 induction r with
 |nil=>simp[qa9]
 |cons i r ih=>
  simp only[qa9,qhp,ih,jAc];by_cases h1:j=i<;>by_cases h2:j∈r<;>simp[h1,h2]
theorem qbk(h g:Heap)(j:Nat):qak (h++g) j=match qak h j with
  |some b=>some b
  |none=>qak g j:=by
 induction h with
 |nil=>simp[qak]
 |cons p h ih=>
  obtain⟨k,b⟩:=p;simp only[jAk,qak];by_cases hj:j=k<;>simp[hj,ih]
theorem qcA(h:Heap)(r:List Nat)(j:Nat):qak (sub h r) j=if j∈r then qak h j else none:=by
 induction r with
 |nil=>simp[sub,qak]
 |cons i r ih=>
  simp only[sub,jAc];cases hi:qak h i with
  |none=>
   simp only[ih];by_cases h1:j=i
   ·subst h1;simp[hi]
   ·simp[h1]
  |some b=>
   simp only[qak,ih];by_cases h1:j=i
   ·subst h1;simp[hi]
   ·simp[h1]
theorem BlkAt.keep{w w':World}{I I':Imm}{m m':Names}{L:Loc}{b:Blk}(h:BlkAt w I m L b)(s:Stays w w' I)(hI:∀b o,I b o->I' b o)(hm:∀i L,m i=some L->m' i=some L)
  (hheap:w'.heap[L.blk]? = w.heap[L.blk]?) (hn:∀o,I' L.blk o->I L.blk o):BlkAt w' I' m' L b:=by
 cases b with
 |box cs fz=>
  obtain⟨h1,h2,C,e,hC,hsz,hcell,hfz⟩:=h;refine⟨h1,h2,C,e,hheap.trans hC,hsz,fun i c hc=>?_,?_⟩
  ·obtain⟨v,hv,hr⟩:=hcell i c hc;exact⟨v,hv,qaV s hI c hm hr⟩
  ·cases fz
   ·simp only[jAn,jBg]at hfz ⊢;exact fun o ho=>hfz o (hn o ho)
   ·simp only[jB2]at hfz ⊢;exact fun i hi=>hI _ _ (hfz i hi)
 |arr sz es fz=>
  obtain⟨h1,h2,h3,C,e,hC,hsz,hcell,hfz⟩:=h;refine⟨h1,h2,h3,C,e,hheap.trans hC,hsz,fun i c hc=>?_,?_⟩
  ·obtain⟨v,hv,hk,hr⟩:=hcell i c hc;exact⟨v,hv,hk,qaV s hI c (fun _ _ h=>h) hr⟩
  ·cases fz
   ·simp only[jAn,jBg]at hfz ⊢;exact fun o ho=>hfz o (hn o ho)
   ·simp only[jB2]at hfz ⊢;exact fun i hi=>hI _ _ (hfz i hi)
 |mp kvs=>
  obtain⟨es,clock,kvs0,hM,hC,hsz,hcell⟩:=h;refine⟨es,clock,kvs0,hM,hheap.trans hC,hsz,fun i kv hkv=>?_⟩;obtain⟨x,hx,h1,h2⟩:=hcell i kv hkv;exact⟨x,hx,qaV s hI _ (fun _ _ h=>h) h1,qaV s hI _ (fun _ _ h=>h) h2⟩
theorem BlkAt.lt{w:World}{I:Imm}{m:Names}{L:Loc}{b:Blk}(h:BlkAt w I m L b):L.blk<w.heap.size:=by
 have key:∀o,w.heap[L.blk]? = some o->L.blk<w.heap.size:=fun o ho=>(jBf.1 ho).1
 cases b with
 |box cs fz=>obtain⟨_,_,C,e,hC,_⟩:=h;exact key _ hC
 |arr sz es fz=>obtain⟨_,_,_,C,e,hC,_⟩:=h;exact key _ hC
 |mp kvs=>obtain⟨es,clock,_,_,hC,_⟩:=h;exact key _ hC
structure After (w w':World) (I I':Imm) (m m':Names) (h h':Heap) (nx:Nat):Prop where
 stays:Stays w w' I
 imm:∀b o,I b o->I' b o
 names:∀i L,m i=some L->m' i=some L
 fresh:∀i,m i=none->m' i≠none->nx<=i/\i<nx+16
 heap:HeapAt w' I' m' h'
 frame:∀b,b<w.heap.size-> ¬Owns m h b->w'.heap[b]? = w.heap[b]?
 newI:∀b o,I' b o->I b o\/Owns m h b\/w.heap.size<=b
 owns:∀b,Owns m' h' b->Owns m h b\/w.heap.size<=b
 dom:∀i b,qak h' i=some b->(∃a,qak h i=some a)\/m i=none
section
variable {P:Program} {w:World} {I:Imm} {m:Names} {h:Heap} {nx:Nat}
theorem HeapAt.lt(H:HeapAt w I m h){b:Nat}(ho:Owns m h b):b<w.heap.size:=by
 obtain⟨i,a,L,hi,hL,rfl⟩:=ho;obtain⟨L',hL',hat⟩:=H.at_ i a hi;rw[hL]at hL';cases hL';exact hat.lt
theorem After.same(H:HeapAt w I m h):After w w I I m m h h nx where
 stays:=Stays.refl w I
 imm:=fun _ _ h=>h
 names:=fun _ _ h=>h
 fresh:=fun i h1 h2=>absurd h1 h2
 heap:=H
 frame:=fun _ _ _=>rfl
 newI:=fun _ _ h=>.inl h
 owns:=fun _ h=>.inl h
 dom:=fun i b hb=>.inl ⟨b,hb⟩
theorem After.trans{w1 w2:World}{I1 I2:Imm}{m1 m2:Names}{h1 h2:Heap}(a:After w w1 I I1 m m1 h h1 nx)(b:After w1 w2 I1 I2 m1 m2 h1 h2 nx):After w w2 I I2 m m2 h h2 nx where
 stays:=a.stays.trans b.stays a.imm
 imm:=fun _ _ h=>b.imm _ _ (a.imm _ _ h)
 names:=fun _ _ h=>b.names _ _ (a.names _ _ h)
 fresh:=fun i hi hn=>by
  cases h1':m1 i with
  |none=>exact b.fresh i h1' hn
  |some L=>exact a.fresh i hi (by rw[h1'];simp)
 heap:=b.heap
 frame:=fun k hk hno=>by
  have h1':¬Owns m1 h1 k:=fun ho=>by
   rcases a.owns k ho with ho|hge
   ·exact hno ho
   ·omega
  exact(b.frame k (jBz hk a.stays.size) h1').trans (a.frame k hk hno)
 newI:=fun k o hi=>by
  rcases b.newI k o hi with hi|ho|hge
  ·exact a.newI k o hi
  ·rcases a.owns k ho with ho|hge
   ·exact .inr (.inl ho)
   ·exact .inr (.inr hge)
  ·exact .inr (.inr (jAz a.stays.size hge))
 owns:=fun k ho=>by
  rcases b.owns k ho with ho|hge
  ·exact a.owns k ho
  ·exact .inr (jAz a.stays.size hge)
 dom:=fun i k hi=>by
  rcases b.dom i k hi with⟨x,hx⟩|hn
  ·exact a.dom i x hx
  ·cases hm:m i with
   |none=>exact .inr rfl
   |some L=>rw[a.names i L hm]at hn;cases hn
theorem qgm(H:HeapAt w I m h)(o:Obj):Stays w (w.alloc o) I where
 size:=by simp
 row:=fun b C e hC=>⟨C,by rw[heap_alloc_old w o b (jBf.1 hC).1];exact hC,rfl⟩
 imm:=fun b k hi=>World.cell?_alloc_lt w o (ad b k) (H.old b k hi)
 out:=⟨rfl,rfl,rfl⟩
def named(m:Names)(nx:Nat)(L:Loc):Names:=fun i=>if i=nx then some L else m i
theorem qit(hnx:m nx=none)(L:Loc):∀i L',m i=some L'->named m nx L i=some L':=by
 intro i L' hi;unfold named;split
 ·rename_i e;subst e;rw[hnx]at hi;cases hi
 ·exact hi
theorem After.alloc(H:HeapAt w I m h)(hnx:m nx=none)(o:Obj)(L:Loc)(hL:L.blk=w.heap.size)(b:Blk)(hb:BlkAt (w.alloc o) I (named m nx L) L b) :
  After w (w.alloc o) I I m (named m nx L) h (qi3 h nx b) nx where
 stays:=qgm H o
 imm:=fun _ _ h=>h
 names:=qit hnx L
 fresh:=fun i h1 h2=>by
  unfold named at h2;split at h2
  ·omega
  ·exact absurd h1 h2
 heap:=by
  have hn:∀i a,qak h i=some a->i≠nx:=fun i a hi e=>by
   obtain⟨L',hL',_⟩:=H.at_ i a hi;rw[e,hnx]at hL';cases hL'
  constructor
  ·intro i a hi;rw[qbG]at hi;by_cases e:i=nx
   ·subst e;simp at hi;subst hi;exact⟨L,by simp[named],hb⟩
   ·rw[jAm e]at hi;obtain⟨L',hL',hat⟩:=H.at_ i a hi;exact⟨L',qit hnx L i L' hL',hat.keep (qgm H o) (fun _ _ h=>h) (qit hnx L) (heap_alloc_old w o _ hat.lt) fun _ h=>h⟩
  ·intro i j a b' L1 L2 hi hj hL1 hL2 he;rw[qbG]at hi hj;by_cases ei:i=nx<;>by_cases ej:j=nx
   ·rw[ei,ej]
   ·rw[jAm ej]at hj;obtain⟨L',hL',hat⟩:=H.at_ j b' hj;have:=hat.lt;simp only[named,jAm ej]at hL2;rw[hL2]at hL';cases hL';simp only[named,jAr ei,jA7]at hL1;subst hL1;omega
   ·rw[jAm ei]at hi;obtain⟨L',hL',hat⟩:=H.at_ i a hi;have:=hat.lt;simp only[named,jAm ei]at hL1;rw[hL1]at hL';cases hL';simp only[named,jAr ej,jA7]at hL2;subst hL2;omega
   ·rw[jAm ei]at hi;rw[jAm ej]at hj;simp only[named,jAm ei]at hL1;simp only[named,jAm ej]at hL2;exact H.apart i j a b' L1 L2 hi hj hL1 hL2 he
  ·intro b' o' hi;have:=H.old b' o' hi;simp;omega
  ·exact H.glob.mono (qgm H o) fun _ _ h=>h
 frame:=fun k hk _=>heap_alloc_old w o k hk
 newI:=fun _ _ h=>.inl h
 owns:=fun k ho=>by
  obtain⟨i,a,L',hi,hL',rfl⟩:=ho;rw[qbG]at hi;by_cases e:i=nx
  ·simp only[named,jAr e,jA7]at hL';subst hL';exact .inr (by omega)
  ·rw[jAm e]at hi;simp only[named,jAm e]at hL';exact .inl ⟨i,a,L',hi,hL',rfl⟩
 dom:=fun i a hi=>by
  rw[qbG]at hi;by_cases e:i=nx
  ·subst e;exact .inr hnx
  ·rw[jAm e]at hi;exact .inl ⟨a,hi⟩
theorem After.drew{w':World}{I':Imm}{m':Names}{h':Heap}(a:After w.drew w' I I' m m' h h' nx):After w w' I I' m m' h h' nx:=
 ⟨⟨a.stays.size,a.stays.row,a.stays.imm,a.stays.out⟩,a.imm,a.names,a.fresh,a.heap,a.frame,a.newI,a.owns,a.dom⟩
theorem HeapAt.drew(H:HeapAt w I m h):HeapAt w.drew I m h:=by
 have s:Stays w w.drew I:=⟨jAj _,fun _ C _ h=>⟨C,h,rfl⟩,fun _ _ _=>rfl,⟨rfl,rfl,rfl⟩⟩;exact⟨fun i b hi=>by
  obtain⟨L,hL,hat⟩:=H.at_ i b hi;exact⟨L,hL,hat.keep s (fun _ _ h=>h) (fun _ _ h=>h) rfl fun _ h=>h⟩,H.apart,H.old,H.glob.mono s fun _ _ h=>h⟩
theorem qbA(H:HeapAt w I m h){g:Nat}{C C':Array Value}{e:TypeId}(hC:w.heap[g]? = some (.cells C e (0,0)))(hs:C'.size=C.size)(hlive:∀o,¬I g o):Stays w (w.setRow g C') I where
 size:=by simp
 row:=fun b D f hD=>by
  by_cases hb:b=g
  ·subst hb;rw[hC]at hD;cases hD;exact⟨C',setRow_heap w b _ C' _ _ hC,hs⟩
  ·exact⟨D,by rw[setRow_other w g b C' hb];exact hD,rfl⟩
 imm:=fun b o hi=>by
  have hb:b≠g:=fun e=>hlive o (e▸hi)
  simp only[World.cell?,ad];rw[setRow_other w g b C' hb]
 out:=⟨rfl,rfl,rfl⟩
theorem After.write(H:HeapAt w I m h){id:Nat}{old new:Blk}(hid:qak h id=some old){L:Loc}(hL:m id=some L)(hlive:∀o,¬I L.blk o){C C':Array Value}{e:TypeId}
  (hC:w.heap[L.blk]? = some (.cells C e (0,0))) (hs:C'.size=C.size) (hnew:BlkAt (w.setRow L.blk C') I m L new):After w (w.setRow L.blk C') I I m m h (qi3 h id new) nx where
 stays:=qbA H hC hs hlive
 imm:=fun _ _ h=>h
 names:=fun _ _ h=>h
 fresh:=fun i h1 h2=>absurd h1 h2
 heap:=by
  constructor
  ·intro i a hi;rw[qbG]at hi;by_cases ei:i=id
   ·subst ei;simp at hi;subst hi;exact⟨L,hL,hnew⟩
   ·rw[jAm ei]at hi;obtain⟨L',hL',hat⟩:=H.at_ i a hi;have hne:L'.blk≠L.blk:=fun he=>ei (H.apart i id a old L' L hi hid hL' hL he)
    exact⟨L',hL',hat.keep (qbA H hC hs hlive) (fun _ _ h=>h) (fun _ _ h=>h) (setRow_other w _ _ _ hne) fun _ h=>h⟩
  ·intro i j a b L1 L2 hi hj hL1 hL2 he;rw[qbG]at hi hj;have hi':∃a,qak h i=some a:=by
    by_cases ei:i=id
    ·exact⟨old,ei▸hid⟩
    ·rw[jAm ei]at hi;exact⟨a,hi⟩
   have hj':∃a,qak h j=some a:=by
    by_cases ej:j=id
    ·exact⟨old,ej▸hid⟩
    ·rw[jAm ej]at hj;exact⟨b,hj⟩
   obtain⟨a',hi'⟩:=hi';obtain⟨b',hj'⟩:=hj';exact H.apart i j a' b' L1 L2 hi' hj' hL1 hL2 he
  ·intro b o hi;simpa using H.old b o hi
  ·exact H.glob.mono (qbA H hC hs hlive) fun _ _ h=>h
 frame:=fun k hk hno=>setRow_other w _ k _ fun e=>hno ⟨id,old,L,hid,hL,e.symm⟩
 newI:=fun _ _ h=>.inl h
 owns:=fun k ho=>by
  obtain⟨i,a,L',hi,hL',rfl⟩:=ho;rw[qbG]at hi;by_cases ei:i=id
  ·exact .inl ⟨i,old,L',ei▸hid,hL',rfl⟩
  ·rw[jAm ei]at hi;exact .inl ⟨i,a,L',hi,hL',rfl⟩
 dom:=fun i a hi=>by
  rw[qbG]at hi;by_cases ei:i=id
  ·exact .inl ⟨old,ei▸hid⟩
  ·rw[jAm ei]at hi;exact .inl ⟨a,hi⟩
def Does(P:Program)(w:World)(I:Imm)(m:Names)(h:Heap)(nx:Nat)(s:Sem Next)(v:AV)(h':Heap):Prop:=
 ∃n w' I' m',s.run P w= .ok n w'/\After w w' I I' m m' h h' nx/\((∃u,n= .value u/\Rel w' I' v m' u)\/(n= .skip/\v=q0s))
theorem Gives.does(H:HeapAt w I m h){s:Sem Next}{v:AV}(g:Gives P w I m s v):Does P w I m h nx s v h:=by
 obtain⟨u,hu,hr⟩:=g;exact⟨_,w,I,m,hu,After.same H,.inl ⟨u,rfl,hr⟩⟩
theorem qZF{w:World}{I:Imm}{m:Names}{nx sz num:Nat}(b:Nat):Rel w I (.ref nx 0 0) (named m nx ⟨b,0,sz,num⟩) (.pointer (some (ad b 0))):=by
 simp only[Rel];exact⟨⟨b,0,sz,num⟩,by simp[named],by simp⟩
theorem qRD{w:World}{I:Imm}{m:Names}{h:Heap}(H:HeapAt w I m h){nx:Nat}(hnx:m nx=none){cs:List AV}{us:List Value}(hr:qaQ w I cs m us)(t:TypeId) :
  BlkAt (w.alloc (.cells us.toArray t)) I (named m nx ⟨w.heap.size,0,cs.length,1⟩) ⟨w.heap.size,0,cs.length,1⟩ (.box cs false):=by
 refine⟨rfl,rfl,us.toArray,t,heap_alloc_new w _,?_,fun i c hc=>?_,?_⟩
 ·simp[qa7 hr]
 ·obtain⟨v,hv,hrel⟩:=qcr hr i c hc;exact⟨v,by simpa using hv,qaV (qgm H _) (fun _ _ h=>h) c (qit hnx _) hrel⟩
 ·simp only[jAn,jBg];intro o ho;have:=H.old _ o ho;exact Nat.lt_irrefl _ this
theorem zc7(H:HeapAt w I m h)(hnx:m nx=none){t:TypeId}{z:AV}(hz:zeroOf P t=some z)(hok:qaW (qai z)=true) :
  Does P w I m h nx (do pure (.value (<- Instr.alloc t true (.tuple #[])))) (.ref nx 0 0) (qi3 h nx (.box (qai z) false)):=by
 obtain⟨v,hv,hav⟩:=qhR hz w;have hr:Rel w I z m v:=hav _ _ _;have hc:=qcT hr hok;refine⟨_,w.alloc (.cells v.cells t),I,named m nx ⟨w.heap.size,0,(qai z).length,1⟩,?_,After.alloc H hnx _ _ rfl _ ?_,.inl ⟨_,rfl,qZF _⟩⟩
 ·simp[Instr.alloc,hv,newVar,newRow,ad]
 ·have:=qRD H hnx hc t;simpa using this
theorem zn4(H:HeapAt w I m h)(hnx:m nx=none){t:TypeId}{x:AV}{v:Value}(hr:Rel w I x m v)(hok:qaW (qai x)=true) :
  Does P w I m h nx (do pure (.value (<- Instr.box t v))) (.ref nx 0 0) (qi3 h nx (.box (qai x) false)):=by
 have hc:=qcT hr hok;refine⟨_,w.alloc (.cells v.cells t),I,named m nx ⟨w.heap.size,0,(qai x).length,1⟩,?_,After.alloc H hnx _ _ rfl _ ?_,.inl ⟨_,rfl,qZF _⟩⟩
 ·simp[Instr.box,newVar,newRow,ad]
 ·have:=qRD H hnx hc t;simpa using this
theorem qt9{t:TypeId}{n:Nat}(hn:qgn P t=some n){g o:Nat}{C:Array Value}{e:TypeId}(hC:w.heap[g]? = some (.cells C e (0,0))){v:Value}(hv:v.cells.size=n)(h1:∀u∈v.cells.toList,u.oneCell'=true)
  (hle:o+n<=C.size):(Instr.storeAt t (.pointer (some (ad g o))) v).run P w= .ok () (w.setRow g (C.toList.take o++v.cells.toList++C.toList.drop (o+n)).toArray):=by
 have hst:=run_storeCells_at P g o e v.cells.toList 0 C w hC (by simp[hv];omega) h1;have hl:v.cells.toList.length=n:=by simpa using hv
 simp only[Nat.add_zero,hl]at hst;rw[<-ad]at hst;simp only[Instr.storeAt,Instr.sureAddr,storeVar,Sem.run_bind,Sem.run_pure,Result.andThen_ok,run_sizeOf hn,hv,ne_eq,not_true_eq_false,jBg,hst]
theorem qn8{C:List Value}{us:List Value}{cs vs:List AV}{base off:Nat}(hl:us.length=vs.length)(hle:off+vs.length<=cs.length)(hC:base+cs.length<=C.length){Q:AV->Value->Prop}
  (hcs:∀(i:Nat) (c:AV),cs[i]? = some c-> ∃v,C[base+i]? = some v/\Q c v) (hvs:∀(i:Nat) (c:AV),vs[i]? = some c-> ∃v,us[i]? = some v/\Q c v) :
  ∀(i:Nat) (c:AV),(splice cs off vs)[i]? = some c-> ∃v,(C.take (base+off)++us++C.drop (base+off+us.length))[base+i]? = some v/\Q c v:=by
 intro i c hc;unfold splice at hc;have ht:(cs.take off).length=off:=by simp;omega
 have hT:(C.take (base+off)).length=base+off:=by simp;omega
 by_cases h1:i<off
 ·rw[jAf,jAu (by omega),jCf,jAr h1]at hc;obtain⟨v,hv,hq⟩:=hcs i c hc;refine⟨v,?_,hq⟩;rw[jAf,jAu (by omega),jCf,jAr (by omega)];exact hv
 ·by_cases h2:i<off+vs.length
  ·rw[jAf,jB1 (by omega),ht,jAu (by omega)]at hc;obtain⟨v,hv,hq⟩:=hvs _ c hc;refine⟨v,?_,hq⟩;rw[jAf,jB1 (by omega),hT,jAu (by omega)];rw[show base+i-(base+off)=i-off by omega];exact hv
  ·rw[jB1 (by simp;omega),jBs]at hc;obtain⟨v,hv,hq⟩:=hcs _ c hc;refine⟨v,?_,hq⟩;rw[jB1 (by simp;omega),jBs];have e:base+off+us.length+(base+i-(C.take (base+off)++us).length)=base+(off+vs.length+(i-(cs.take off++vs).length)):=by
    simp only[jA2,hT,ht,hl];omega
   rw[e];exact hv
theorem qn9{cs vs:List AV}{off:Nat}(h:off+vs.length<=cs.length):(splice cs off vs).length=cs.length:=by
 unfold splice;simp;omega
theorem qEc(H:HeapAt w I m h){t:TypeId}{n:Nat}(hn:qgn P t=some n){id off:Nat}{cs:List AV}(hid:qak h id=some (.box cs false)){u v:Value}{x:AV}(hu:Rel w I (.ref id 0 off) m u)(hx:Rel w I x m v)
  (hlen:(qai x).length=n) (hoff:off+n<=cs.length) (hok:qaW (qai x)=true) :
  Does P w I m h nx (do Instr.storeAt t u v;pure .skip) q0s (qi3 h id (.box (splice cs off (qai x)) false)):=by
 simp only[Rel]at hu;obtain⟨L,hL,rfl⟩:=hu;obtain⟨L',hL',hat⟩:=H.at_ id _ hid;rw[hL]at hL';cases hL';obtain⟨h1,h2,C,e,hC,hsz,hcell,hlive⟩:=hat;simp only[jAn,jBg]at hlive;have hc:=qcT hx hok;have hcl:=qa7 hc;have hvs:v.cells.size=n:=by rw[<-hlen,<-hcl];simp
 have hrun:=qt9 (P:=P) hn (o:=L.base+0*L.sz+off) hC hvs (qjH hc hok) (by simp;omega);refine⟨.skip,_,I,m,by rw[Sem.run_bind,hrun];rfl,After.write H hid hL hlive hC ?_ ?_,.inr ⟨rfl,rfl⟩⟩
 ·simp[hvs];omega
 ·have hs:Stays w (w.setRow L.blk (C.toList.take (L.base+0*L.sz+off)++v.cells.toList++C.toList.drop (L.base+0*L.sz+off+n)).toArray) I:=qbA H hC (by simp[hvs];omega) hlive;refine⟨h1,by rw[qn9 (by omega)];exact h2,_,e,setRow_heap w L.blk _ _ _ _ hC,?_,fun i c hc'=>?_,by simpa using hlive⟩
  ·rw[qn9 (by omega)];simp[hvs];omega
  ·have hg:=qn8 (C:=C.toList) (us:=v.cells.toList) (base:=L.base) (off:=off) (cs:=cs) (vs:=qai x) (by simp[hvs,hlen]) (by omega) (by simp;omega) (Q:=fun c v=>Rel w I c m v)
    (fun i c hc=>by simpa using hcell i c hc) (qcr hc) i c hc'
   obtain⟨q,hq,hr⟩:=hg;refine⟨q,?_,qaV hs (fun _ _ h=>h) c (fun _ _ h=>h) hr⟩;have hln:v.cells.toList.length=n:=by simpa using hvs
   rw[hln]at hq;simpa using hq
end
end Go.Eng
namespace Go.Eng
set_option linter.unusedSectionVars false
variable [Globs]
section
variable {P:Program} {w:World} {I:Imm} {m:Names} {h:Heap} {nx:Nat}
mutual
theorem qjJ:∀(x:AV) {m m':Names} {v:Value},idsA x= []->Rel w I x m v->Rel w I x m' v
 | .int ..,_,_,_,_,h=>h
 | .bool ..,_,_,_,_,h=>h
 | .str ..,_,_,_,_,h=>h
 | .nilp,_,_,_,_,h=>h
 | .nils _,_,_,_,_,h=>h
 | .nilm,_,_,_,_,h=>h
 | .nilf,_,_,_,_,h=>h
 | .nili,_,_,_,_,h=>h
 | .agg cs,_,_,_,hi,h=>by
  simp only[Rel]at h ⊢;obtain⟨vs,hv,h⟩:=h;exact⟨vs,hv,qkp cs (by simpa[idsA]using hi) h⟩
 | .tup cs,_,_,_,hi,h=>by
  simp only[Rel]at h ⊢;obtain⟨vs,hv,h⟩:=h;exact⟨vs,hv,qkp cs (by simpa[idsA]using hi) h⟩
 | .view ..,_,_,_,_,h=>by simpa only[Rel]using h
 | .ptr ..,_,_,_,_,h=>by simpa only[Rel]using h
 | .own ..,_,_,_,hi,_=>by simp[idsA]at hi
 | .ref ..,_,_,_,hi,_=>by simp[idsA]at hi
 | .mref ..,_,_,_,hi,_=>by simp[idsA]at hi
 | .fn f cs,_,_,_,hi,h=>by
  simp only[Rel]at h ⊢;obtain⟨vs,hv,h⟩:=h;exact⟨vs,hv,qkp cs (by simpa[idsA]using hi) h⟩
 | .iface t x,_,_,_,hi,h=>by
  simp only[Rel]at h ⊢;obtain⟨y,hv,h⟩:=h;exact⟨y,hv,qjJ x (by simpa[idsA]using hi) h⟩
 | .junk,_,_,_,_,_=>by simp[Rel]
theorem qkp:∀(xs:List AV) {m m':Names} {vs:List Value},idsA.idsL xs= []->qaQ w I xs m vs->qaQ w I xs m' vs
 | [],_,_,_,_,h=>h
 |x::xs,_,_,_,hi,h=>by
  simp only[idsA.idsL,List.append_eq_nil_iff]at hi;simp only[qaQ]at h ⊢;obtain⟨v,vs',hv,h1,h2⟩:=h;exact⟨v,vs',hv,qjJ x hi.1 h1,qkp xs hi.2 h2⟩
end
def Shut(h:Heap)(r:List Nat):Prop:=∀i b,i∈r->qak h i=some b-> ∀j c,j∈qNT b->qak h j=some c->j∈r
theorem qiy:∀(n:Nat) (h:Heap) (todo seen r:List Nat),qb8 n h todo seen=some r ->
  (∀i,i∈seen->i∈r)/\(∀i b,i∈todo->qak h i=some b->i∈r) /\
  ((∀i b,i∈seen->qak h i=some b-> ∀j c,j∈qNT b->qak h j=some c->j∈seen\/j∈todo)->Shut h r) /\
  (∀i,i∈r->i∈seen\/ ∃b,qak h i=some b)
 |n,h,[],seen,r,hr=>by
  have:seen=r:=by cases n<;>simpa[qb8]using hr
  subst this;refine⟨fun _ h=>h,by simp,fun hc i b hi hb j c hj hc'=>?_,fun i hi=>.inl hi⟩;rcases hc i b hi hb j c hj hc' with h|h
  ·exact h
  ·simp at h
 |0,h,_::_,seen,r,hr=>by simp[qb8]at hr
 |n+1,h,i::todo,seen,r,hr=>by
  simp only[qb8]at hr;by_cases hs:seen.contains i=true
  ·rw[jAr hs]at hr;have hs':i∈seen:=by simpa using hs
   obtain⟨h1,h2,h3,h4⟩:=qiy n h todo seen r hr;refine⟨h1,fun j b hj hb=>?_,fun hc=>h3 fun j b hj hb k c hk hc'=>?_,h4⟩
   ·rcases jAc.1 hj with rfl|hj
    ·exact h1 _ hs'
    ·exact h2 j b hj hb
   ·rcases hc j b hj hb k c hk hc' with h|h
    ·exact .inl h
    ·rcases jAc.1 h with rfl|h
     ·exact .inl hs'
     ·exact .inr h
  ·rw[jAm hs]at hr;cases hl:qak h i with
   |none=>
    simp only[hl]at hr;obtain⟨h1,h2,h3,h4⟩:=qiy n h todo seen r hr;refine⟨h1,fun j b hj hb=>?_,fun hc=>h3 fun j b hj hb k c hk hc'=>?_,h4⟩
    ·rcases jAc.1 hj with rfl|hj
     ·rw[hl]at hb;cases hb
     ·exact h2 j b hj hb
    ·rcases hc j b hj hb k c hk hc' with h|h
     ·exact .inl h
     ·rcases jAc.1 h with rfl|h
      ·rw[hl]at hc';cases hc'
      ·exact .inr h
   |some b0=>
    simp only[hl]at hr;obtain⟨h1,h2,h3,h4⟩:=qiy n h (todo++qNT b0) (seen++[i]) r hr;refine⟨fun j hj=>h1 j (by simp[hj]),fun j b hj hb=>?_,fun hc=>h3 fun j b hj hb k c hk hc'=>?_,fun j hj=>?_⟩
    ·rcases jAc.1 hj with rfl|hj
     ·exact h1 _ (by simp)
     ·exact h2 j b (by simp[hj]) hb
    ·rcases jAo.1 hj with hj|hj
     ·rcases hc j b hj hb k c hk hc' with h|h
      ·exact .inl (by simp[h])
      ·rcases jAc.1 h with rfl|h
       ·exact .inl (by simp)
       ·exact .inr (by simp[h])
     ·simp at hj;subst hj;rw[hl]at hb;cases hb;exact .inr (by simp[hk])
    ·rcases h4 j hj with hj|hj
     ·rcases jAo.1 hj with hj|hj
      ·exact .inl hj
      ·simp at hj;subst hj;exact .inr ⟨b0,hl⟩
     ·exact .inr hj
theorem qkn{h:Heap}{n:Nat}{todo r:List Nat}(hr:qb8 n h todo []=some r) :
  Shut h r/\(∀i b,i∈todo->qak h i=some b->i∈r)/\ ∀i,i∈r-> ∃b,qak h i=some b:=by
 obtain⟨_,h2,h3,h4⟩:=qiy n h todo [] r hr;exact⟨h3 (by simp),h2,fun i hi=>(h4 i hi).resolve_left (by simp)⟩
def known:Blk->Nat
 | .box cs _=>cs.length
 | .arr sz es _=>es.length*sz
 | .mp _=>0
def shown(I:Imm)(m:Names)(h:Heap)(r:List Nat):Imm:=fun b o=>
 I b o\/ ∃i blk L,i∈r/\qak h i=some blk/\m i=some L/\L.blk=b/\L.base<=o/\o<L.base+known blk
theorem qcz(h:Heap)(r:List Nat)(j:Nat):qak (freeze h r) j=if j∈r then(qak h j).map qlL else qak h j:=by
 induction r with
 |nil=>simp[freeze]
 |cons i r ih=>
  simp only[freeze];cases hi:qak h i with
  |none=>
   simp only[ih,jAc];by_cases h1:j=i
   ·subst h1;simp[hi]
   ·simp[h1]
  |some b=>
   simp only[qbG,ih,jAc];by_cases h1:j=i
   ·subst h1;simp[hi]
   ·simp[h1]
theorem Cells.at_{cs:List AV}{b o:Nat}(hc:∀(i:Nat) (c:AV),cs[i]? = some c->qbn c=true/\ ∃u,w.cell? (ad b (o+i))=some u/\Rel w I c m0 u)(hI:∀i,i<cs.length->I b (o+i)):At w I cs b o:=
 fun i c h=>⟨hI i (jAg.1 h).1,hc i c h⟩
theorem qbO{I:Imm}{m:Names}{h:Heap}{r:List Nat}:∀b o,I b o->shown I m h r b o:=fun _ _ h=>.inl h
theorem zeq:∀{n:Nat} {x y:AV},snap h n x=some y->qbn x=true->qbn y=true
 |0,x,y,hy,_=>by simp[snap]at hy
 |n+1,x,y,hy,hk=>by
  cases x<;>simp only[snap]at hy<;>simp only[qbn,jAn]at hk
  case nils=>simp at hy;subst hy;rfl
  case own=>
   split at hy
   ·split at hy
    ·split at hy<;>simp at hy;subst hy;rfl
    ·simp at hy;subst hy;rfl
   ·cases hy
  case ref=>
   split at hy
   ·split at hy
    ·simp only[jA3]at hy;obtain⟨_,_,rfl⟩:=hy;rfl
    ·cases hy
   ·split at hy
    ·split at hy<;>simp at hy;subst hy;rfl
    ·cases hy
   ·cases hy
  case mref=>cases hy
  case fn=>simp only[jA3]at hy;obtain⟨_,_,rfl⟩:=hy;rfl
  case iface=>simp only[jA3]at hy;obtain⟨_,_,rfl⟩:=hy;rfl
  all_goals(simp at hy;subst hy;rfl)
theorem qKs:∀{n:Nat} {xs ys:List AV},snap.snapL h n xs=some ys->qaW xs=true->qaW ys=true
 |n,[],ys,hy,_=>by simp[qiX]at hy;subst hy;rfl
 |n,x::xs,ys,hy,hk=>by
  simp only[qiX]at hy;split at hy
  ·rename_i y ys' h1 h2;simp at hy;subst hy;simp only[qaW,jA1]at hk ⊢;exact⟨zeq h1 hk.1,qKs h2 hk.2⟩
  ·cases hy
mutual
theorem qkt(H:HeapAt w I m h){r:List Nat}(hs:Shut h r):∀(n:Nat) (x:AV) {v:Value} {y:AV},(∀i b,i∈idsA x->qak h i=some b->i∈r)->snap h n x=some y->Rel w I x m v->Rel w (shown I m h r) y m0 v
 |0,x,v,y,_,hy,_=>by simp[snap]at hy
 |n+1,x,v,y,hids,hy,hr=>by
  cases x<;>simp only[snap]at hy
  case nils sz=>
   simp at hy;subst hy;simp only[Rel]at hr ⊢;obtain⟨b,cap,rfl,hz⟩:=qjB hr;exact⟨b,cap,rfl,by simp,.inl rfl,hz⟩
  case own id off lo=>
   split at hy
   ·rename_i sz es fz hl;have hy2:∃len,y= .view sz ((es.drop off).take len)/\((lo=some len/\off+len<=es.length)\/(lo=none/\len=es.length-off)):=by
     split at hy
     ·rename_i len;split at hy
      ·rename_i hle;simp at hy;subst hy;exact⟨len,by rw[qkK],.inl ⟨rfl,hle⟩⟩
      ·cases hy
     ·simp at hy;subst hy;exact⟨_,by rw[qme,jBb (by simp)],.inr ⟨rfl,rfl⟩⟩
    obtain⟨len,rfl,hlo⟩:=hy2;simp only[Rel]at hr;obtain⟨L,hL,o,cap,C,e,rfl,hcap,ho,hnum,hC,hsize⟩:=hr;obtain⟨L',hL',hat⟩:=H.at_ id _ hl;rw[hL]at hL';cases hL';obtain⟨h1,h2,h3,C',e',hC',hsz,hcell,_⟩:=hat;rw[hC]at hC';cases hC';have hlen:qmq L.num off lo=len:=by
     rcases hlo with⟨rfl,_⟩|⟨rfl,rfl⟩
     ·rfl
     ·rw[qea,h1]
    rw[hlen]at hcap ⊢;have hmem:id∈r:=hids id _ (by simp[idsA]) hl;have hsh:∀q,q<es.length*sz->shown I m h r L.blk (L.base+q):=fun q hq=>.inr ⟨id,_,L,hmem,hl,hL,rfl,by omega,by simp only[known];omega⟩
    have hA:At w (shown I m h r) (flat es) L.blk L.base:=Cells.at_ (fun i c hc=>by
     obtain⟨u,hu,hk,hrel⟩:=hcell i c hc;exact⟨hk,u,by rw[qft hC];exact hu,qaV (Stays.refl w I) qbO c (fun _ _ h=>h) hrel⟩) (fun i hi=>hsh i (by rw[qcb h3]at hi;exact hi))
    have hE:qDt w (shown I m h r) sz es L.blk L.base:=qko.2 ⟨h3,hA⟩;have hsl:=qwL hE off len;have hl2:((es.drop off).take len).length=len:=by rcases hlo with⟨_,hle⟩|⟨_,hle⟩<;>simp<;>omega
    simp only[Rel];by_cases hc0:cap=0
    ·have hlen0:len=0:=by omega
     subst hlen0;exact⟨some (ad L.blk o),cap,by simp,by simp,.inl (by simp),fun hn=>by cases hn⟩
    ·refine⟨some (ad L.blk o),cap,by rw[hl2],by omega,.inr ⟨L.blk,o,rfl,?_⟩,fun hn=>by cases hn⟩;rw[ho hc0,h2];exact hsl
   ·cases hy
  case ref id idx off=>
   simp only[Rel]at hr;obtain⟨L,hL,rfl⟩:=hr;split at hy
   ·rename_i cs fz hl;split at hy
    ·rename_i hc;obtain⟨rfl,hoff,hok⟩:=hc;simp only[jA3]at hy;obtain⟨cs',hcs',rfl⟩:=hy;obtain⟨L',hL',hat⟩:=H.at_ id _ hl;rw[hL]at hL';cases hL';obtain⟨h1,h2,C,e,hC,hsz,hcell,_⟩:=hat;have hmem:id∈r:=hids id _ (by simp[idsA]) hl;have hcells:Cells w I m cs L.blk L.base:=fun i c hc=>by
      obtain⟨u,hu,hrel⟩:=hcell i c hc;exact⟨u,by rw[qft hC];exact hu,hrel⟩
     obtain⟨us,hlu,hus,hrel⟩:=hcells.list;have hL2:=qgk H hs n cs (fun i b hi hb=>hs id _ hmem hl i b (by simpa[qNT]using hi) hb) hcs' hrel;have hlen:cs'.length=cs.length:=by rw[<-qa7 hL2];exact hlu
     have hok':=qcx (qKs hcs' hok);have hA:At w (shown I m h r) cs' L.blk L.base:=fun i c hc=>by
      have hi:i<cs'.length:=(jAg.1 hc).1;obtain⟨u,hu,hru⟩:=qcr hL2 i c hc;refine⟨.inr ⟨id,_,L,hmem,hl,hL,rfl,by omega,by simp only[known];omega⟩,hok' c (jAl hc),u,?_,hru⟩;have:=hus i u hu;rwa[qiN]at this
     simp only[Rel];refine⟨L.blk,L.base+0*L.sz+off,rfl,qcq.2 ?_⟩;have:=qru hA off;simpa using this
    ·cases hy
   ·rename_i sz es fz hl;obtain⟨L',hL',hat⟩:=H.at_ id _ hl;rw[hL]at hL';cases hL';obtain⟨h1,h2,h3,C,e,hC,hsz,hcell,_⟩:=hat;have hmem:id∈r:=hids id _ (by simp[idsA]) hl;split at hy
    ·rename_i e0 he;split at hy
     ·rename_i hoff;simp at hy;subst hy;have hsh:∀q,q<es.length*sz->shown I m h r L.blk (L.base+q):=fun q hq=>.inr ⟨id,_,L,hmem,hl,hL,rfl,by omega,by simp only[known];omega⟩
      have hA:At w (shown I m h r) (flat es) L.blk L.base:=Cells.at_ (fun i c hc=>by
       obtain⟨u,hu,hk,hrel⟩:=hcell i c hc;exact⟨hk,u,by rw[qft hC];exact hu,qaV (Stays.refl w I) qbO c (fun _ _ h=>h) hrel⟩) (fun i hi=>hsh i (by rw[qcb h3]at hi;exact hi))
      simp only[Rel];refine⟨L.blk,_,rfl,qcq.2 ?_⟩;rw[h2];exact qru (qR0 h3 hA he) off
     ·cases hy
    ·cases hy
   ·cases hy
  case mref id=>cases hy
  case agg cs=>
   simp only[jA3]at hy;obtain⟨cs',hcs',rfl⟩:=hy;simp only[Rel]at hr ⊢;obtain⟨us,rfl,hr⟩:=hr;exact⟨us,rfl,qgk H hs n cs (fun i b hi hb=>hids i b (by simpa[idsA]using hi) hb) hcs' hr⟩
  case tup cs=>
   simp only[jA3]at hy;obtain⟨cs',hcs',rfl⟩:=hy;simp only[Rel]at hr ⊢;obtain⟨us,rfl,hr⟩:=hr;exact⟨us,rfl,qgk H hs n cs (fun i b hi hb=>hids i b (by simpa[idsA]using hi) hb) hcs' hr⟩
  case fn f cs=>
   simp only[jA3]at hy;obtain⟨cs',hcs',rfl⟩:=hy;simp only[Rel]at hr ⊢;obtain⟨us,rfl,hr⟩:=hr;exact⟨us,rfl,qgk H hs n cs (fun i b hi hb=>hids i b (by simpa[idsA]using hi) hb) hcs' hr⟩
  case iface t x=>
   simp only[jA3]at hy;obtain⟨x',hx',rfl⟩:=hy;simp only[Rel]at hr ⊢;obtain⟨u,rfl,hr⟩:=hr;exact⟨u,rfl,qkt H hs n x (fun i b hi hb=>hids i b (by simpa[idsA]using hi) hb) hx' hr⟩
  all_goals
   simp at hy;subst hy;exact qjJ _ (by simp[idsA]) (qaV (Stays.refl w I) qbO _ (fun _ _ h=>h) hr)
theorem qgk(H:HeapAt w I m h){r:List Nat}(hs:Shut h r):∀(n:Nat) (xs:List AV) {vs:List Value} {ys:List AV},(∀i b,i∈idsA.idsL xs->qak h i=some b->i∈r)->snap.snapL h n xs=some ys->qaQ w I xs m vs->qaQ w (shown I m h r) ys m0 vs
 |n,[],vs,ys,_,hy,hr=>by
  simp[qiX]at hy;subst hy;simpa[qaQ]using hr
 |n,x::xs,vs,ys,hids,hy,hr=>by
  simp only[qiX]at hy;split at hy
  ·rename_i y ys' h1 h2;simp at hy;subst hy;simp only[qaQ]at hr ⊢;obtain⟨v,vs',rfl,hv,hr⟩:=hr;exact⟨v,vs',rfl,qkt H hs n x (fun i b hi hb=>hids i b (by simp[idsA.idsL,hi]) hb) h1 hv,
    qgk H hs n xs (fun i b hi hb=>hids i b (by simp[idsA.idsL,hi]) hb) h2 hr⟩
  ·cases hy
end
theorem After.showing(H:HeapAt w I m h){r:List Nat}:After w w I (shown I m h r) m m h (freeze h r) nx where
 stays:=Stays.refl w I
 imm:=qbO
 names:=fun _ _ h=>h
 fresh:=fun i h1 h2=>absurd h1 h2
 heap:=by
  have hlookf:∀i b,qak (freeze h r) i=some b-> ∃a,qak h i=some a/\(b=a/\i∉r\/b=qlL a/\i∈r):=by
   intro i b hi;rw[qcz]at hi;by_cases hr:i∈r
   ·rw[jAr hr]at hi;simp only[jA3]at hi;obtain⟨a,ha,rfl⟩:=hi;exact⟨a,ha,.inr ⟨rfl,hr⟩⟩
   ·rw[jAm hr]at hi;exact⟨b,hi,.inl ⟨rfl,hr⟩⟩
  constructor
  ·intro i b hi;obtain⟨a,ha,hb⟩:=hlookf i b hi;obtain⟨L,hL,hat⟩:=H.at_ i a ha;refine⟨L,hL,?_⟩;rcases hb with⟨rfl,hr⟩|⟨rfl,hr⟩
   ·refine hat.keep (Stays.refl w I) qbO (fun _ _ h=>h) rfl fun o ho=>?_
    rcases ho with ho|⟨j,blk,L',hj,hlj,hLj,he,_⟩
    ·exact ho
    ·exact absurd (H.apart j i blk _ L' L hlj ha hLj hL he▸hj) hr
   ·have hsh:∀q,q<known a->shown I m h r L.blk (L.base+q):=fun q hq=>.inr ⟨i,a,L,hr,ha,hL,rfl,by omega,by omega⟩
    cases a with
    |box cs fz=>
     obtain⟨h1,h2,C,e,hC,hsz,hcell,_⟩:=hat;refine⟨h1,h2,C,e,hC,hsz,fun i c hc=>?_,?_⟩
     ·obtain⟨v,hv,hrel⟩:=hcell i c hc;exact⟨v,hv,qaV (Stays.refl w I) qbO c (fun _ _ h=>h) hrel⟩
     ·simp only[jB2];exact fun i hi=>hsh i hi
    |arr sz es fz=>
     obtain⟨h1,h2,h3,C,e,hC,hsz,hcell,_⟩:=hat;refine⟨h1,h2,h3,C,e,hC,hsz,fun i c hc=>?_,?_⟩
     ·obtain⟨v,hv,hk,hrel⟩:=hcell i c hc;exact⟨v,hv,hk,qaV (Stays.refl w I) qbO c (fun _ _ h=>h) hrel⟩
     ·simp only[jB2];exact fun i hi=>hsh i hi
    |mp kvs=>
     obtain⟨es,clock,kvs0,hM,hC,hsz,hcell⟩:=hat;refine⟨es,clock,kvs0,hM,hC,hsz,fun i kv hkv=>?_⟩;obtain⟨x,hx,h1,h2⟩:=hcell i kv hkv;exact⟨x,hx,qaV (Stays.refl w I) qbO _ (fun _ _ h=>h) h1,qaV (Stays.refl w I) qbO _ (fun _ _ h=>h) h2⟩
  ·intro i j a b L L' hi hj hL hL' he;obtain⟨a',ha,_⟩:=hlookf i a hi;obtain⟨b',hb,_⟩:=hlookf j b hj;exact H.apart i j a' b' L L' ha hb hL hL' he
  ·intro b o hi;rcases hi with hi|⟨i,blk,L,hr,hl,hL,rfl,_⟩
   ·exact H.old b o hi
   ·exact H.lt ⟨i,blk,L,hl,hL,rfl⟩
  ·exact H.glob.mono (Stays.refl w I) qbO
 frame:=fun _ _ _=>rfl
 newI:=fun b o hi=>by
  rcases hi with hi|⟨i,blk,L,hr,hl,hL,rfl,_⟩
  ·exact .inl hi
  ·exact .inr (.inl ⟨i,blk,L,hl,hL,rfl⟩)
 owns:=fun b ho=>by
  obtain⟨i,a,L,hi,hL,rfl⟩:=ho;rw[qcz]at hi;by_cases hr:i∈r
  ·rw[jAr hr]at hi;simp only[jA3]at hi;obtain⟨a',ha,rfl⟩:=hi;exact .inl ⟨i,a',L,ha,hL,rfl⟩
  ·rw[jAm hr]at hi;exact .inl ⟨i,a,L,hi,hL,rfl⟩
 dom:=fun i b hi=>by
  rw[qcz]at hi;by_cases hr:i∈r
  ·rw[jAr hr]at hi;simp only[jA3]at hi;obtain⟨a',ha,rfl⟩:=hi;exact .inl ⟨a',ha⟩
  ·rw[jAm hr]at hi;exact .inl ⟨b,hi⟩
theorem qlY(H:HeapAt w I m h){x:AV}{v:Value}(hr:Rel w I x m v){y:AV}{h':Heap}(hs:still h x=some (y,h')) :
  ∃I',After w w I I' m m h h' nx/\Rel w I' y m0 v/\ ∀i,qak h' i=qak h i\/qak h' i=(qak h i).map qlL:=by
 simp only[still]at hs;split at hs
 ·rename_i hi;simp at hs;obtain⟨rfl,rfl⟩:=hs;exact⟨I,After.same H,qjJ _ (by rw[qU5];exact hi) (qmC _ hr),fun i=>.inl rfl⟩
 ·split at hs
  ·rename_i y' r h1 h2;simp at hs;obtain⟨rfl,rfl⟩:=hs;obtain⟨hsh,htodo,_⟩:=qkn h2;refine⟨shown I m h r,After.showing H,qkt H hsh _ x htodo h1 hr,fun i=>?_⟩;rw[qcz];split
   ·exact .inr rfl
   ·exact .inl rfl
  ·cases hs
theorem qo6:∀{xs:List AV} {w:World} {I:Imm} {m:Names} {h:Heap} {nx:Nat} (_:HeapAt w I m h) {vs:List Value},qaQ w I xs m vs-> ∀{ys:List AV} {h':Heap},qwW h xs=some (ys,h') ->
  ∃I',After w w I I' m m h h' nx/\qaQ w I' ys m0 vs
 | [],w,I,m,h,nx,H,vs,hr,ys,h',hs=>by
  simp[qwW]at hs;obtain⟨rfl,rfl⟩:=hs;exact⟨I,After.same H,by simpa[qaQ]using hr⟩
 |x::xs,w,I,m,h,nx,H,vs,hr,ys,h',hs=>by
  simp only[qwW]at hs;split at hs
  ·rename_i y h1 hy;split at hs
   ·rename_i ys' h2 hys;simp at hs;obtain⟨rfl,rfl⟩:=hs;simp only[qaQ]at hr;obtain⟨v,vs',rfl,hv,hr⟩:=hr;obtain⟨I1,a1,r1,_⟩:=qlY (nx:=nx) H hv hy;obtain⟨I2,a2,r2⟩:=qo6 (nx:=nx) a1.heap (qhz a1.stays a1.imm xs (fun _ _ h=>h) hr) hys;refine⟨I2,a1.trans a2,?_⟩;simp only[qaQ];exact⟨v,vs',rfl,qaV a2.stays a2.imm y (fun _ _ h=>h) r1,r2⟩
   ·cases hs
  ·cases hs
end
end Go.Eng
namespace Go.Eng
set_option linter.unusedSectionVars false
variable [Globs]
section
variable {P:Program} {w:World} {I:Imm} {m:Names} {h:Heap} {nx:Nat}
theorem qHF{sz:Nat}{es:List AV}(hs:∀e∈es,(qai e).length=sz){i:Nat}{e e':AV}(he:es[i]? = some e) :
  ∃A B,flat es=A++qai e++B/\A.length=i*sz/\flat (es.set i e')=A++qai e'++B:=by
 induction es generalizing i with
 |nil=>simp at he
 |cons x es ih=>
  have hx:(qai x).length=sz:=hs x (by simp);cases i with
  |zero=>
   simp at he;subst he;exact⟨[],flat es,rfl,by simp,rfl⟩
  |succ i=>
   obtain⟨A,B,h1,h2,h3⟩:=ih (fun e he=>hs e (by simp[he])) (by simpa using he);refine⟨qai x++A,B,?_,?_,?_⟩
   ·show qai x++flat es=_;rw[h1];simp
   ·simp[h2,hx,jBe];omega
   ·show qai x++flat (es.set i e')=_;rw[h3];simp
theorem qwT(A X B V:List AV)(off:Nat)(hle:off+V.length<=X.length):splice (A++X++B) (A.length+off) V=A++splice X off V++B:=by
 unfold splice;have h1:(A++X++B).take (A.length+off)=A++X.take off:=by
  rw[jAf,List.take_append,jBb (by omega),show A.length+off-A.length=off by omega,List.take_append_of_le_length (by omega)]
 have h2:(A++X++B).drop (A.length+off+V.length)=X.drop (off+V.length)++B:=by
  rw[jAf,List.drop_append,List.drop_eq_nil_of_le (by omega),jAx,show A.length+off+V.length-A.length=off+V.length by omega,List.drop_append_of_le_length (by omega)]
 rw[h1,h2];simp
theorem qAT{e:AV}{cs:List AV}(hl:cs.length=(qai e).length)(hok:isAgg e=true\/ ∀c∈cs,isAgg c=false):qai (elemOf e cs)=cs:=by
 cases e
 case agg=>rfl
 all_goals
  simp only[qai,List.length_singleton]at hl;simp only[isAgg,jAn,false_or]at hok
  match cs,hl,hok with
  | [v],_,hok=>
   have:=hok v (by simp);cases v<;>first|rfl|exact absurd this (by simp)
theorem qic{c:AV}(h:qbn c=true):isAgg c=false:=by cases c<;>first|rfl|simp[qbn]at h
theorem qKW{cs:List AV}(h:∀c∈cs,qbn c=true):qaW cs=true:=by
 induction cs with
 |nil=>rfl
 |cons c cs ih=>simp only[qaW,jA1];exact⟨h c (by simp),ih fun x hx=>h x (by simp[hx])⟩
theorem q7f{L:Loc}{sz:Nat}{es:List AV}{fz:Bool}(hat:BlkAt w I m L (.arr sz es fz)):∀c∈flat es,qbn c=true:=by
 obtain⟨_,_,_,C,e,_,_,hcell,_⟩:=hat;intro c hc;obtain⟨i,hi⟩:=List.mem_iff_getElem?.1 hc;exact(hcell i c hi).choose_spec.2.1
theorem qyz{es:List AV}{e c:AV}(he:e∈es)(hc:c∈qai e):c∈flat es:=by
 simp only[flat,jBu];exact⟨e,he,hc⟩
theorem qEb(H:HeapAt w I m h){t:TypeId}{n:Nat}(hn:qgn P t=some n){id idx off sz:Nat}{es:List AV}(hid:qak h id=some (.arr sz es false)){u v:Value}{x y:AV}(hu:Rel w I (.ref id idx off) m u)(hx:Rel w I x m v)
  {h1:Heap} (hst:still h x=some (y,h1)) {sz1:Nat} {es1:List AV} (hid1:qak h1 id=some (.arr sz1 es1 false)) {e:AV} (he:es[idx]? = some e)
  (hlen:(qai y).length=n) (hoff:off+n<=(qai e).length) (hok:qaW (qai y)=true) :
  Does P w I m h nx (do Instr.storeAt t u v;pure .skip) q0s (qi3 h1 id (.arr sz (es.set idx (elemOf e (splice (qai e) off (qai y)))) false)):=by
 obtain⟨I1,a1,hy,hfr⟩:=qlY (nx:=nx) H hx hst;have hsame:sz1=sz/\es1=es:=by
  rcases hfr id with h|h<;>rw[h,hid]at hid1<;>simp[qlL]at hid1;exact⟨hid1.1.symm,hid1.2.symm⟩
 obtain⟨rfl,rfl⟩:=hsame;simp only[Rel]at hu;obtain⟨L,hL,rfl⟩:=hu;obtain⟨L',hL',hat⟩:=a1.heap.at_ id _ hid1;rw[hL]at hL';cases hL';have hokf:=q7f hat;obtain⟨g1,g2,g3,C,et,hC,hsz,hcell,hlive⟩:=hat;simp only[jAn,jBg]at hlive;have hc:=qcT hy hok;have hcl:=qa7 hc;have hvs:v.cells.size=n:=by rw[<-hlen,<-hcl];simp
 have hln:v.cells.toList.length=n:=by simpa using hvs
 have hidx:idx<es1.length:=(jAg.1 he).1;have hez:(qai e).length=sz1:=g3 e (jAl he);have hmul:idx*sz1+sz1<=es1.length*sz1:=by rw[<-Nat.succ_mul];exact jBc _ hidx
 have hrun:=qt9 (P:=P) hn (o:=L.base+idx*L.sz+off) hC hvs (qjH hc hok) (by rw[g2];omega);have hspl:(splice (qai e) off (qai y)).length=(qai e).length:=qn9 (by omega);have hokspl:isAgg e=true\/ ∀c∈splice (qai e) off (qai y),isAgg c=false:=by
  right;intro c hc';unfold splice at hc';rcases jAo.1 hc' with hc'|hc'
  ·rcases jAo.1 hc' with hc'|hc'
   ·exact qic (hokf c (qyz (jAl he) (jC1 hc')))
   ·exact qic (qcx hok c hc')
  ·exact qic (hokf c (qyz (jAl he) (jBn hc')))
 have hel:=qAT hspl hokspl;obtain⟨A,B,f1,f2,f3⟩:=qHF (e':=elemOf e (splice (qai e) off (qai y))) g3 he;have hflat:flat (es1.set idx (elemOf e (splice (qai e) off (qai y))))=splice (flat es1) (idx*sz1+off) (qai y):=by
  rw[f3,hel,f1,<-f2,qwT _ _ _ _ _ (by omega)]
 have hs3:∀x∈es1.set idx (elemOf e (splice (qai e) off (qai y))),(qai x).length=sz1:=by
  intro x hx;rcases List.mem_or_eq_of_mem_set hx with hx|rfl
  ·exact g3 x hx
  ·rw[hel,hspl,hez]
 have hfl:=qcb g3;have hst:Stays w (w.setRow L.blk (C.toList.take (L.base+idx*L.sz+off)++v.cells.toList++C.toList.drop (L.base+idx*L.sz+off+n)).toArray) I1:=qbA a1.heap hC (by simp[hvs];rw[g2];omega) hlive;have a2:After w (w.setRow L.blk (C.toList.take (L.base+idx*L.sz+off)++v.cells.toList++C.toList.drop (L.base+idx*L.sz+off+n)).toArray) I1 I1 m m h1
   (qi3 h1 id (.arr sz1 (es1.set idx (elemOf e (splice (qai e) off (qai y)))) false)) nx:=by
  refine After.write a1.heap hid1 hL hlive hC (by simp[hvs];rw[g2];omega) ⟨by simpa using g1,g2,hs3,_,et,setRow_heap w L.blk _ _ _ _ hC,?_,fun i c hc'=>?_,by simpa using hlive⟩
  ·simp[hvs];rw[g2];omega
  ·rw[hflat]at hc';have hg:=qn8 (C:=C.toList) (us:=v.cells.toList) (base:=L.base) (off:=idx*sz1+off) (cs:=flat es1) (vs:=qai y) (by simp[hvs,hlen]) (by rw[hfl];omega) (by rw[hfl];simp;omega)
    (Q:=fun c v=>qbn c = true /\ Rel w I1 c m0 v) (fun i c hc=>by simpa using hcell i c hc) (fun i c hc=>by
     obtain⟨q,hq,hr⟩:=qcr (qcT (m:=m0) hy hok) i c hc;exact⟨q,hq,qcx hok c (jAl hc),hr⟩) i c hc'
   obtain⟨q,hq,hk,hr⟩:=hg;refine⟨q,?_,hk,qaV hst (fun _ _ h=>h) c (fun _ _ h=>h) hr⟩;rw[hln]at hq;rw[g2];simpa[jCn]using hq
 exact⟨.skip,_,I1,m,by rw[Sem.run_bind,hrun];rfl,a1.trans a2,.inr ⟨rfl,rfl⟩⟩
theorem qCU{z:AV}{v:Value}(hr:qaQ w I (qai z) m v.cells.toList)(n:Nat) :
  qaQ w I (flat (List.replicate n z)) m ((List.range (n*(qai z).length)).map fun i=>v.cells[i%v.cells.size]!):=by
 have hl:=qa7 hr;have hvs:v.cells.size=(qai z).length:=by rw[<-hl];simp
 have hfl:(flat (List.replicate n z)).length=n*(qai z).length:=by
  rw[qcb (sz:=(qai z).length) (fun e he=>by rw[jCj he])];simp
 refine qyW (by simp[hfl]) fun i c u hc hu=>?_
 have hi:i<n*(qai z).length:=by rw[<-hfl];exact(jAg.1 hc).1
 have hpos:0<(qai z).length:=Nat.pos_of_ne_zero fun h=>by rw[h]at hi;omega
 have hget:(qai z)[i%(qai z).length]? = some c:=by
  have key:∀(n i:Nat),i<n*(qai z).length->(flat (List.replicate n z))[i]? = (qai z)[i%(qai z).length]?:=by
   intro n
   induction n with
   |zero=>intro i hi;omega
   |succ n ih=>
    intro i hi;have:flat (List.replicate (n+1) z)=qai z++flat (List.replicate n z):=rfl;rw[this];by_cases hlt:i<(qai z).length
    ·rw[jAu hlt,Nat.mod_eq_of_lt hlt]
    ·have hm:=Nat.succ_mul n (qai z).length;have hi':i-(qai z).length<n*(qai z).length:=by rw[Nat.succ_eq_add_one]at hm;omega
     rw[jB1 (by omega),ih _ hi',<-Nat.mod_eq_sub_mod (by omega)]
  rw[<-key n i hi];exact hc
 obtain⟨q,hq,hrel⟩:=qcr hr _ c hget;have hu':u=v.cells[i%v.cells.size]!:=by
  simp only[List.getElem?_map,List.getElem?_range hi,jBh,jA7]at hu;exact hu.symm
 have hlt:i%v.cells.size<v.cells.size:=Nat.mod_lt _ (by omega);rw[hu',getElem!_pos v.cells _ hlt];have:v.cells[i%v.cells.size]'hlt=q:=by
  have:=(jAg.1 hq).2;simp only[hvs];simpa using this
 rw[this];exact hrel
theorem qxt(H:HeapAt w I m h)(hnx:m nx=none){sz:Nat}{es:List AV}{us rest:List Value}(hs:∀e∈es,(qai e).length=sz)(hr:qaQ w I (flat es) m0 us)(hok:∀c∈flat es,qbn c=true)(t:TypeId){A:Array Value}(hA:A.toList=us++rest) :
  BlkAt (w.alloc (.cells A t)) I (named m nx ⟨w.heap.size,0,sz,es.length⟩) ⟨w.heap.size,0,sz,es.length⟩ (.arr sz es false):=by
 have hlen:=qa7 hr;have hfl:=qcb hs;have hAs:A.size=us.length+rest.length:=by rw[<-Array.length_toList,hA];simp
 refine⟨rfl,rfl,hs,A,t,heap_alloc_new w _,by simp only[jCl];omega,fun i c hc=>?_,?_⟩
 ·obtain⟨v,hv,hrel⟩:=qcr hr i c hc;have hi:i<us.length:=(jAg.1 hv).1;refine⟨v,?_,hok c (jAl hc),qaV (qgm H _) (fun _ _ h=>h) c (fun _ _ h=>h) hrel⟩;simp only[jCl];rw[<-Array.getElem?_toList,hA,jAu hi];exact hv
 ·simp only[jAn,jBg];intro o ho;exact Nat.lt_irrefl _ (H.old _ o ho)
theorem qlR{w':World}{sz num len cap:Nat}{A:Array Value}{e:TypeId}{b:Nat}(hA:w'.heap[b]? = some (.cells A e (0,0)))(hle:len<=cap)(hnum:num<=cap)(hcap:cap*sz<=A.size){lo:Option Nat}(hlo:qmq num 0 lo=len) :
  Rel w' I (.own nx 0 lo) (named m nx ⟨b,0,sz,num⟩) (.slice (some ⟨b,0,none⟩) len cap):=by
 simp only[Rel];refine⟨_,by simp[named];rfl,0,cap,A,e,by rw[hlo];rfl,by rw[hlo];exact hle,fun _=>by simp,by simpa using hnum,hA,by simpa using hcap⟩
theorem zn5(H:HeapAt w I m h)(hnx:m nx=none){t et:TypeId}{sz by_:Nat}{z:AV}(ht:P.underlying t=some (.slice et))(hsz:qgn P et=some sz)(hby:bytesOf P et=some by_)(hz:zeroOf P et=some z)(hpos:0<sz)(hzl:(qai z).length=sz)
  (hok:qaW (qai z)=true) {k k':IntKind} {l c:Int} (h0:0<=l) (h1:l<=c) (h2:c.toNat*by_<=lim) (h3:c<=4611686018427387904) {lo:Option Nat} (hlo:lo=some l.toNat\/lo=none/\l=c) :
  Does P w I m h nx (do pure (.value (<- Instr.makeSlice t (.int k l) (.int k' c)))) (.own nx 0 lo) (qi3 h nx (.arr sz (List.replicate c.toNat (nz z)) false)):=by
 obtain⟨i,hi,hisz⟩:=quH hsz;obtain⟨zv,hzv,hav⟩:=qCT hi hz;simp only[bytesOf,hi,jBh,jA7]at hby;have hr:Rel w I (nz z) m0 zv:=qmC _ (hav _ _ _);rw[<-q71]at hzl;rw[<-zj1]at hok;have hc:=qcT hr hok;have hcl:=qa7 hc;have hzs:zv.cells.size=sz:=by rw[<-hzl,<-hcl];simp
 have hb:(i.bytes:Int)*c<=281474976710656:=by
  have:((c.toNat*by_:Nat):Int)<=17592186044416:=by unfold lim at h2;omega
  have e:((c.toNat*by_:Nat):Int)=(i.bytes:Int)*c:=by rw[Int.natCast_mul,hby,Int.toNat_of_nonneg (by omega),Int.mul_comm]
  omega
 have hrun:=run_make (P:=P) w t et i zv ht hi hzv k k' l c h0 h1 hb (by omega);have hz2:=qCU hc c.toNat;rw[hzl,hzs]at hz2;have hA:(madeCells zv.cells (c.toNat*i.size)).toList=((List.range (c.toNat*sz)).map fun i=>zv.cells[i%sz]!)++[]:=by
  simp[madeCells,hisz,hzs]
 have hfl:=qa7 hz2;have hbk:=qxt H hnx (sz:=sz) (es:=List.replicate c.toNat (nz z)) (rest:=[]) (fun e he=>by rw[jCj he];exact hzl) hz2 (fun q hq=>by
  simp only[flat,jBu]at hq;obtain⟨e,he,hq⟩:=hq;rw[jCj he]at hq;exact qcx hok q hq) et hA
 have hAs:(madeCells zv.cells (c.toNat*i.size)).size=c.toNat*sz:=by rw[<-Array.length_toList,hA];simp
 refine⟨_,_,I,_,by rw[Sem.run_bind,hrun];rfl,After.alloc H hnx _ _ rfl _ hbk,.inl ⟨_,rfl,?_⟩⟩;exact qlR (heap_alloc_new w _) (by omega) (by simp) (by omega) (by rcases hlo with rfl|⟨rfl,rfl⟩<;>simp[qmq])
theorem qsD{sz:Nat}:∀{ps:List (Nat×Value)} {xs:List AV} {es:List AV} {us:List Value},qaQ w I xs m0 (ps.map (·.2))->(∀e∈es,(qai e).length=sz)->qaQ w I (flat es) m0 us ->
  ∀{es':List AV},qMF sz es ((ps.map (·.1)).zip xs)=some es' ->
   ∃us':List Value,Instr.fill (fun i=>some (i*sz,sz)) us.toArray ps=some us'.toArray/\qaQ w I (flat es') m0 us'/\es'.length=es.length/\(∀e∈es',(qai e).length=sz) /\
    ((∀c∈flat es,qbn c=true)-> ∀c∈flat es',qbn c=true)
 | [],xs,es,us,hx,hs,hr,es',hf=>by
  simp[qMF]at hf;subst hf;exact⟨us,rfl,hr,rfl,hs,fun h=>h⟩
 |(i,v)::ps,xs,es,us,hx,hs,hr,es',hf=>by
  simp only[jAs,qaQ]at hx
  match xs,hx,hf with
  |x::xs,hx,hf=>
   simp only[qaQ]at hx;obtain⟨v',vs',he,hxv,hx⟩:=hx;simp at he;obtain⟨rfl,rfl⟩:=he;simp only[jAs,List.zip_cons_cons,qMF]at hf;split at hf
   ·rename_i hc;obtain⟨hc1,hc2,hc3⟩:=hc;have hcells:=qcT hxv hc3;have hl1:=qa7 hcells;have hvs:v.cells.size=sz:=by rw[<-hc1,<-hl1];simp
    have hl2:=qa7 hr;have hfl:=qcb hs;have hmul:i*sz+sz<=es.length*sz:=by rw[<-Nat.succ_mul];exact jBc _ hc2
    obtain⟨A,B,f1,f2,f3⟩:=qHF (e':=x) hs (jAh hc2);have hflat:flat (es.set i x)=splice (flat es) (i*sz) (qai x):=by
     have hE:(qai es[i]).length=sz:=hs _ (by simp);rw[f3,f1,<-f2];have:=qwT A (qai es[i]) B (qai x) 0 (by omega);rw[Nat.add_zero]at this;rw[this]
     congr 2
     unfold splice;simp only[List.take_zero,jAx,jCl];rw[List.drop_eq_nil_of_le (by omega)];simp
    have hnew:=qwU hr hcells (i*sz);rw[<-hflat]at hnew;have hs':∀e∈es.set i x,(qai e).length=sz:=by
     intro e he;rcases List.mem_or_eq_of_mem_set he with he|rfl
     ·exact hs e he
     ·exact hc1
    obtain⟨us',hfill,hrel,hlen,hss,hok⟩:=qsD hx hs' hnew hf;refine⟨us',?_,hrel,by rw[hlen];simp,hss,fun ho=>hok fun c hc=>?_⟩
    ·simp only[Instr.fill];rw[jAm (by simp[hvs];omega)];have hfs:=foldl_set us.toArray v.cells.toList (i*sz) 0 us.toArray (by simp[hvs];omega);have hz:v.cells.zipIdx=(v.cells.toList.zipIdx 0).toArray:=by
      rw[<-Array.toArray_toList (xs:=v.cells.zipIdx)];simp
     rw[hz];simp only[List.foldl_toArray'];rw[hfs];simpa using hfill
    ·rw[hflat]at hc;unfold splice at hc;rcases jAo.1 hc with hc|hc
     ·rcases jAo.1 hc with hc|hc
      ·exact ho c (jC1 hc)
      ·exact qcx hc3 c hc
     ·exact ho c (jBn hc)
   ·cases hf
  | [],hx,hf=>simp[qaQ]at hx
theorem q2M(H:HeapAt w I m h)(hnx:m nx=none){t et:TypeId}{sz n:Nat}{z:AV}(ht:P.underlying t=some (.slice et))(hsz:qgn P et=some sz)(hz:zeroOf P et=some z)(hpos:0<sz)(hzl:(qai z).length=sz)(hzok:qaW (qai z)=true)(hbig:n*sz<=16777216)
  {ps:Array (Nat×Value)} {xs ys:List AV} (hx:qaQ w I xs m (ps.toList.map (·.2))) {h1:Heap} (hst:qwW h xs=some (ys,h1)) {es:List AV} (hf:qMF sz (List.replicate n (nz z)) ((ps.toList.map (·.1)).zip ys)=some es) :
  Does P w I m h nx (do pure (.value (<- Instr.buildSlice t n ps))) (.own nx 0 none) (qi3 h1 nx (.arr sz es false)):=by
 obtain⟨I1,a1,hy⟩:=qo6 (nx:=nx) H hx hst;obtain⟨zv,hzv,hav⟩:=qhR hz w;have hr:Rel w I1 (nz z) m0 zv:=qmC _ (hav _ _ _);rw[<-q71]at hzl;rw[<-zj1]at hzok;have hc:=qcT hr hzok;have hcl:=qa7 hc;have hzs:zv.cells.size=sz:=by rw[<-hzl,<-hcl];simp
 have hz2:=qCU hc n;rw[hzl,hzs]at hz2;obtain⟨us',hfill,hrel,hlen,hss,hok⟩:=qsD hy (fun e he=>by rw[jCj he];exact hzl) hz2 hf;have hokE:=hok fun q hq=>by
  simp only[flat,jBu]at hq;obtain⟨e,he,hq⟩:=hq;rw[jCj he]at hq;exact qcx hzok q hq
 have hlen':es.length=n:=by rw[hlen];simp
 have hul:=qa7 hrel;have hfl:=qcb hss;have hrun:(Instr.buildSlice t n ps).run P w= .ok (.slice (some ⟨w.heap.size,0,none⟩) n n) (w.alloc (.cells us'.toArray et)):=by
  have hbig':¬16777216<n*sz:=by omega
  have hcells:((Array.range (n*sz)).map fun i=>zv.cells[i%sz]!)=((List.range (n*sz)).map fun i=>zv.cells[i%sz]!).toArray:=by
   apply Array.ext';simp
  by_cases hn0:n*sz=0
  ·have hn:n=0:=(Nat.mul_eq_zero.1 hn0).resolve_right (by omega);subst hn;have hfill':Instr.fill (fun i=>some (i*sz,sz)) #[] ps.toList=some us'.toArray:=by simpa using hfill
   simp[Instr.buildSlice,run_underlying ht,run_sizeOf hsz,Array.range_zero',hfill',newRow]
  ·simp only[Instr.buildSlice,Sem.run_bind,run_underlying ht,Result.andThen_ok,run_sizeOf hsz];rw[jAm (by simpa using hbig')];simp only[hn0,jBg,Sem.run_bind,hzv,Result.andThen_ok,Sem.run_pure,hzs,hcells,hfill];simp[newRow]
 have hbk:=qxt a1.heap (by exact hnx) (nx:=nx) (sz:=sz) (es:=es) (us:=us') (rest:=[]) hss hrel hokE et (A:=us'.toArray) (by simp);refine⟨_,_,I1,_,by rw[Sem.run_bind,hrun];rfl,a1.trans (After.alloc a1.heap hnx _ _ rfl _ hbk),.inl ⟨_,rfl,?_⟩⟩;exact qlR (heap_alloc_new w _) (jAj _) (by simp[hlen']) (by simp only[jBw];rw[hul,hfl,hlen'];exact jAj _) (by rw[hlen'];rfl)
end
end Go.Eng
namespace Go.Eng
set_option linter.unusedSectionVars false
variable [Globs]
section
variable {P:Program} {w:World} {I:Imm} {m:Names} {h:Heap} {nx:Nat}
theorem HeapAt.sub'{h':Heap}(H:HeapAt w I m h)(hs:∀i b,qak h' i=some b->qak h i=some b):HeapAt w I m h':=
 ⟨fun i b hi=>H.at_ i b (hs i b hi),fun i j a b L L' hi hj=>H.apart i j a b L L' (hs i a hi) (hs j b hj),H.old,H.glob⟩
theorem After.less{w':World}{I':Imm}{m':Names}{h' h'':Heap}(a:After w w' I I' m m' h h' nx)(hs:∀i b,qak h'' i=some b->qak h' i=some b):After w w' I I' m m' h h'' nx:=
 ⟨a.stays,a.imm,a.names,a.fresh,a.heap.sub' hs,a.frame,a.newI,fun b ho=>by
  obtain⟨i,x,L,hi,hL,rfl⟩:=ho;exact a.owns _ ⟨i,x,L,hs i x hi,hL,rfl⟩,fun i b hi=>a.dom i b (hs i b hi)⟩
theorem qRT(H:HeapAt w I m h)(hnx:m nx=none){t et:TypeId}{sz:Nat}(ht:P.underlying t=some (.slice et))(hsz:qgn P et=some sz){ps:Array (Nat×Value)}(hps:ps.toList= []) :
  Does P w I m h nx (do pure (.value (<- Instr.buildSlice t 0 ps))) (.nils ⟨sz,.any⟩) h:=by
 have hps':ps= #[]:=Array.ext' hps;subst hps';have hrun:(Instr.buildSlice t 0 #[]).run P w= .ok (.slice (some ⟨w.heap.size,0,none⟩) 0 0) (w.alloc (.cells #[] et)):=by
  simp[Instr.buildSlice,run_underlying ht,run_sizeOf hsz,Array.range_zero',Instr.fill,newRow]
 have hbk:=qxt H hnx (nx:=nx) (sz:=sz) (es:=[]) (us:=[]) (rest:=[]) (by simp) (by simp[qaQ,flat]) (by simp[flat]) et (A:=#[]) (by simp);have ha:=(After.alloc H hnx _ _ rfl _ hbk).less (h'':=h) (fun i b hi=>by
  by_cases hq:i=nx
  ·subst hq;obtain⟨L,hL,_⟩:=H.at_ _ _ hi;rw[hnx]at hL;cases hL
  ·rw[qbG,jAm hq];exact hi)
 exact⟨_,_,I,_,by rw[Sem.run_bind,hrun];rfl,ha,.inl ⟨_,rfl,by simp only[Rel];exact⟨_,_,rfl,by simp,by simp,by simp⟩⟩⟩
theorem qCx(H:HeapAt w I m h){sz:Nat}{x:AV}{v:Value}(hr:Rel w I x m v){src:List AV}(hs:qy2 h sz x=some src) :
  ∃news:List Value,qaQ w I (flat src) m0 news/\(∀u∈news,u.oneCell'=true)/\(∀e∈src,(qai e).length=sz)/\(∀c∈flat src,qbn c=true) /\
   ∀w':World,w'.heap=w.heap->(Builtin.lenOf v).run P w'= .ok src.length w'/\(Builtin.firstCells sz src.length v).run P w'= .ok news.toArray w':=by
 have mem:∀(es:List AV) (b o len cap:Nat),len<=cap->es.length=len->(∀e∈es,(qai e).length=sz)->(∀(i:Nat) (c:AV),(flat es)[i]? = some c->qbn c=true/\ ∃u,w.cell? (ad b (o+i))=some u/\Rel w I c m0 u) ->
   ∃news:List Value,qaQ w I (flat es) m0 news/\(∀u∈news,u.oneCell'=true)/\(∀e∈es,(qai e).length=sz)/\(∀c∈flat es,qbn c=true) /\
    ∀w':World,w'.heap=w.heap->(Builtin.lenOf (.slice (some (ad b o)) len cap)).run P w'= .ok es.length w'/\(Builtin.firstCells sz es.length (.slice (some (ad b o)) len cap)).run P w'= .ok news.toArray w':=by
  intro es b o len cap hle hlen hsz hc;have hcells:Cells w I m0 (flat es) b o:=fun i c h=>(hc i c h).2
  obtain⟨us,hl,hcell,hrel⟩:=hcells.list;have hok:∀c∈flat es,qbn c=true:=fun c h=>by
   obtain⟨i,hi⟩:=List.mem_iff_getElem?.1 h;exact(hc i c hi).1
  refine⟨us,hrel,qjH hrel (qKW hok),hsz,hok,fun w' hw=>⟨by simp[Builtin.lenOf,hlen],?_⟩⟩;have hcell':∀j u,us[j]? = some u->w'.cell? ((ad b o).add j)=some u:=fun j u hu=>by
   have:=hcell j u hu;simpa[World.cell?,hw]using this
  exact run_firstCells_some w' sz es.length (ad b o) len cap us (by rw[hl,qcb hsz]) hcell'
 cases x<;>simp only[qy2,reduceCtorEq]at hs
 case nils=>
  simp at hs;subst hs;simp only[Rel]at hr;obtain⟨ar,cap,rfl,_⟩:=qjB hr;refine⟨[],by simp[qaQ,flat],by simp,by simp,by simp[flat],fun w' _=>⟨by simp[Builtin.lenOf],?_⟩⟩;cases ar with
  |none=>simp[Builtin.firstCells]
  |some ar=>exact run_firstCells_some w' sz 0 ar 0 cap [] (by simp) (by simp)
 case view sz' es=>
  split at hs
  ·rename_i he;subst he;simp at hs;subst hs;simp only[Rel]at hr;obtain⟨ar,cap,rfl,hcap,hE,_⟩:=hr;rcases hE with he|⟨b,o,rfl,hE⟩
   ·have he':es= []:=jAy.1 he;subst he';refine⟨[],by simp[qaQ,flat],by simp,by simp,by simp[flat],fun w' _=>⟨by simp[Builtin.lenOf],?_⟩⟩;cases ar with
    |none=>simp[Builtin.firstCells]
    |some ar=>exact run_firstCells_some w' sz' 0 ar 0 cap [] (by simp) (by simp)
   ·obtain⟨h1,h2⟩:=qko.1 hE;exact mem es b o es.length cap hcap rfl h1 fun i c hc=>⟨(h2 i c hc).2.1,(h2 i c hc).2.2⟩
  ·cases hs
 case own id off lo=>
  split at hs
  ·rename_i sz' es fz hl;have hs2:∃len,sz'=sz/\src=(es.drop off).take len/\((lo=some len/\off+len<=es.length)\/(lo=none/\len=es.length-off)):=by
    split at hs
    ·rename_i len;split at hs
     ·rename_i hc;simp at hs;exact⟨len,hc.1,by rw[<-hs,qkK],.inl ⟨rfl,hc.2⟩⟩
     ·cases hs
    ·split at hs
     ·rename_i hc;simp at hs;exact⟨_,hc,by rw[<-hs,qme,jBb (by simp)],.inr ⟨rfl,rfl⟩⟩
     ·cases hs
   obtain⟨len,hszz,rfl,hlo⟩:=hs2;subst hszz;simp only[Rel]at hr;obtain⟨L,hL,o,cap,C,e,rfl,hcap,ho,hnum,hC,hsize⟩:=hr;obtain⟨L',hL',hat⟩:=H.at_ id _ hl;rw[hL]at hL';cases hL';obtain⟨h1,h2,h3,C',e',hC',hsz,hcell,_⟩:=hat;rw[hC]at hC';cases hC';have hlen:qmq L.num off lo=len:=by
    rcases hlo with⟨rfl,_⟩|⟨rfl,rfl⟩
    ·rfl
    ·rw[qea,h1]
   have hll:((es.drop off).take len).length=len:=by rcases hlo with⟨_,hle⟩|⟨_,hle⟩<;>simp<;>omega
   rw[hlen]at hcap ⊢;have h3':∀e∈es.drop off,(qai e).length=sz':=fun e he=>h3 e (jBn he)
   have h3'':∀e∈(es.drop off).take len,(qai e).length=sz':=fun e he=>h3' e (jC1 he)
   by_cases hc0:cap=0
   ·have:len=0:=by omega
    subst this;simp only[List.take_zero];exact⟨[],by simp[qaQ,flat],by simp,by simp,by simp[flat],fun w' _=>⟨by simp[Builtin.lenOf],by simp[Builtin.firstCells,loadCells,loadCellsFrom]⟩⟩
   ·refine mem _ L.blk o len cap hcap hll h3'' fun i c hc=>?_
    rw[qjr h3',qjq h3,jCf]at hc;split at hc
    ·rw[jBs]at hc;obtain⟨u,hu,hk,hrel⟩:=hcell _ c hc;refine⟨hk,u,?_,hrel⟩;rw[ho hc0,qft hC,h2,jCn];exact hu
    ·cases hc
  ·cases hs
section runs
variable {t u ty e e':TypeId} {sz by_:Nat} {v:Value} {n:Nat} {news:List Value}
theorem qCt(ht:P.underlying t=some (.slice e))(hu:P.underlying u=some (.slice e'))(hsz:qgn P e=some sz){base:Option Addr}{len cap:Nat}(hle:len<=cap)
  (hv:(Builtin.lenOf v).run P w= .ok 0 w) (hf:(Builtin.firstCells sz 0 v).run P w= .ok (#[]:Array Value) w) :
  (Builtin.append_ #[t,u] ty #[.slice base len cap,v]).run P w= .ok (.slice base len cap) w:=by
 cases base<;>simp[Builtin.append_,run_underlying ht,run_underlying hu,run_sizeOf hsz,hv,hle,hf,storeCells]
theorem qy1(ht:P.underlying t=some (.slice e))(hu:P.underlying u=some (.slice e'))(hsz:qgn P e=some sz){g o len cap:Nat}{C:Array Value}{et:TypeId}(hC:w.heap[g]? = some (.cells C et (0,0)))
  (hv:(Builtin.lenOf v).run P w= .ok n w) (hf:(Builtin.firstCells sz n v).run P w= .ok news.toArray w) (h1:∀u∈news,u.oneCell'=true) (hroom:len+n<=cap) (hfit:o+len*sz+news.length<=C.size) :
  (Builtin.append_ #[t,u] ty #[.slice (some (ad g o)) len cap,v]).run P w =
   .ok (.slice (some (ad g o)) (len+n) cap) (w.setRow g (C.toList.take (o+len*sz)++news++C.toList.drop (o+len*sz+news.length)).toArray):=by
 have hst:=run_storeCells_at P g (o+len*sz) et news 0 C w hC (by simpa using hfit) h1;simp only[Nat.add_zero]at hst;rw[<-ad]at hst;simp only[Builtin.append_,List.getElem?_toArray,List.getElem?_cons_zero,List.getElem?_cons_succ,Sem.run_bind,run_underlying ht,run_underlying hu,Result.andThen_ok,run_sizeOf hsz,hv,hroom,jB2,Sem.run_pure,jAn,jBg,Bool.not_false,hf,qiN,hst]
theorem qCs(ht:P.underlying t=some (.slice e))(hu:P.underlying u=some (.slice e')){i:TypeInfo}{z:Value}(hi:P.info? e=some i)(hz:i.zero=some z){base:Option Addr}{len cap:Nat}{olds:List Value}
  (ho:(Builtin.firstCells i.size len (.slice base len cap)).run P w.drew= .ok olds.toArray w.drew)
  (hv:(Builtin.lenOf v).run P w= .ok n w) (hf:(Builtin.firstCells i.size n v).run P w.drew= .ok news.toArray w.drew) (hgrow:cap<len+n) (h63:len+n<=4611686018427387904) (hfit:Builtin.nextslicecap (len+n) cap*i.bytes<=281474976710656) :
  (Builtin.append_ #[t,u] ty #[.slice base len cap,v]).run P w =
   .ok (.slice (some ⟨w.heap.size,0,none⟩) (len+n) (grownCap w (len+n) cap e))
    (w.drew.alloc (.cells (olds.toArray++news.toArray++Builtin.zeroCells z.cells (grownCap w (len+n) cap e-(len+n))) e)):=by
 have hn:¬(len+n<=cap):=by omega
 have h63':¬(9223372036854775807<((len:Int)+(n:Int))):=by omega
 have h48':¬(281474976710656<Builtin.nextslicecap (len+n) cap*i.bytes):=by omega
 simp[Builtin.append_,run_underlying ht,run_underlying hu,Go.sizeOf,typeInfo,zeroValue,hi,hz,hv,hn,h63',h48',Question.forced,hf,ho,newRow,grownCap]
 congr 2
 apply Array.ext';simp[jAf]
end runs
theorem After.over(H:HeapAt w I m h)(hnx:m nx=none){id:Nat}{old new:Blk}(hid:qak h id=some old){L L':Loc}(hL:m id=some L)(hLL:L'.blk=L.blk)(hlive:∀o,¬I L.blk o){C C':Array Value}{e:TypeId}
  (hC:w.heap[L.blk]? = some (.cells C e (0,0))) (hs:C'.size=C.size) (hnew:BlkAt (w.setRow L.blk C') I (named m nx L') L' new) :
  After w (w.setRow L.blk C') I I m (named m nx L') h (qi3 (qHI h id) nx new) nx where
 stays:=qbA H hC hs hlive
 imm:=fun _ _ h=>h
 names:=qit hnx L'
 fresh:=fun i h1 h2=>by
  unfold named at h2;split at h2
  ·omega
  ·exact absurd h1 h2
 heap:=by
  have look:∀i a,qak (qi3 (qHI h id) nx new) i=some a->(i=nx/\a=new)\/(i≠nx/\i≠id/\qak h i=some a):=by
   intro i a hi;rw[qbG]at hi;by_cases e:i=nx
   ·rw[jAr e]at hi;simp at hi;exact .inl ⟨e,hi.symm⟩
   ·rw[jAm e,qhp]at hi;by_cases e':i=id
    ·rw[jAr e']at hi;cases hi
    ·rw[jAm e']at hi;exact .inr ⟨e,e',hi⟩
  constructor
  ·intro i a hi;rcases look i a hi with⟨rfl,rfl⟩|⟨h1,h2,h3⟩
   ·exact⟨L',by simp[named],hnew⟩
   ·obtain⟨L1,hL1,hat⟩:=H.at_ i a h3;have hne:L1.blk≠L.blk:=fun he=>h2 (H.apart i id a old L1 L h3 hid hL1 hL he)
    exact⟨L1,qit hnx L' i L1 hL1,hat.keep (qbA H hC hs hlive) (fun _ _ h=>h) (qit hnx L') (setRow_other w _ _ _ hne) fun _ h=>h⟩
  ·intro i j a b L1 L2 hi hj hL1 hL2 he;rcases look i a hi with⟨rfl,rfl⟩|⟨h1,h2,h3⟩<;>rcases look j b hj with⟨rfl,rfl⟩|⟨g1,g2,g3⟩
   ·rfl
   ·simp only[named,jB2,jA7]at hL1;subst hL1;simp only[named,jAm g1]at hL2;exact absurd (H.apart j id b old L2 L g3 hid hL2 hL (by rw[<-he,hLL])) g2
   ·simp only[named,jB2,jA7]at hL2;subst hL2;simp only[named,jAm h1]at hL1;exact absurd (H.apart i id a old L1 L h3 hid hL1 hL (by rw[he,hLL])) h2
   ·simp only[named,jAm h1]at hL1;simp only[named,jAm g1]at hL2;exact H.apart i j a b L1 L2 h3 g3 hL1 hL2 he
  ·intro b o hi;simpa using H.old b o hi
  ·exact H.glob.mono (qbA H hC hs hlive) fun _ _ h=>h
 frame:=fun k hk hno=>setRow_other w _ k _ fun e=>hno ⟨id,old,L,hid,hL,e.symm⟩
 newI:=fun _ _ h=>.inl h
 owns:=fun k ho=>by
  obtain⟨i,a,L1,hi,hL1,rfl⟩:=ho;rw[qbG]at hi;by_cases e:i=nx
  ·simp only[named,jAr e,jA7]at hL1;subst hL1;exact .inl ⟨id,old,L,hid,hL,hLL.symm⟩
  ·rw[jAm e,qhp]at hi;simp only[named,jAm e]at hL1;by_cases e':i=id
   ·rw[jAr e']at hi;cases hi
   ·rw[jAm e']at hi;exact .inl ⟨i,a,L1,hi,hL1,rfl⟩
 dom:=fun i a hi=>by
  rw[qbG]at hi;by_cases e:i=nx
  ·subst e;exact .inr hnx
  ·rw[jAm e,qhp]at hi;by_cases e':i=id
   ·rw[jAr e']at hi;cases hi
   ·rw[jAm e']at hi;exact .inl ⟨a,hi⟩
theorem q3r{need old by_:Nat}(hold:old<need)(hb:need*by_<=lim):Builtin.nextslicecap need old*by_<=281474976710656:=
 growslice_fits hold (by unfold lim at hb;omega)
theorem zdM{n by_:Nat}(hpos:0<by_)(hb:n*by_<=lim):n<=17592186044416:=by
 unfold lim at hb;have:n*1<=n*by_:=Nat.mul_le_mul_left _ hpos;omega
theorem qRU(H:HeapAt w I m h)(hnx:m nx=none){t u e e':TypeId}{sz by_:Nat}{z:AV}(ht:P.underlying t=some (.slice e))(hu:P.underlying u=some (.slice e'))(hsz:qgn P e=some sz)(hby:bytesOf P e=some by_)(hz:zeroOf P e=some z)
  (hpos:0<sz) (hbp:0<by_) (hzl:(qai z).length=sz) (hzok:qaW (qai z)=true) {base:Option Addr} {len cap:Nat} {old src:List AV} {olds news:List Value} {v:Value}
  (ho:(Builtin.firstCells sz len (.slice base len cap)).run P w.drew= .ok olds.toArray w.drew) (hor:qaQ w I (flat old) m0 olds) (hos:∀x∈old,(qai x).length=sz) (hol:old.length=len) (hok:∀c∈flat old,qbn c=true)
  (hv:(Builtin.lenOf v).run P w= .ok src.length w) (hf:(Builtin.firstCells sz src.length v).run P w.drew= .ok news.toArray w.drew) (hnr:qaQ w I (flat src) m0 news) (hns:∀x∈src,(qai x).length=sz) (hnk:∀c∈flat src,qbn c=true)
  (hgrow:cap<len+src.length) (hb:(len+src.length)*by_<=lim) (ty:TypeId) :
  Does P w I m h nx (do pure (.value (<- Builtin.append_ #[t,u] ty #[.slice base len cap,v]))) (.own nx 0 none) (qi3 h nx (.arr sz (old++src) false)):=by
 obtain⟨i,hi,hisz⟩:=quH hsz;obtain⟨zv,hzv,hav⟩:=qCT hi hz;simp only[bytesOf,hi,jBh,jA7]at hby;have hzr:Rel w I z m0 zv:=hav _ _ _;have hzc:=qcT hzr hzok;have hzs:zv.cells.size=sz:=by rw[<-hzl,<-qa7 hzc];simp
 subst hisz;subst hby;have hn:=zdM hbp hb;have hrun:=qCs (P:=P) (ty:=ty) ht hu hi hzv ho hv hf hgrow (by omega) (q3r hgrow hb);have hcap:len+src.length<=grownCap w (len+src.length) cap e:=grownCap_ge w _ _ _;have hall:∀x∈old++src,(qai x).length=i.size:=fun x hx=>by
  rcases jAo.1 hx with hx|hx
  ·exact hos x hx
  ·exact hns x hx
 have hrel:qaQ w I (flat (old++src)) m0 (olds++news):=by rw[qdR];exact qdX hor hnr
 have hl1:=qa7 hor;have hl2:=qa7 hnr;have hfo:=qcb hos;have hfn:=qcb hns;have hA:(olds.toArray++news.toArray++Builtin.zeroCells zv.cells (grownCap w (len+src.length) cap e-(len+src.length))).toList=(olds++news)++(Builtin.zeroCells zv.cells (grownCap w (len+src.length) cap e-(len+src.length))).toList:=by
  simp
 have hbk:=qxt (w:=w.drew) H.drew hnx (nx:=nx) (sz:=i.size) (es:=old++src) hall (qhz (show Stays w w.drew I from⟨jAj _,fun _ C _ h=>⟨C,h,rfl⟩,fun _ _ _=>rfl,⟨rfl,rfl,rfl⟩⟩) (fun _ _ h=>h) _ (fun _ _ h=>h) hrel) (fun c hc=>by
  rw[qdR]at hc;rcases jAo.1 hc with hc|hc
  ·exact hok c hc
  ·exact hnk c hc) e hA
 have hsize:(olds.toArray++news.toArray++Builtin.zeroCells zv.cells (grownCap w (len+src.length) cap e-(len+src.length))).size=grownCap w (len+src.length) cap e*i.size:=by
  simp only[Array.size_append,jBw,size_zeroCells,hzs,hl1,hl2,hfo,hfn,hol,<-jBe]
  congr 1;omega
 refine⟨_,_,I,_,by rw[Sem.run_bind,hrun];rfl,(After.alloc H.drew hnx _ _ rfl _ hbk).drew,.inl ⟨_,rfl,?_⟩⟩;exact qlR (heap_alloc_new w.drew _) hcap (by simpa[hol]using hcap) (by rw[hsize];exact jAj _) (by simp[qmq,hol])
theorem qCn{L:Loc}{sz:Nat}{es:List AV}{fz:Bool}(hat:BlkAt w I m L (.arr sz es fz))(off n:Nat) :
  ∃us:List Value,qaQ w I (flat ((es.drop off).take n)) m0 us/\(∀x∈(es.drop off).take n,(qai x).length=sz)/\(∀c∈flat ((es.drop off).take n),qbn c=true):=by
 have hok:=q7f hat;obtain⟨_,_,h3,C,e,hC,_,hcell,_⟩:=hat;have h3':∀x∈(es.drop off).take n,(qai x).length=sz:=fun x hx=>h3 x (jBn (jC1 hx))
 obtain⟨us,hl,hq⟩:=qry (Q:=fun i c u=>Rel w I c m0 u) (flat es) fun i c hc=>by
  obtain⟨u,_,_,hr⟩:=hcell i c hc;exact⟨u,hr⟩
 have hr:qaQ w I (flat es) m0 us:=qyW hl hq;have h3d:∀x∈es.drop off,(qai x).length=sz:=fun x hx=>h3 x (jBn hx)
 refine⟨(us.drop (off*sz)).take (n*sz),?_,h3',fun c hc=>?_⟩
 ·rw[qjr h3d,qjq h3];exact qjI _ (qjG _ hr)
 ·simp only[flat,jBu]at hc;obtain⟨x,hx,hc⟩:=hc;exact hok c (qyz (jBn (jC1 hx)) hc)
theorem zn3(H:HeapAt w I m h)(hnx:m nx=none){t u e e':TypeId}{sz by_:Nat}{z:AV}(ht:P.underlying t=some (.slice e))(hu:P.underlying u=some (.slice e'))(hsz:qgn P e=some sz)(hby:bytesOf P e=some by_)(hz:zeroOf P e=some z)
  (hpos:0<sz) (hbp:0<by_) (hzl:(qai z).length=sz) (hzok:qaW (qai z)=true) {s x:AV} {sv v:Value} (hsr:Rel w I s m sv) (hxr:Rel w I x m v) {src:List AV} (hs:qy2 h sz x=some src) {r:AV} {h':Heap}
  (ha:qKO h nx sz by_ s src=some (r,h')) (ty:TypeId) :
  Does P w I m h nx (do pure (.value (<- Builtin.append_ #[t,u] ty #[sv,v]))) r h':=by
 obtain⟨news,hnr,hn1,hns,hnk,hrun⟩:=qCx (P:=P) H hxr hs;obtain⟨hv,hf⟩:=hrun w rfl;obtain⟨_,hfd⟩:=hrun w.drew rfl;have hnl:=qa7 hnr;have hfn:=qcb hns;have none_case:∀{base:Option Addr} {len cap:Nat},len<=cap->src.length=0->sv= .slice base len cap->Does P w I m h nx (do pure (.value (<- Builtin.append_ #[t,u] ty #[sv,v]))) s h:=by
  intro base len cap hle hz0 he;have hn0:news= []:=List.eq_nil_of_length_eq_zero (by rw[hnl,hfn,hz0];simp);rw[hz0]at hv hf;rw[hn0]at hf;subst he;exact(qaO (qCt (P:=P) ht hu hsz hle hv hf) hsr).does H
 cases s<;>simp only[qKO,reduceCtorEq]at ha
 case nils=>
  simp only[Rel]at hsr;split at ha
  ·rename_i h0;simp only[jA7,jAd]at ha;obtain⟨rfl,rfl⟩:=ha;obtain⟨b,cap,he,_⟩:=qjB hsr;exact none_case (jBa cap) h0 he
  ·rename_i h0;split at ha
   ·cases ha
   ·rename_i hk;split at ha
    ·rename_i hl;simp only[jA7,jAd]at ha;obtain⟨rfl,rfl⟩:=ha;obtain⟨b,cap,rfl,hc,_⟩:=hsr;have hc0:=hc (fun h=>hk h);subst hc0;have:=qRU H hnx (u:=u) ht hu hsz hby hz hpos hbp hzl hzok (base:=b) (len:=0) (cap:=0) (old:=[]) (src:=src) (olds:=[]) (v:=v) (by
      cases b with
      |none=>simp[Builtin.firstCells]
      |some ar=>exact run_firstCells_some w.drew sz 0 ar 0 0 [] (by simp) (by simp)) (by simp[qaQ,flat]) (by simp) rfl (by simp[flat]) hv hfd hnr hns hnk (by omega) (by simpa using hl) ty
     simpa using this
    ·cases ha
 case view sz' es=>
  split at ha
  ·rename_i h0;simp only[jA7,jAd]at ha;obtain⟨rfl,rfl⟩:=ha;have:=hsr;simp only[Rel]at this;obtain⟨ar,cap,he,hcap,_⟩:=this;exact none_case hcap h0 he
  ·cases ha
 case own id off lo=>
  split at ha
  ·rename_i sz' es hl;split at ha
   ·rename_i hc;subst hc;have hsr':=hsr;simp only[Rel]at hsr';obtain⟨L,hL,o,cap,C,et,he,hcap,ho,hnum,hC,hsize⟩:=hsr';obtain⟨L',hL',hat⟩:=H.at_ id _ hl;rw[hL]at hL';cases hL';have hat':=hat;obtain⟨g1,g2,g3,C',et',hC',hsz',hcell,hlive⟩:=hat';rw[hC]at hC';cases hC';simp only[jAn,jBg]at hlive;have hfl:=qcb g3;split at ha
    ·rename_i h0;simp only[jA7,jAd]at ha;obtain⟨rfl,rfl⟩:=ha;exact none_case hcap h0 he
    ·rename_i h0;have gen:∀len,qmq L.num off lo=len ->
       (∀_:len+src.length<=cap,o=L.base+off*sz'/\o+len*sz'+news.length<=C.size) /\
       (∀_:len+src.length<=cap,(Builtin.append_ #[t,u] ty #[sv,v]).run P w= .ok (.slice (some (ad L.blk o)) (len+src.length) cap) (w.setRow L.blk (C.toList.take (o+len*sz')++news++C.toList.drop (o+len*sz'+news.length)).toArray)) /\
       (∀_:len+src.length<=cap,(C.toList.take (o+len*sz')++news++C.toList.drop (o+len*sz'+news.length)).toArray.size=C.size):=by
      intro len hlen;rw[hlen]at he hcap;have hpl:len+src.length<=cap->o=L.base+off*sz'/\o+len*sz'+news.length<=C.size:=fun hroom=>by
       have ho':=ho (by omega);rw[g2]at ho';refine⟨ho',?_⟩;have h1:(off+cap)*sz'<=C.size-L.base:=by rw[g2]at hsize;omega
       have h2:(off+(len+src.length))*sz'<=(off+cap)*sz':=jBc _ (by omega);have h3:(off+(len+src.length))*sz'=off*sz'+len*sz'+src.length*sz':=by rw[jBe,jBe];omega
       have h4:L.base<=C.size:=by rw[g2]at hsize;omega
       rw[hnl,hfn];omega
      have hplace:∀hroom:len+src.length<=cap,(Builtin.append_ #[t,u] ty #[sv,v]).run P w= .ok (.slice (some (ad L.blk o)) (len+src.length) cap) (w.setRow L.blk (C.toList.take (o+len*sz')++news++C.toList.drop (o+len*sz'+news.length)).toArray):=fun hroom=>by
       rw[he];exact qy1 (P:=P) ht hu hsz hC hv hf hn1 hroom (hpl hroom).2
      have hsz2:∀hroom:len+src.length<=cap,(C.toList.take (o+len*sz')++news++C.toList.drop (o+len*sz'+news.length)).toArray.size=C.size:=fun hroom=>by
       have:=(hpl hroom).2;simp;omega
      exact⟨hpl,hplace,hsz2⟩
     have hmain:∀len,qmq L.num off lo=len->off+len<=es.length->(len+src.length)*by_<=lim->Does P w I m h nx (do pure (.value (<- Builtin.append_ #[t,u] ty #[sv,v]))) (.own nx 0 none) (qi3 (qHI h id) nx (.arr sz' ((es.drop off).take len++src) false)):=by
      intro len hlen hle hl2;obtain⟨hpl,hplace,hsz2⟩:=gen len hlen;rw[hlen]at he hcap;obtain⟨olds,hor,hos,hok⟩:=qCn hat off len;have hol:((es.drop off).take len).length=len:=by simp;omega
      have hids:id≠nx:=fun e=>by rw[e,hnx]at hL;cases hL
      by_cases hroom:len+src.length<=cap
      ·have ho':=(hpl hroom).1;have hfit:=(hpl hroom).2;have hc0:cap≠0:=by omega
       have hst:Stays w (w.setRow L.blk (C.toList.take (o+len*sz')++news++C.toList.drop (o+len*sz'+news.length)).toArray) I:=qbA H hC (hsz2 hroom) hlive;have hT:∀x∈(es.drop off).take len++src,(qai x).length=sz':=fun x hx=>by
        rcases jAo.1 hx with hx|hx
        ·exact hos x hx
        ·exact hns x hx
       have hle2:(off+len)*sz'<=es.length*sz':=jBc _ hle;have hlo:(flat ((es.drop off).take len)).length=len*sz':=by rw[qcb hos,hol]
       have hon:o+len*sz'<=C.size:=by omega
       refine⟨_,_,I,_,by rw[Sem.run_bind,hplace hroom];rfl,After.over H hnx hl hL (L':=⟨L.blk,o,sz',len+src.length⟩) rfl hlive hC (hsz2 hroom) ⟨by simp[hol],rfl,hT,_,et,setRow_heap w L.blk _ _ _ _ hC,?_,fun i c hc'=>?_,by simpa using hlive⟩,.inl ⟨_,rfl,?_⟩⟩
       ·rw[hsz2 hroom];simp only[jA2,hol,jBe];rw[hnl,hfn]at hfit;omega
       ·rw[qdR]at hc';by_cases hi:i<len*sz'
        ·rw[jAu (by omega)]at hc';have h3d:∀x∈es.drop off,(qai x).length=sz':=fun x hx=>g3 x (jBn hx)
         rw[qjr h3d,qjq g3,jCf,jAr hi,jBs]at hc';obtain⟨q,hq,hk,hr⟩:=hcell _ c hc';refine⟨q,?_,hk,qaV hst (fun _ _ h=>h) c (fun _ _ h=>h) hr⟩;show(C.toList.take (o+len*sz')++news++C.toList.drop (o+len*sz'+news.length)).toArray[o+i]? = some q;rw[List.getElem?_toArray,jAf,jAu (by simp;omega),jCf,jAr (by omega)];rw[ho',jCn];simpa using hq
        ·rw[jB1 (by omega),hlo]at hc';obtain⟨q,hq,hr⟩:=qcr hnr _ c hc';refine⟨q,?_,hnk c (jAl hc'),qaV hst (fun _ _ h=>h) c (fun _ _ h=>h) hr⟩;have hqi:i-len*sz'<news.length:=(jAg.1 hq).1;show(C.toList.take (o+len*sz')++news++C.toList.drop (o+len*sz'+news.length)).toArray[o+i]? = some q;have hTk:(C.toList.take (o+len*sz')).length=o+len*sz':=by simp;omega
         rw[List.getElem?_toArray,jAf,jB1 (by omega),hTk,jAu (by omega)];rw[show o+i-(o+len*sz')=i-len*sz' by omega];exact hq
       ·simp only[Rel];refine⟨⟨L.blk,o,sz',len+src.length⟩,by simp[named],o,cap,_,et,rfl,hroom,fun _=>by simp,by simpa using hroom,setRow_heap w L.blk _ _ _ _ hC,?_⟩;rw[hsz2 hroom];simp only[jCl];rw[ho'];rw[g2,jBe]at hsize;omega
      ·have hfo:(Builtin.firstCells sz' len (.slice (some (ad L.blk o)) len cap)).run P w.drew= .ok olds.toArray w.drew->True:=fun _=>trivial
       have hsrc:=qCx (P:=P) H hsr (show qy2 h sz' (.own id off lo)=some ((es.drop off).take len) by
        cases lo with
        |none=>
         rw[qea,g1]at hlen;simp only[qy2,hl,jB2,qme];rw[jBb (by simp;omega)]
        |some n=>
         rw[qBF]at hlen;subst hlen;simp[qy2,hl,hle,qkK])
       obtain⟨olds2,hor2,_,hos2,hok2,hrun2⟩:=hsrc;obtain⟨_,hfo2⟩:=hrun2 w.drew rfl;rw[hol,he]at hfo2;rw[he];have hD:=qRU H hnx (u:=u) ht hu hsz hby hz hpos hbp hzl hzok hfo2 hor2 hos2 hol hok2 hv hfd hnr hns hnk (by omega) hl2 ty;obtain⟨nn,w',I',m',h1,h2,h3⟩:=hD;refine⟨nn,w',I',m',h1,h2.less fun i b hi=>?_,h3⟩;rw[qbG]at hi ⊢;by_cases ei:i=nx
       ·rw[jAr ei]at hi ⊢;exact hi
       ·rw[jAm ei]at hi ⊢;rw[qhp]at hi;by_cases e2:i=id
        ·rw[jAr e2]at hi;cases hi
        ·rw[jAm e2]at hi;exact hi
     split at ha
     ·split at ha
      ·rename_i hc2;simp only[jA7,jAd]at ha;obtain⟨rfl,rfl⟩:=ha;have:=hmain (es.length-off) (by rw[qea,g1]) (by omega) (by simpa[qea]using hc2.2);rw[jBb (by simp)]at this;rw[qme];exact this
      ·cases ha
     ·rename_i len;obtain⟨hpl,hplace,hsz2⟩:=gen len rfl;split at ha
      ·rename_i hle;split at ha
       ·rename_i hin;simp only[jA7,jAd]at ha;obtain⟨rfl,rfl⟩:=ha;rw[qBF]at he hcap;have hroom:len+src.length<=cap:=by omega
        have ho':=(hpl hroom).1;have hfit:=(hpl hroom).2;have hst:Stays w (w.setRow L.blk (C.toList.take (o+len*sz')++news++C.toList.drop (o+len*sz'+news.length)).toArray) I:=qbA H hC (hsz2 hroom) hlive;have hsm:src.length*sz'+(off+len)*sz'<=es.length*sz':=by rw[<-jBe];exact jBc _ (by omega)
        have hT:∀x∈es.take (off+len)++src++es.drop (off+len+src.length),(qai x).length=sz':=fun x hx=>by
         rcases jAo.1 hx with hx|hx
         ·rcases jAo.1 hx with hx|hx
          ·exact g3 x (jC1 hx)
          ·exact hns x hx
         ·exact g3 x (jBn hx)
        have hlen':(es.take (off+len)++src++es.drop (off+len+src.length)).length=es.length:=by simp;omega
        have hflat:flat (es.take (off+len)++src++es.drop (off+len+src.length))=splice (flat es) ((off+len)*sz') (flat src):=by
         unfold splice;rw[qdR,qdR,qjr g3,qjq g3,hfn,<-jBe]
        refine⟨_,_,I,m,by rw[Sem.run_bind,hplace hroom];rfl,After.write H hl hL hlive hC (hsz2 hroom) ⟨by rw[hlen'];exact g1,g2,hT,_,et,setRow_heap w L.blk _ _ _ _ hC,?_,fun i c hc'=>?_,by simpa using hlive⟩,.inl ⟨_,rfl,?_⟩⟩
        ·rw[hsz2 hroom,hlen'];exact hsz'
        ·rw[hflat]at hc';have hg:=qn8 (C:=C.toList) (us:=news) (base:=L.base) (off:=(off+len)*sz') (cs:=flat es) (vs:=flat src) hnl (by rw[hfl,hfn];omega) (by rw[hfl];simpa using hsz')
          (Q:=fun c v=>qbn c = true /\ Rel w I c m0 v) (fun i c hc=>by simpa using hcell i c hc) (fun i c hc=>by
           obtain⟨q,hq,hr⟩:=qcr hnr i c hc;exact⟨q,hq,hnk c (jAl hc),hr⟩) i c hc'
         obtain⟨q,hq,hk,hr⟩:=hg;refine⟨q,?_,hk,qaV hst (fun _ _ h=>h) c (fun _ _ h=>h) hr⟩;rw[ho'];rw[show L.base+(off+len)*sz'=L.base+off*sz'+len*sz' by rw[jBe];omega]at hq;simpa using hq
        ·simp only[Rel];refine⟨L,hL,o,cap,_,et,rfl,hroom,ho,hnum,setRow_heap w L.blk _ _ _ _ hC,?_⟩;rw[hsz2 hroom];exact hsize
       ·split at ha
        ·rename_i hl2;simp only[jA7,jAd]at ha;obtain⟨rfl,rfl⟩:=ha;rw[qkK];exact hmain len rfl hle hl2
        ·cases ha
      ·cases ha
   ·cases ha
  ·cases ha
end
end Go.Eng
namespace Go.Eng
def qAA(ks:Key):List (AV×AV)->AV->Option (Option Nat)
 | [],_=>some none
 |(k,_)::m,x=>match qc5 ks x k with
  |some true=>some (some 0)
  |some false=>(qAA ks m x).map fun r=>r.map (· + 1)
  |none=>none
theorem qBL{ks:Key}:∀{m:List (AV×AV)} {x y:AV} {m':List (AV×AV)},qUN ks m x y=some m'-> ∃ri,qAA ks m x=some ri /\
  ((ri=none/\m'=m++[(x,y)])\/ ∃i k v,ri=some i/\m[i]? = some (k,v)/\m'=m.set i (k,y))
 | [],x,y,m',h=>by simp[qUN]at h;subst h;exact⟨none,rfl,.inl ⟨rfl,rfl⟩⟩
 |(k,v)::m,x,y,m',h=>by
  simp only[qUN]at h;split at h
  ·rename_i hk;simp at h;subst h;exact⟨some 0,by simp[qAA,hk],.inr ⟨0,k,v,rfl,rfl,rfl⟩⟩
  ·rename_i hk;simp only[jA3]at h;obtain⟨m1,h1,rfl⟩:=h;obtain⟨ri,h2,h3⟩:=qBL h1;refine⟨ri.map (· + 1),by simp[qAA,hk,h2],?_⟩;rcases h3 with⟨rfl,rfl⟩|⟨i,k',v',rfl,h4,rfl⟩
   ·exact .inl ⟨rfl,rfl⟩
   ·exact .inr ⟨i+1,k',v',rfl,by simpa using h4,rfl⟩
  ·cases h
section
variable {P:Program} {w:World} {I:Imm} {m:Names} {h:Heap} {nx:Nat}
def qP5(w:World)(I:Imm):List (AV×AV)->List MapEntry->Prop
 | [],es=>es= []
 |kv::kvs,es=>∃e es',es=e::es'/\Rel w I kv.1 m0 e.key/\Rel w I kv.2 m0 e.val/\qP5 w I kvs es'
theorem qt7:∀{kvs:List (AV×AV)} {es:List MapEntry},qP5 w I kvs es ↔ es.length=kvs.length/\ ∀(i:Nat) (kv:AV×AV),kvs[i]? = some kv-> ∃x,es[i]? = some x/\Rel w I kv.1 m0 x.key/\Rel w I kv.2 m0 x.val
 | [],es=>by simp[qP5]
 |kv::kvs,es=>by
  simp only[qP5];constructor
  ·rintro⟨e,es',rfl,h1,h2,h3⟩;obtain⟨h4,h5⟩:=qt7.1 h3;refine⟨by simp[h4],fun i kv' hi=>?_⟩;cases i with
   |zero=>simp at hi;subst hi;exact⟨e,rfl,h1,h2⟩
   |succ i=>simpa using h5 i kv' (by simpa using hi)
  ·rintro⟨h1,h2⟩;cases es with
   |nil=>simp at h1
   |cons e es'=>
    obtain⟨x,hx,h3,h4⟩:=h2 0 kv rfl;simp at hx;subst hx;exact⟨e,es',rfl,h3,h4,qt7.2 ⟨by simpa using h1,fun i kv' hi=>by simpa using h2 (i+1) kv' (by simpa using hi)⟩⟩
theorem qMR{t:TypeId}{ks:Key}(hk:zgZ P t=some ks):∃d,P.underlying t=some d/\((ks.1=true/\ ∃fs,d= .struct fs)\/(ks.1=false/\((ks.2= [.b]/\d= .bool)\/(ks.2= [.i]/\ ∃k,d= .int k)\/(ks.2= [.s]/\d= .string)))):=by
 simp only[zgZ]at hk;split at hk
 ·rename_i l hl;simp only[jA3]at hk;obtain⟨a,ha,rfl⟩:=hk;simp only[leaves]at hl;cases hu:P.underlying t with
  |none=>simp[hu]at hl
  |some d=>
   simp only[qb1,hu,jBh,jA7]at ha;refine⟨d,rfl,?_⟩;rw[hu]at hl;cases d<;>simp only[reduceCtorEq,jA7]at hl ha<;>subst ha
   case bool=>exact .inr ⟨rfl,.inl ⟨hl.symm,rfl⟩⟩
   case int k=>exact .inr ⟨rfl,.inr (.inl ⟨hl.symm,k,rfl⟩)⟩
   case string=>exact .inr ⟨rfl,.inr (.inr ⟨hl.symm,rfl⟩)⟩
   case struct fs=>exact .inl ⟨rfl,fs,rfl⟩
 ·cases hk
theorem qis{ks:Key}:∀{kvs:List (AV×AV)} {x:AV} {i:Nat},qAA ks kvs x=some (some i)-> ∃k v,kvs[i]? = some (k,v)/\qc5 ks x k=some true
 | [],x,i,h=>by simp[qAA]at h
 |(k,v)::kvs,x,i,h=>by
  simp only[qAA]at h;split at h
  ·rename_i hk;simp at h;subst h;exact⟨k,v,rfl,hk⟩
  ·simp only[jA3]at h;obtain⟨r,hr,he⟩:=h;cases r with
   |none=>simp at he
   |some j=>
    simp at he;subst he;obtain⟨k',v',h1,h2⟩:=qis hr;exact⟨k',v',by simpa using h1,h2⟩
  ·cases h
end
end Go.Eng

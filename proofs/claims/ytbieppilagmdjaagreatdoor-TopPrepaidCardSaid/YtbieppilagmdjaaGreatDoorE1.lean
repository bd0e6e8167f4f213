/- A machine of plain values, and that what it says holds of the program. -/
import Derived.Calls
import Derived.Laws.AppendOwn
import Derived.Laws.Entries
import Derived.Laws.Slices
import Derived.Laws.Strings
import Derived.Laws.StructEq
import Derived.Laws.MakeOwn
set_option linter.unusedVariables false
set_option linter.unusedSimpArgs false
set_option linter.unnecessarySimpa false
namespace Go.Eng
inductive NKd where
 | nil | any | non
deriving DecidableEq
structure NilS where
 sz:Nat
 kd:NKd
deriving DecidableEq
instance (n:Nat):OfNat NilS n:=⟨⟨n,.nil⟩⟩
inductive FnId where
 | func (n:Nat)
 | meth (s:String)
deriving DecidableEq
inductive AV where
 | int (k:IntKind) (n:Int)
 | bool (b:Bool)
 | str (s:List UInt8)
 | nilp | nilm | nilf | nili
 | nils (q:NilS)
 | agg (cs:List AV)
 | tup (vs:List AV)
 | view (sz:Nat) (es:List AV)
 | ptr (cs:List AV)
 | own (id off:Nat) (len:Option Nat)
 | ref (id idx off:Nat)
 | mref (id:Nat)
 | fn (f:FnId) (cap:List AV)
 | iface (t:Nat) (v:AV)
 | junk
inductive Opd where
 | t (n:Nat)
 | c (v:AV)
 | f (n:Nat)
inductive EK where
 | i | b | s
deriving DecidableEq
inductive NK where
 | s | m | f | p | i
inductive LK where
 | s | l | m
abbrev Key:=Bool × List EK
inductive CS where
 | int (k:IntKind)
 | bool
 | str
 | slice (sz:Nat)
 | ptr (n:Nat)
inductive IOp where
 | mov (x:Opd)
 | pick (c a b:Opd)
 | alloc (z:AV)
 | box (sz:Nat) (x:Opd)
 | build (z:List AV) (ps:List (Nat × Nat × Opd))
 | bslice (sz:Nat) (z:AV) (n:Nat) (ps:List (Nat × Opd))
 | load (agg:Bool) (n:Nat) (ks:List CS) (x:Opd)
 | store (n:Nat) (x v:Opd)
 | nilck (x:Opd)
 | bin (op:BinOp) (x y:Opd)
 | eqs (ks:Key) (neg:Bool) (x y:Opd)
 | eqn (k:NK) (neg:Bool) (x y:Opd)
 | un (op:UnOp) (x:Opd)
 | conv (k:IntKind) (x:Opd)
 | convs (x:Opd)
 | mki (t:Nat) (x:Opd)
 | mkf (f:Nat) (cap:List Opd)
 | mkb (s:String) (x:Opd)
 | nilm (s:String) (tbl:List (Nat × Nat)) (x:Opd)
 | mkm
 | mks (sz bytes:Nat) (z:AV) (len cap:Opd)
 | slc (sz:Nat) (x:Opd) (lo hi:Option Opd)
 | slcs (x:Opd) (lo hi:Option Opd)
 | slc3 (x lo hi mx:Opd)
 | aslc (n sz:Nat) (x:Opd)
 | cpy (x y:Opd)
 | faddr (off:Nat) (x:Opd)
 | fld (agg:Bool) (off n:Nat) (x:Opd)
 | iaddr (sz:Nat) (ks:List CS) (x i:Opd)
 | aaddr (n sz:Nat) (x i:Opd)
 | idxs (x i:Opd)
 | idxa (agg:Bool) (n sz:Nat) (x i:Opd)
 | look (ks:Key) (z:AV) (ok:Bool) (m k:Opd)
 | mupd (ks:Key) (m k v:Opd)
 | mdel (ks:Key) (m k:Opd)
 | tass (t:Nat) (z:AV) (ok:Bool) (x:Opd)
 | ext (x:Opd) (i:Nat)
 | len (k:LK) (x:Opd)
 | app (sz bytes:Nat) (s x:Opd)
 | clr (sz:Nat) (z:AV) (x:Opd)
 | mx (xs:List Opd)
 | mn (xs:List Opd)
 | call (f:Nat) (args:List Opd)
 | callv (fv:Opd) (args:List Opd)
 | invk (tbl:List (Nat × Nat)) (x:Opd) (args:List Opd)
 | pan (x:Opd)
structure IOper where
 dst:Option Nat
 op:IOp
 guard:Option (Nat × Bool)
inductive ICode where
 | skip
 | region (ops:List IOper) (drawn:Option (List (List Nat)))
 | seq (a b:ICode)
 | cond (c:Opd) (a b:ICode)
 | block (id:Nat) (c:ICode)
 | loop (keep:List Nat) (c:ICode)
 | exit (id:Nat)
 | ret
inductive Blk where
 | box (cs:List AV) (fz:Bool)
 | arr (sz:Nat) (es:List AV) (fz:Bool)
 | mp (kvs:List (AV × AV))
abbrev Heap:=List (Nat × Blk)
def qad:Heap -> Nat -> Option Blk
 | [],_=>none
 | (j,b) :: h,i=>if i = j then some b else qad h i
def qqk:Heap -> Nat -> Heap
 | [],_=>[]
 | (j,b) :: h,i=>if i = j then qqk h i else (j,b) :: qqk h i
def qbu (h:Heap) (i:Nat) (b:Blk):Heap:=(i,b) :: qqk h i
abbrev Env:=List (Nat × AV)
def qbe:Env -> Nat -> AV
 | [],_=>.junk
 | (j,v) :: e,i=>if i = j then v else qbe e i
structure St where
 tm:Env
 hp:Heap
 nx:Nat
 k:Nat
inductive Res where
 | ret (v:AV)
 | pan (v:AV)
inductive X where
 | normal
 | exit (id:Nat)
 | ret
 | pan (v:AV)
abbrev qaL:=Nat -> List AV -> Heap -> Option (Res × Heap)
abbrev qdj:=List Nat -> ICode -> St -> Option (X × St)
def qa9 (num off:Nat):Option Nat -> Nat
 | some n=>n
 | none=>match off with
  | 0=>num
  | off + 1=>num - (off + 1)
def qni (es:List AV):Nat -> List AV
 | 0=>es
 | n + 1=>es.drop (n + 1)
def qrV (es:List AV) (off:Nat):Option Nat -> List AV
 | some n=>(qni es off).take n
 | none=>qni es off
def qac:AV -> List AV
 | .agg cs=>cs
 | v=>[v]
def idsA:AV -> List Nat
 | .own id _ _=>[id]
 | .ref id _ _=>[id]
 | .mref id=>[id]
 | .agg cs=>idsL cs
 | .tup vs=>idsL vs
 | .fn _ cap=>idsL cap
 | .iface _ v=>idsA v
 | _=>[]
where idsL:List AV -> List Nat
 | []=>[]
 | v :: vs=>idsA v ++ idsL vs
def qr7:Blk -> List Nat
 | .box cs _=>idsA.idsL cs
 | .arr _ _ _=>[]
 | .mp _=>[]
def shows:AV -> Bool
 | .view _ _=>true
 | .ptr _=>true
 | .agg cs=>showsL cs
 | .tup vs=>showsL vs
 | .fn _ cap=>showsL cap
 | .iface _ v=>shows v
 | .junk=>true
 | _=>false
where showsL:List AV -> Bool
 | []=>false
 | v :: vs=>shows v || showsL vs
def qaR:AV -> Bool
 | .agg _=>false
 | .tup _=>false
 | .junk=>false
 | _=>true
def qaB:List AV -> Bool
 | []=>true
 | v :: vs=>qaR v && qaB vs
def qa8:Nat -> Heap -> List Nat -> List Nat -> Option (List Nat)
 | _,_,[],seen=>some seen
 | 0,_,_ :: _,_=>none
 | n + 1,h,i :: todo,seen=>
  if seen.contains i then qa8 n h todo seen
  else match qad h i with
   | some b=>qa8 n h (todo ++ qr7 b) (seen ++ [i])
   | none=>qa8 n h todo seen
def qbl:Nat:=200
def sub (h:Heap):List Nat -> Heap
 | []=>[]
 | i :: is=>match qad h i with
  | some b=>(i,b) :: sub h is
  | none=>sub h is
def qaM (h:Heap):List Nat -> Heap
 | []=>h
 | i :: is=>qqk (qaM h is) i
def qeX (f:AV -> Option AV):List AV -> Option (List AV)
 | []=>some []
 | v :: vs=>match f v,qeX f vs with
  | some v,some vs=>some (v :: vs)
  | _,_=>none
def snap (h:Heap):Nat -> AV -> Option AV
 | 0,_=>none
 | n + 1,v=>
  match v with
  | .nils q=>some (.view q.sz [])
  | .own id off lo=>match qad h id with
   | some (.arr sz es _)=>match lo with
    | some len=>if off + len <= es.length then some (.view sz (qrV es off (some len))) else none
    | none=>some (.view sz (qni es off))
   | _=>none
  | .ref id idx off=>match qad h id with
   | some (.box cs _)=>if idx = 0 /\ off <= cs.length /\ qaB cs = true then (qeX (snap h n) cs).map fun cs=>.ptr (cs.drop off) else none
   | some (.arr _ es _)=>match es[idx]? with
    | some e=>if off <= (qac e).length then some (.ptr ((qac e).drop off)) else none
    | none=>none
   | _=>none
  | .mref _=>none
  | .agg cs=>(qeX (snap h n) cs).map .agg
  | .tup vs=>(qeX (snap h n) vs).map .tup
  | .fn f cap=>(qeX (snap h n) cap).map (.fn f)
  | .iface t v=>(snap h n v).map (.iface t)
  | v=>some v
def nz:AV -> AV
 | .nils q=>.view q.sz []
 | .agg cs=>.agg (nzL cs)
 | .tup cs=>.tup (nzL cs)
 | .fn f cs=>.fn f (nzL cs)
 | .iface t v=>.iface t (nz v)
 | v=>v
where nzL:List AV -> List AV
 | []=>[]
 | v :: vs=>nz v :: nzL vs
abbrev snap.snapL (h:Heap) (n:Nat):List AV -> Option (List AV):=qeX (snap h n)
def qgy:Blk -> Blk
 | .box cs _=>.box cs true
 | .arr sz es _=>.arr sz es true
 | b=>b
def freeze (h:Heap):List Nat -> Heap
 | []=>h
 | i :: is=>match qad h i with
  | some b=>qbu (freeze h is) i (qgy b)
  | none=>freeze h is
def still (h:Heap) (v:AV):Option (AV × Heap):=
 match idsA v with
 | []=>some (nz v,h)
 | ids=>match snap h qbl v,qa8 qbl h ids [] with
  | some v,some r=>some (v,freeze h r)
  | _,_=>none
def splice (cs:List AV) (off:Nat) (vs:List AV):List AV:=cs.take off ++ vs ++ cs.drop (off + vs.length)
def elemOf (like:AV) (cs:List AV):AV:=
 match like,cs with
 | .agg _,cs=>.agg cs
 | _,[v]=>v
 | _,_=>.junk
def eqK:EK -> AV -> AV -> Option Bool
 | .i,.int k a,.int k' b=>if k = k' then some (a == b) else none
 | .b,.bool a,.bool b=>some (a == b)
 | .s,.str a,.str b=>some (a == b)
 | _,_,_=>none
def qbS:List EK -> List AV -> List AV -> Option Bool
 | [],[],[]=>some true
 | k :: ks,x :: xs,y :: ys=>match eqK k x y,qbS ks xs ys with
  | some b,some bs=>some (b && bs)
  | _,_=>none
 | _,_,_=>none
def qa7:Key -> AV -> AV -> Option Bool
 | (true,ks),.agg xs,.agg ys=>qbS ks xs ys
 | (false,[k]),x,y=>eqK k x y
 | _,_,_=>none
def isNil:AV -> Option Bool
 | .ptr _=>some false
 | .ref _ _ _=>some false
 | .fn (.func _) _=>some false
 | .iface _ _=>some false
 | _=>none
def qcN:NK -> AV -> Option Bool
 | .s,.nils q=>match q.kd with
  | .nil=>some true
  | .any=>none
  | .non=>some false
 | .s,.view _ es=>if es.length = 0 then none else some false
 | .s,.own _ _ _=>some false
 | .m,.nilm=>some true
 | .m,.mref _=>some false
 | .f,.nilf=>some true
 | .f,.fn _ _=>some false
 | .p,.nilp=>some true
 | .p,.ptr _=>some false
 | .p,.ref _ _ _=>some false
 | .i,.nili=>some true
 | .i,.iface _ _=>some false
 | _,_=>none
def bits (op:BinOp) (k:IntKind) (x y:Int):Option Int:=
 let a:=BitVec.ofInt k.bits x
 let b:=BitVec.ofInt k.bits y
 match op with
 | .and=>some (k.wrap (a &&& b).toNat)
 | .or=>some (k.wrap (a ||| b).toNat)
 | .xor=>some (k.wrap (a ^^^ b).toNat)
 | .andNot=>some (k.wrap (a &&& ~~~b).toNat)
 | _=>none
def qV5 (op:BinOp) (k:IntKind) (a b:Int):Option AV:=
 match op with
 | .add=>some (.int k (k.wrap (a + b)))
 | .sub=>some (.int k (k.wrap (a - b)))
 | .mul=>some (.int k (k.wrap (a * b)))
 | .quo=>if b = 0 then none else some (.int k (k.wrap (a.tdiv b)))
 | .rem=>if b = 0 then none else some (.int k (a.tmod b))
 | .eql=>some (.bool (a == b))
 | .neq=>some (.bool (a != b))
 | .lss=>some (.bool (decide (a < b)))
 | .leq=>some (.bool (decide (a <= b)))
 | .gtr=>some (.bool (decide (a > b)))
 | .geq=>some (.bool (decide (a >= b)))
 | .shl=>none
 | .shr=>none
 | op=>(bits op k a b).map (.int k)
def qcn:List UInt8 -> List UInt8 -> Bool:=Op.bytesLess
def qV6 (op:BinOp) (a b:List UInt8):Option AV:=
 match op with
 | .add=>if a.length + b.length <= 4611686018427387904 then some (.str (a ++ b)) else none
 | .eql=>some (.bool (a == b))
 | .neq=>some (.bool (!(a == b)))
 | .lss=>some (.bool (qcn a b))
 | .leq=>some (.bool (qcn a b || a == b))
 | .gtr=>some (.bool (!(qcn a b || a == b)))
 | .geq=>some (.bool (!qcn a b))
 | _=>none
def qUH (op:BinOp):AV -> AV -> Option AV
 | .int k a,.int k' b=>
  match op with
  | .shl=>if 0 <= b then some (.int k (k.wrap (a * 2 ^ (min b.toNat k.bits)))) else none
  | .shr=>if 0 <= b then some (.int k (a.fdiv (2 ^ (min b.toNat k.bits)))) else none
  | op=>if k = k' then qV5 op k a b else none
 | .str a,.str b=>qV6 op a b
 | _,_=>none
def unA (op:UnOp):AV -> Option AV
 | .int k n=>match op with
  | .neg=>some (.int k (k.wrap (0 - n)))
  | .xor=>some (.int k (k.wrap (-1 - n)))
  | _=>none
 | .bool b=>match op with
  | .not=>some (.bool (!b))
  | _=>none
 | _=>none
def qW8:AV -> AV -> Option AV
 | .int k x,.int k' y=>if k = k' then some (.int k (if y > x then y else x)) else none
 | _,_=>none
def qXa:AV -> AV -> Option AV
 | .int k x,.int k' y=>if k = k' then some (.int k (if y < x then y else x)) else none
 | _,_=>none
def qqi (g:AV -> AV -> Option AV):AV -> List AV -> Option AV
 | x,[]=>some x
 | x,y :: ys=>match g x y with
  | some z=>qqi g z ys
  | none=>none
def qjI (h:Heap):AV -> Option (List AV)
 | .ptr cs=>some cs
 | .ref id idx off=>match qad h id with
  | some (.box cs _)=>if idx = 0 /\ off <= cs.length then some (cs.drop off) else none
  | some (.arr _ es _)=>match es[idx]? with
   | some e=>if off <= (qac e).length then some ((qac e).drop off) else none
   | none=>none
  | _=>none
 | _=>none
def part (agg:Bool) (n:Nat) (cs:List AV):Option AV:=
 if agg then if n <= cs.length then some (.agg (cs.take n)) else none
 else cs.head?
def qEm (h:Heap) (n:Nat) (x v:AV):Option Heap:=
 match x with
 | .ref id idx off=>match qad h id with
  | some (.box cs false)=>
   if idx = 0 /\ (qac v).length = n /\ off + n <= cs.length /\ qaB (qac v) = true then some (qbu h id (.box (splice cs off (qac v)) false)) else none
  | some (.arr sz es false)=>
   match still h v with
   | some (v,h)=>
    match qad h id,es[idx]? with
    | some (.arr _ _ false),some e=>
     if (qac v).length = n /\ off + n <= (qac e).length /\ qaB (qac v) = true then
      some (qbu h id (.arr sz (es.set idx (elemOf e (splice (qac e) off (qac v)))) false)) else none
    | _,_=>none
   | none=>none
  | _=>none
 | _=>none
def qeY {α:Type} (l:List α) (i:Int):Option α:=if 0 <= i then l[i.toNat]? else none
def lim:Nat:=17592186044416
def qn0 (h:Heap) (sz:Nat):AV -> Option (List AV)
 | .nils _=>some []
 | .view sz' es=>if sz' = sz then some es else none
 | .own id off lo=>match qad h id with
  | some (.arr sz' es _)=>match lo with
   | some len=>if sz' = sz /\ off + len <= es.length then some (qrV es off (some len)) else none
   | none=>if sz' = sz then some (qni es off) else none
  | _=>none
 | _=>none
def qwg (h:Heap) (nx sz bytes:Nat) (s:AV) (src:List AV):Option (AV × Heap):=
 match s with
 | .nils q=>if src.length = 0 then some (s,h) else match q.kd with
  | .non=>none
  | _=>if src.length * bytes <= lim then some (.own nx 0 none,qbu h nx (.arr sz src false)) else none
 | .own id off lo=>match qad h id with
  | some (.arr sz' es false)=>
   if sz' = sz then
    if src.length = 0 then some (s,h)
    else match lo with
     | none=>if off <= es.length /\ (qa9 es.length off none + src.length) * bytes <= lim then
       some (.own nx 0 none,qbu (qqk h id) nx (.arr sz (qni es off ++ src) false)) else none
     | some len=>
      if off + len <= es.length then
       if off + len + src.length <= es.length then
        some (.own id off (some (len + src.length)),qbu h id (.arr sz (es.take (off + len) ++ src ++ es.drop (off + len + src.length)) false))
       else if (len + src.length) * bytes <= lim then
        some (.own nx 0 none,qbu (qqk h id) nx (.arr sz (qrV es off (some len) ++ src) false))
       else none
      else none
   else none
  | _=>none
 | .view _ _=>if src.length = 0 then some (s,h) else none
 | _=>none
def qkv (ks:Key):List (AV × AV) -> AV -> Option (Option AV)
 | [],_=>some none
 | (k,v) :: m,x=>match qa7 ks x k with
  | some true=>some (some v)
  | some false=>qkv ks m x
  | none=>none
def qCi (ks:Key):List (AV × AV) -> AV -> AV -> Option (List (AV × AV))
 | [],x,y=>some [(x,y)]
 | (k,v) :: m,x,y=>match qa7 ks x k with
  | some true=>some ((k,y) :: m)
  | some false=>(qCi ks m x y).map ((k,v) :: ·)
  | none=>none
def ltL:List AV -> List AV -> Bool
 | .int _ a :: xs,.int _ b :: ys=>decide (a < b) || (decide (a = b) && ltL xs ys)
 | _,_=>false
def ltK:AV -> AV -> Bool
 | .agg xs,.agg ys=>ltL xs ys
 | _,_=>false
def isI:EK -> Bool
 | .i=>true
 | _=>false
def qkh (ks:Key):Bool:=ks.1 && ks.2.all isI
def qbU (ks:Key):List (AV × AV) -> AV -> AV -> Option (List (AV × AV))
 | [],x,y=>some [(x,y)]
 | (k,v) :: m,x,y=>match qa7 ks x k with
  | some true=>some ((k,y) :: m)
  | some false=>if ltK x k then some ((x,y) :: (k,v) :: m) else (qbU ks m x y).map ((k,v) :: ·)
  | none=>none
def qxa (ks:Key) (m:List (AV × AV)) (x y:AV):Option (List (AV × AV)):=if qkh ks then qbU ks m x y else qCi ks m x y
def qGa (ks:Key):List (AV × AV) -> AV -> Option (List (AV × AV))
 | [],_=>some []
 | (k,v) :: m,x=>match qa7 ks x k with
  | some true=>some m
  | some false=>(qGa ks m x).map ((k,v) :: ·)
  | none=>none
def isKey:Key -> AV -> Bool
 | ks,x=>(qa7 ks x x).isSome
def qsH:List AV -> List (Nat × Nat × AV) -> Option (List AV)
 | cs,[]=>some cs
 | cs,(off,n,v) :: ps=>
  if (qac v).length = n /\ off + n <= cs.length /\ qaB (qac v) = true then qsH (splice cs off (qac v)) ps else none
def qwW (sz:Nat):List AV -> List (Nat × AV) -> Option (List AV)
 | es,[]=>some es
 | es,(i,v) :: ps=>if (qac v).length = sz /\ i < es.length /\ qaB (qac v) = true then qwW sz (es.set i v) ps else none
def qmZ (h:Heap):List AV -> Option (List AV × Heap)
 | []=>some ([],h)
 | v :: vs=>match still h v with
  | some (v,h)=>match qmZ h vs with
   | some (vs,h)=>some (v :: vs,h)
   | none=>none
  | none=>none
def qN0 (h:Nat):Option AV -> Option (Nat × Nat)
 | none=>some (0,h)
 | some (.int _ n)=>if 0 <= n /\ n <= h then some (n.toNat,h) else none
 | some _=>none
def qwZ (len cap:Nat):Option AV -> Option Nat
 | none=>some len
 | some (.int _ n)=>if 0 <= n /\ n <= cap then some n.toNat else none
 | some _=>none
def qdo (len cap:Nat) (lo hi:Option AV):Option (Nat × Nat):=
 match qwZ len cap hi with
 | none=>none
 | some h=>qN0 h lo
def ren (r:Nat -> Option Nat):AV -> AV
 | .own id off len=>match r id with
  | some j=>.own j off len
  | none=>.junk
 | .ref id idx off=>match r id with
  | some j=>.ref j idx off
  | none=>.junk
 | .mref id=>match r id with
  | some j=>.mref j
  | none=>.junk
 | .agg cs=>.agg (renL r cs)
 | .tup vs=>.tup (renL r vs)
 | .fn f cap=>.fn f (renL r cap)
 | .iface t v=>.iface t (ren r v)
 | v=>v
where renL (r:Nat -> Option Nat):List AV -> List AV
 | []=>[]
 | v :: vs=>ren r v :: renL r vs
def qU6 (r:Nat -> Option Nat):Blk -> Blk
 | .box cs fz=>.box (ren.renL r cs) fz
 | b=>b
def place:List Nat -> Nat -> Option Nat
 | [],_=>none
 | j :: l,i=>if i = j then some 0 else (place l i).map (· + 1)
def qft (r:Nat -> Option Nat):Heap -> Heap
 | []=>[]
 | (i,b) :: h=>match r i with
  | some j=>(j,qU6 r b) :: qft r h
  | none=>qft r h
structure Fun where
 nparams:Nat
 ntmps:Nat
 results:List (Nat × Option (Bool × Nat))
 body:ICode
structure Seen where
 g:qaL -> List AV -> Heap -> Option (Res × Heap)
 mono:∀ c c':qaL,(∀ f a h r,c f a h = some r -> c' f a h = some r) -> ∀ a h r,g c a h = some r -> g c' a h = some r
structure Prog where
 fn:Nat -> Option Fun
 mv:Nat -> Bool
 fresh:Nat -> Bool
 spec:Nat -> Option (List AV -> Heap -> Option (Res × Heap)):=fun _=>none
 seen:Nat -> Option Seen:=fun _=>none
 imp:Nat -> Bool:=fun _=>false
 wid:Nat -> Bool:=fun _=>false
def qKa:AV -> Bool
 | .ref _ _ _=>true
 | .mref _=>true
 | _=>false
def qPs (h:Heap) (all:Bool) (v:AV):Option (AV × List Nat):=
 if qKa v || all then some (v,[]) else match idsA v with
  | []=>some (nz v,[])
  | ids=>match snap h qbl v with
   | some v=>some (v,ids)
   | none=>none
def qnO (h:Heap) (all:Bool):List AV -> Option (List AV × List Nat)
 | []=>some ([],[])
 | v :: vs=>match qPs h all v,qnO h all vs with
  | some (v,a),some (vs,b)=>some (v :: vs,a ++ b)
  | _,_=>none
def qE2 (a b:List Nat):Bool:=a.all fun i=>!b.contains i
def qGu:Res -> AV
 | .ret v=>v
 | .pan v=>v
def qKm (g:AV -> AV):Res -> Res
 | .ret v=>.ret (g v)
 | .pan v=>.pan (g v)
def back (moved:List Nat) (nx:Nat) (j:Nat):Option Nat:=
 match moved[j]? with
 | some i=>some i
 | none=>if j < moved.length + 16 then some (nx + (j - moved.length)) else none
def qe4 (P:Prog) (call:qaL) (h:Heap) (nx f:Nat) (args:List AV):Option (Res × Heap × Bool):=
 match qnO h (P.mv f) args with
 | none=>none
 | some (args',roots)=>
  match qa8 qbl h (idsA.idsL args') [],qa8 qbl h roots [] with
  | some moved,some shown=>
   if qE2 moved shown then
    match call f (ren.renL (place moved) args') (qft (place moved) (sub h moved)) with
    | none=>none
    | some (r,h')=>
     if h'.all (fun p=>decide (p.1 < moved.length + 16)) then
      let touched:=!shown.isEmpty && (shows (qGu r) || !h'.isEmpty)
      let old:=qaM h moved
      some (qKm (ren (back moved nx)) r,qft (back moved nx) h' ++ (if touched then freeze old shown else old),!moved.isEmpty || touched)
     else none
   else none
  | _,_=>none
def qa3 (ev:Opd -> AV):Option Opd -> Option AV
 | none=>none
 | some x=>some (ev x)
def val (v:AV) (h:Heap):Option (Res × Heap × Bool):=some (.ret v,h,false)
def qr2 (v:Option AV) (h:Heap):Option (Res × Heap × Bool):=match v with
 | some v=>some (.ret v,h,false)
 | none=>none
def unit:AV:=.tup []
def qUT (off:Nat) (i:Int):Nat:=match off with
 | 0=>i.toNat
 | n + 1=>n + 1 + i.toNat
theorem qNR (off:Nat) (i:Int):qUT off i = off + i.toNat:=by cases off <;> simp [qUT]
def qGy:Opd -> Opd -> Bool
 | .t i,.t j=>i == j
 | _,_=>false
def qUM:Option Nat -> Option Opd -> Nat -> Option Nat
 | none,none,_=>none
 | _,_,n=>some n
def qti:List (Nat × Nat) -> Nat -> Option Nat
 | [],_=>none
 | (i,f) :: l,t=>if t = i then some f else qti l t
def chunks (sz:Nat):Nat -> List AV -> List AV
 | 0,_=>[]
 | n + 1,cs=>.agg (cs.take sz) :: chunks sz n (cs.drop sz)
def qWW:AV -> Bool
 | .nils _=>true
 | .view _ _=>true
 | .own _ _ _=>true
 | _=>false
def qWV:AV -> Bool
 | .nils _=>true
 | .view _ []=>true
 | _=>false
def opS (P:Prog) (call:qaL) (nx:Nat) (ev:Opd -> AV) (h:Heap):IOp -> Option (Res × Heap × Bool)
 | .mov x=>val (ev x) h
 | .pick c a b=>match ev c with
  | .bool t=>val (if t then ev a else ev b) h
  | _=>none
 | .alloc z=>some (.ret (.ref nx 0 0),qbu h nx (.box (qac z) false),false)
 | .box sz x=>if (qac (ev x)).length = sz /\ qaB (qac (ev x)) = true then some (.ret (.ref nx 0 0),qbu h nx (.box (qac (ev x)) false),false) else none
 | .build z ps=>match qsH z (ps.map fun p=>(p.1,p.2.1,ev p.2.2)) with
  | some cs=>val (.agg cs) h
  | none=>none
 | .bslice sz z n ps=>if n = 0 /\ ps.length = 0 then some (.ret (.nils ⟨sz,.any⟩),h,false) else match qmZ h (ps.map fun p=>ev p.2) with
  | some (vs,h)=>match qwW sz (List.replicate n (nz z)) ((ps.map (·.1)).zip vs) with
   | some es=>some (.ret (.own nx 0 none),qbu h nx (.arr sz es false),true)
   | none=>none
  | none=>none
 | .load agg n _ x=>match qjI h (ev x) with
  | some cs=>qr2 (part agg n cs) h
  | none=>none
 | .store n x v=>match qEm h n (ev x) (ev v) with
  | some h=>some (.ret unit,h,true)
  | none=>none
 | .nilck x=>match isNil (ev x) with
  | some false=>val (ev x) h
  | _=>none
 | .bin op x y=>qr2 (qUH op (ev x) (ev y)) h
 | .eqs ks neg x y=>match qa7 ks (ev x) (ev y) with
   | some b=>val (.bool (if neg then !b else b)) h
   | none=>none
 | .eqn k neg x y=>match qcN k (ev x),qcN k (ev y) with
  | some a,some b=>if a || b then val (.bool (if neg then !(a && b) else a && b)) h else none
  | _,_=>none
 | .un op x=>qr2 (unA op (ev x)) h
 | .conv k x=>match ev x with
  | .int _ n=>val (.int k (k.wrap n)) h
  | _=>none
 | .convs x=>match ev x with
  | .str s=>val (.str s) h
  | _=>none
 | .mki t x=>val (.iface t (ev x)) h
 | .mkf f cap=>val (.fn (.func f) (cap.map ev)) h
 | .mkb s x=>val (.fn (.meth s) [ev x]) h
 | .nilm s tbl x=>match ev x with
  | .fn (.meth s') [.iface t v]=>if s' = s /\ (qti tbl t).isSome = true then val (.fn (.meth s') [.iface t v]) h else none
  | _=>none
 | .mkm=>some (.ret (.mref nx),qbu h nx (.mp []),false)
 | .mks sz bytes z lx cx=>match ev lx,ev cx with
  | .int _ l,.int _ c=>if 0 <= l /\ l <= c /\ c.toNat * bytes <= lim /\ c <= 4611686018427387904 then
    some (.ret (.own nx 0 (if qGy lx cx then none else some l.toNat)),qbu h nx (.arr sz (List.replicate c.toNat (nz z)) false),false) else none
  | _,_=>none
 | .slc sz x lo hi=>match ev x with
  | .nils z=>match qdo 0 0 (qa3 ev lo) (qa3 ev hi) with
   | some _=>val (.nils z) h
   | none=>none
  | .view sz' es=>match qdo es.length es.length (qa3 ev lo) (qa3 ev hi) with
   | some (l,u)=>if sz' = sz then val (.view sz ((es.drop l).take (u - l))) h else none
   | none=>none
  | .own id off len=>match qad h id with
   | some (.arr sz' es _)=>match qdo (qa9 es.length off len) (es.length - off) (qa3 ev lo) (qa3 ev hi) with
    | some (l,u)=>if sz' = sz /\ off + u <= es.length then val (.own id (off + l) (qUM len hi (u - l))) h else none
    | none=>none
   | _=>none
  | _=>none
 | .slc3 x lo hi mx=>match ev lo,ev hi,ev mx with
  | .int _ l,.int _ u,.int _ m=>if 0 <= l /\ l <= u /\ u <= m then
    match ev x with
    | .view _ es=>if m <= es.length then val .junk h else none
    | .own id off _=>match qad h id with
     | some (.arr _ es _)=>if m <= ((es.length - off:Nat):Int) then val .junk h else none
     | _=>none
    | _=>none
   else none
  | _,_,_=>none
 | .aslc n sz x=>match ev x with
  | .ref id idx off=>match qad h id with
   | some (.box cs false)=>if (idx = 0 /\ off = 0) /\ cs.length = n * sz /\ qaB cs = true /\ (idsA.idsL cs).length = 0 then
     some (.ret (.own nx 0 none),qbu (qqk h id) nx (.arr sz (chunks sz n cs) false),true) else none
   | _=>none
  | _=>none
 | .cpy x y=>if qWW (ev x) = true /\ qWV (ev y) = true then val (.int .i64 0) h else none
 | .slcs x lo hi=>match ev x with
  | .str s=>match qdo s.length s.length (qa3 ev lo) (qa3 ev hi) with
   | some (l,u)=>val (.str ((s.drop l).take (u - l))) h
   | none=>none
  | _=>none
 | .faddr off x=>match ev x with
  | .ptr cs=>if off <= cs.length then val (.ptr (cs.drop off)) h else none
  | .ref id idx o=>val (.ref id idx (o + off)) h
  | _=>none
 | .fld agg off n x=>match ev x with
  | .agg cs=>if off <= cs.length then qr2 (part agg n (cs.drop off)) h else none
  | _=>none
 | .iaddr sz _ x i=>match ev x,ev i with
  | .view sz' es,.int _ i=>match qeY es i with
   | some e=>if sz' = sz then val (.ptr (qac e)) h else none
   | none=>none
  | .own id off len,.int _ i=>match qad h id with
   | some (.arr sz' es _)=>if sz' = sz /\ 0 <= i /\ i < qa9 es.length off len /\ off + i.toNat < es.length then val (.ref id (qUT off i) 0) h else none
   | _=>none
  | _,_=>none
 | .aaddr n sz x i=>match ev i with
  | .int _ i=>if 0 <= i /\ i < n then
    match ev x with
    | .ptr cs=>if i.toNat * sz <= cs.length then val (.ptr (cs.drop (i.toNat * sz))) h else none
    | .ref id idx o=>val (.ref id idx (o + i.toNat * sz)) h
    | _=>none
   else none
  | _=>none
 | .idxs x i=>match ev x,ev i with
  | .str s,.int _ i=>match qeY s i with
   | some b=>val (.int .u8 b.toNat) h
   | none=>none
  | _,_=>none
 | .idxa agg n sz x i=>match ev x,ev i with
  | .agg cs,.int _ i=>if 0 <= i /\ i < n /\ i.toNat * sz <= cs.length then qr2 (part agg sz (cs.drop (i.toNat * sz))) h else none
  | _,_=>none
 | .look ks z ok m k=>match ev m with
  | .mref id=>match qad h id with
   | some (.mp kvs)=>match if isKey ks (ev k) then qkv ks kvs (ev k) else none with
    | some (some v)=>val (if ok then .tup [v,.bool true] else v) h
    | some none=>val (if ok then .tup [z,.bool false] else z) h
    | none=>none
   | _=>none
  | _=>none
 | .mupd ks m k v=>match ev m with
  | .mref id=>match idsA (ev k),idsA (ev v),qad h id with
   | [],[],some (.mp kvs)=>match if isKey ks (ev k) then qxa ks kvs (ev k) (nz (ev v)) else none with
    | some kvs=>some (.ret unit,qbu h id (.mp kvs),true)
    | none=>none
   | _,_,_=>none
  | _=>none
 | .mdel ks m k=>match ev m with
  | .mref id=>match qad h id with
   | some (.mp kvs)=>match if isKey ks (ev k) then qGa ks kvs (ev k) else none with
    | some kvs=>some (.ret unit,qbu h id (.mp kvs),true)
    | none=>none
   | _=>none
  | _=>none
 | .tass t z ok x=>match ev x with
  | .iface u v=>if u = t then val (if ok then .tup [v,.bool true] else v) h
   else if ok then val (.tup [z,.bool false]) h else none
  | .nili=>if ok then val (.tup [z,.bool false]) h else none
  | _=>none
 | .ext x i=>match ev x with
  | .tup vs=>qr2 vs[i]? h
  | _=>none
 | .len k x=>match k,ev x with
  | .s,.str s=>val (.int .i64 s.length) h
  | .l,.nils _=>val (.int .i64 0) h
  | .l,.view _ es=>val (.int .i64 es.length) h
  | .l,.own id off n=>match qad h id with
   | some (.arr _ es _)=>val (.int .i64 (qa9 es.length off n)) h
   | _=>none
  | .m,.nilm=>val (.int .i64 0) h
  | .m,.mref id=>match qad h id with
   | some (.mp kvs)=>val (.int .i64 kvs.length) h
   | _=>none
  | _,_=>none
 | .app sz bytes s x=>match qn0 h sz (ev x) with
  | some src=>match qwg h nx sz bytes (ev s) src with
   | some (v,h)=>some (.ret v,h,true)
   | none=>none
  | none=>none
 | .clr sz z x=>match ev x with
  | .nils _=>val unit h
  | .own id off lo=>match qad h id with
   | some (.arr sz' es false)=>if sz' = sz /\ off + qa9 es.length off lo <= es.length then
     some (.ret unit,qbu h id (.arr sz (es.take off ++ List.replicate (qa9 es.length off lo) (nz z) ++ es.drop (off + qa9 es.length off lo)) false),true) else none
   | _=>none
  | _=>none
 | .mx xs=>match xs.map ev with
  | x :: ys=>qr2 (qqi qW8 x ys) h
  | []=>none
 | .mn xs=>match xs.map ev with
  | x :: ys=>qr2 (qqi qXa x ys) h
  | []=>none
 | .call f args=>qe4 P call h nx f (args.map ev)
 | .callv fv args=>match ev fv with
  | .fn (.func f) cap=>qe4 P call h nx f (args.map ev ++ cap)
  | _=>none
 | .invk tbl x args=>match ev x with
  | .iface t v=>match qti tbl t with
   | some f=>qe4 P call h nx f (v :: args.map ev)
   | none=>none
  | _=>none
 | .pan x=>match ev x with
  | .iface t v=>some (.pan (.iface t v),h,true)
  | _=>none
def qxk:Option Opd -> List Opd
 | none=>[]
 | some x=>[x]
def qh3:IOp -> List Opd
 | .mov x | .mkb _ x | .nilm _ _ x | .box _ x | .load _ _ _ x | .nilck x | .un _ x | .conv _ x | .convs x | .mki _ x | .faddr _ x | .fld _ _ _ x | .tass _ _ _ x | .ext x _ | .len _ x
 | .clr _ _ x | .aslc _ _ x | .pan x=>[x]
 | .pick c a b=>[c,a,b]
 | .alloc _ | .mkm=>[]
 | .build _ ps=>ps.map fun p=>p.2.2
 | .bslice _ _ _ ps=>ps.map fun p=>p.2
 | .store _ x v=>[x,v]
 | .bin _ x y | .eqs _ _ x y | .eqn _ _ x y | .iaddr _ _ x y | .aaddr _ _ x y | .idxs x y | .idxa _ _ _ x y | .look _ _ _ x y | .mdel _ x y | .app _ _ x y | .mks _ _ _ x y | .cpy x y=>[x,y]
 | .mkf _ cap=>cap
 | .slc _ x lo hi | .slcs x lo hi=>x :: qxk lo ++ qxk hi
 | .slc3 x lo hi mx=>[x,lo,hi,mx]
 | .mupd _ m k v=>[m,k,v]
 | .mx xs | .mn xs | .call _ xs=>xs
 | .callv x xs=>x :: xs
 | .invk _ x xs=>x :: xs
def qau (e:Env):Opd -> AV
 | .t n=>qbe e n
 | .c v=>v
 | .f n=>.fn (.func n) []
def qfB (e:Env):Option (Nat × Bool) -> Option Bool
 | none=>some true
 | some (t,want)=>match qbe e t with
  | .bool b=>some (b == want)
  | .tup []=>some false
  | _=>none
def qs3 (e:Env):Option Nat -> AV -> Env
 | none,_=>e
 | some d,v=>(d,v) :: e
inductive Step where
 | skip
 | did (r:List Nat) (w:Bool) (v:AV) (out:Heap)
 | pan (r:List Nat) (v:AV) (out:Heap)
def qxI (e:Env) (op:IOp):List Nat:=match op with
 | .mov _ | .nilck _ | .faddr _ _ | .aaddr _ _ _ _=>[]
 | op=>idsA.idsL ((qh3 op).map (qau e))
def qbt (P:Prog) (call:qaL) (nx:Nat) (o:IOper) (e:Env) (h:Heap):Option Step:=
 match qfB e o.guard with
 | none=>none
 | some false=>some .skip
 | some true=>
  match qa8 qbl h (qxI e o.op) [] with
  | none=>none
  | some r=>
   match opS P call nx (qau e) (sub h r) o.op with
   | none=>none
   | some (.ret v,out,w)=>some (.did r w v out)
   | some (.pan v,out,_)=>some (.pan r v out)
def qaY (e:Env) (dst:Option Nat):Step -> Env
 | .skip=>qs3 e dst unit
 | .did _ _ v _=>qs3 e dst v
 | .pan _ _ _=>e
def news (r:List Nat):Heap -> Heap
 | []=>[]
 | (i,b) :: h=>if r.contains i then news r h else (i,b) :: news r h
def qaD (h:Heap):Step -> Heap
 | .skip=>h
 | .did r w _ out=>if w then out ++ qaM h r else news r out ++ h
 | .pan r _ out=>out ++ qaM h r
def qcs (c d:Nat):Env -> Env
 | []=>[]
 | (j,v) :: e=>match Nat.blt c j && Nat.blt j d with
  | true=>qcs c d e
  | false=>(j,v) :: qcs c d e
def qf0 (o:IOper) (e:Env):Env:=match o.op,o.dst with
 | .pick (.t c) _ _,some d=>qcs c d e
 | _,_=>e
def qbK (P:Prog) (call:qaL):List IOper -> Env -> Heap -> Nat -> List Step -> Option (X × Env × Heap × List Step)
 | [],e,h,_,log=>some (.normal,e,h,log)
 | o :: ops,e,h,nx,log=>
  match qbt P call nx o e h with
  | none=>none
  | some (.pan r v out)=>some (.pan v,e,qaD h (.pan r v out),log)
  | some s=>qbK P call ops (qf0 o (qaY e o.dst s)) (qaD h s) (nx + 16) (log ++ [s])
def reached:Step -> List Nat
 | .skip=>[]
 | .did r _ _ _=>r
 | .pan r _ _=>r
def wrote:Step -> Bool
 | .skip=>false
 | .did _ w _ _=>w
 | .pan _ _ _=>true
def clash (a b:Step):Bool:=(wrote a || wrote b) && !qE2 (reached a) (reached b)
def qw5 (ops:List IOper) (i:Nat):Opd -> Bool
 | .t n=>(ops.drop i).all fun o=>!decide (o.dst = some n)
 | _=>true
def qny (ops:List IOper) (e:Env) (i j:Nat):Bool:=match ops[i]?,ops[j]? with
 | some ⟨none,.mupd ks _ k _,none⟩,some ⟨none,.mupd ks' _ k' _,none⟩=>
  qkh ks && decide (ks = ks') && qw5 ops i k && qw5 ops j k' && (match qa7 ks (qau e k) (qau e k') with | some false=>true | _=>false) && (match qa7 ks (qau e k') (qau e k) with | some false=>true | _=>false)
 | _,_=>false
def calm (base:Nat) (befs:List (List Nat)) (ops:List IOper) (e:Env) (log:List Step):Bool:=
 (List.range log.length).all fun j=>
  let x:=log.getD j .skip
  let bj:=befs.getD j []
  ((List.range j).all fun i=>bj.contains i || !clash (log.getD i .skip) x || qny ops e i j) &&
  (reached x).all fun q=>decide (q < base) || bj.contains ((q - base) / 16)
def inside (r:List Nat) (nx:Nat) (out:Heap):Bool:=out.all fun p=>r.contains p.1 || (decide (nx <= p.1) && decide (p.1 < nx + 16))
def qgx (h:Heap) (r:List Nat) (j:Nat):Bool:=r.contains j || (qad h j).isNone
def whole (h:Heap) (ids r:List Nat):Bool:=
 ids.all (qgx h r) && r.all fun i=>match qad h i with
  | some b=>(qr7 b).all (qgx h r)
  | none=>false
def lost (h:Heap) (ids:List Nat):Step -> List Nat
 | .did r _ _ _=>(ids ++ (sub h r).flatMap fun p=>qr7 p.2).filter fun j=>(qad h j).isNone
 | _=>[]
def mark:List Nat -> Step -> Step
 | [],s=>s
 | q :: g,.did r w v out=>.did (r ++ q :: g) w v out
 | _,s=>s
def tidy (nx:Nat) (ids:List Nat) (h:Heap):Step -> Bool
 | .skip=>true
 | .did r _ _ out=>whole h ids r && inside r nx out
 | .pan _ _ _=>false
def qbA (e:Env) (o:IOper):List Nat:=qxI e o.op
def qOd:Step -> Option AV
 | .pan _ v _=>some v
 | _=>none
def qm0:IOp -> Bool
 | .mov _ | .load _ _ _ _ | .bin _ _ _ | .faddr _ _ | .nilck _=>true
 | _=>false
def qU1 (befs:List (List Nat)) (ops:List IOper) (i:Nat):Bool:=
 ((List.range ops.length).all fun j=>Nat.ble j i || (befs.getD j []).contains i) &&
 (List.range i).all fun j=>(befs.getD i []).contains j || match ops[j]? with
  | some o=>qm0 o.op
  | none=>true
def qck (P:Prog) (call:qaL) (base:Nat):Nat -> List IOper -> Env -> Heap -> List Step -> Option (Option AV × Env × Heap × List Step)
 | _,[],e,h,log=>some (none,e,h,log)
 | i,o :: ops,e,h,log=>match qbt P call (base + 16 * i) o e h with
  | none=>none
  | some s=>match qOd s with
   | some v=>some (some v,e,qaD h s,log)
   | none=>if tidy (base + 16 * i) (qbA e o) h s then qck P call base (i + 1) ops (qaY e o.dst s) (qaD h s) (log ++ [mark (lost h (qbA e o) s) s]) else none
def qaV (P:Prog) (call:qaL) (ops:List IOper) (drawn:Option (List (List Nat))) (s:St):Option (X × St):=
 match drawn with
 | none=>match qbK P call ops s.tm s.hp s.nx [] with
  | none=>none
  | some (x,e,h,_)=>some (x,⟨e,h,s.nx + 16 * ops.length,s.k⟩)
 | some befs=>match qck P call s.nx 0 ops s.tm s.hp [] with
  | none=>none
  | some (none,e,h,log)=>if calm s.nx befs ops e log then some (.normal,⟨e,h,s.nx + 16 * ops.length,s.k⟩) else none
  | some (some v,e,h,log)=>if calm s.nx befs ops e log && qU1 befs ops log.length then some (.pan v,⟨[],h,s.nx + 16 * ops.length,s.k⟩) else none
def keepE (e:Env):List Nat -> Env
 | []=>[]
 | t :: ts=>(t,qbe e t) :: keepE e ts
def qTp (r:Nat -> Option Nat):Env -> Env
 | []=>[]
 | (t,v) :: e=>(t,ren r v) :: qTp r e
def brought (h:Heap) (k:Nat):List Nat:=(sub h (List.range k)).flatMap fun p=>qr7 p.2
def norm (keep:List Nat) (s:St):Option St:=
 match qa8 qbl s.hp (idsA.idsL (keep.map (qbe s.tm)) ++ brought s.hp s.k) (List.range s.k) with
 | none=>none
 | some r=>some ⟨qTp (place r) (keepE s.tm keep),qft (place r) (sub s.hp r),r.length,s.k⟩
def qbi (P:Prog) (call:qaL) (loop:qdj):ICode -> St -> Option (X × St)
 | .skip,s=>some (.normal,s)
 | .region ops d,s=>qaV P call ops d s
 | .seq a b,s=>match qbi P call loop a s with
  | some (.normal,s)=>qbi P call loop b s
  | r=>r
 | .cond c a b,s=>match qau s.tm c with
  | .bool true=>qbi P call loop a s
  | .bool false=>qbi P call loop b s
  | _=>none
 | .block id c,s=>match qbi P call loop c s with
  | some (.exit j,s)=>if j = id then some (.normal,s) else some (.exit j,s)
  | r=>r
 | .loop keep c,s=>loop keep c s
 | .exit id,s=>some (.exit id,s)
 | .ret,s=>some (.ret,s)
def qGt (s:St):Nat × Option (Bool × Nat) -> Option AV
 | (t,none)=>some (qbe s.tm t)
 | (t,some (agg,n))=>match qjI s.hp (qbe s.tm t) with
  | some cs=>part agg n cs
  | none=>none
def qf8 (s:St):List (Nat × Option (Bool × Nat)) -> Option (List AV)
 | []=>some []
 | r :: rs=>match qGt s r,qf8 s rs with
  | some v,some vs=>some (v :: vs)
  | _,_=>none
def one:List AV -> AV
 | [v]=>v
 | vs=>.tup vs
def qnw (P:Prog) (f k:Nat) (v:AV) (h:Heap):Option (AV × Heap):=
 match if P.fresh f then some (v,h) else still h v with
 | none=>none
 | some (v,h)=>
  match qa8 qbl h (idsA v ++ brought h k) (List.range k) with
  | none=>none
  | some r=>some (ren (place r) v,qft (place r) (sub h r))
def params:Nat -> List AV -> Env
 | _,[]=>[]
 | i,v :: vs=>(i,v) :: params (i + 1) vs
def nzB:Blk -> Blk
 | .box cs fz=>.box (nz.nzL cs) fz
 | b=>b
def nzH (h:Heap):Heap:=h.map fun p=>(p.1,nzB p.2)
def wH (P:Prog) (f:Nat) (h:Heap):Heap:=bif P.wid f then nzH h else h
def wV (P:Prog) (f:Nat) (v:AV):AV:=bif P.wid f then nz v else v
def body (P:Prog) (call:qaL) (loop:qdj) (f:Nat) (F:Fun) (args:List AV) (h:Heap):Option (Res × Heap):=
 match qbi P call loop F.body ⟨params 0 args,wH P f h,h.length,h.length⟩ with
 | some (.normal,s) | some (.ret,s)=>match qf8 s F.results with
  | some vs=>match qnw P f h.length (one vs) s.hp with
   | some (v,h)=>some (.ret (wV P f v),h)
   | none=>none
  | none=>none
 | some (.pan v,s)=>match qnw P f h.length v s.hp with
   | some (v,h)=>some (.pan v,h)
   | none=>none
 | _=>none
def hk:List Nat -> List Nat
 | []=>[]
 | x :: r=>if x = 2000000 then [] else x :: hk r
def xk:List Nat -> List Nat
 | []=>[]
 | x :: r=>if x = 2000000 then r else xk r
def qnH (keep:List Nat) (x:X) (s:St):Option (X × St):=match x with
 | .pan v=>some (.pan v,s)
 | x=>match norm (xk keep) s with
  | some s=>some (x,s)
  | none=>none
def qaq (P:Prog):Nat -> qaL × qdj
  | 0=>(fun _ _ _=>none,fun _ _ _=>none)
  | n + 1=>
    (fun f args h=>match P.fn f with
      | some F=>body P (qaq P n).1 (qaq P n).2 f F args h
      | none=>match P.spec f with
        | some g=>g args h
        | none=>match P.seen f with
          | some s=>s.g (qaq P n).1 args h
          | none=>none,
     fun keep c s=>match norm (hk keep) s with
      | none=>none
      | some s=>match qbi P (qaq P n).1 (qaq P n).2 c s with
        | some (.normal,s)=>(qaq P n).2 keep c s
        | some (x,s)=>qnH keep x s
        | none=>none)
end Go.Eng
namespace Go.Eng
structure Loc where
 blk:Nat
 base:Nat
 sz:Nat
 num:Nat
abbrev Names:=Nat -> Option Loc
abbrev Imm:=Nat -> Nat -> Prop
def m0:Names:=fun _=>none
def ad (b o:Nat):Addr:=⟨b,o,none⟩
theorem qcD (n off:Nat):qa9 n off none = n - off:=by cases off <;> rfl
theorem qq1 (n off k:Nat):qa9 n off (some k) = k:=rfl
theorem qfH (es:List AV) (off:Nat):qni es off = es.drop off:=by cases off <;> rfl
theorem qfV (es:List AV) (off k:Nat):qrV es off (some k) = (es.drop off).take k:=by simp [qrV,qfH]
def isAgg:AV -> Bool
 | .agg _=>true
 | _=>false
def OwnSl (w:World) (L:Loc) (off len:Nat) (v:Value):Prop:=
 ∃ (o cap:Nat) (C:Array Value) (e:TypeId),v = .slice (some (ad L.blk o)) len cap /\ len <= cap /\ (cap ≠ 0 -> o = L.base + off * L.sz) /\ L.num <= off + cap /\
  w.heap[L.blk]? = some (Obj.cells C e (0,0)) /\ L.base + (off + cap) * L.sz <= C.size
def qMC (k:NKd) (v:Value):Prop:=∃ b cap,v = .slice b 0 cap /\ (k ≠ .non -> cap = 0) /\ (k = .nil -> b = none) /\ (k = .non -> ∃ a,b = some a)
theorem qrc {v:Value}:qMC .nil v ↔ v = .slice none 0 0:=by
 constructor
 ·rintro ⟨b,cap,rfl,h1,h2,_⟩
  rw [h1 (by simp),h2 rfl]
 ·rintro rfl
  exact ⟨_,_,rfl,by simp,by simp,by simp⟩
theorem qd6 {k:NKd} {v:Value} (h:qMC k v):∃ b cap,v = .slice b 0 cap /\ (b = none -> cap = 0):=by
 obtain ⟨b,cap,rfl,h1,h2,h3⟩:=h
 refine ⟨_,_,rfl,fun hb=>?_⟩
 cases k
 ·exact h1 (by simp)
 ·exact h1 (by simp)
 ·obtain ⟨a,ha⟩:=h3 rfl
  rw [hb] at ha; cases ha
def fnV:FnId -> List Value -> Value
 | .func n,vs=>.func (.func n) #[] vs.toArray
 | .meth s,vs=>.func (.method s) vs.toArray #[]
def fnA:FnId -> Fn
 | .func n=>.func n
 | .meth s=>.method s
def fnB:FnId -> List Value -> Array Value
 | .func _,_=>#[]
 | .meth _,vs=>vs.toArray
def fnC:FnId -> List Value -> Array Value
 | .func _,vs=>vs.toArray
 | .meth _,_=>#[]
theorem qmj (f:FnId) (vs:List Value):fnV f vs = .func (fnA f) (fnB f vs) (fnC f vs):=by cases f <;> rfl
mutual
def Rel (w:World) (I:Imm):AV -> Names -> Value -> Prop
 | .int k n,_,v=>v = .int k n
 | .bool b,_,v=>v = .bool b
 | .str s,_,v=>v = .string ⟨s.toArray⟩
 | .nilp,_,v=>v = .pointer none
 | .nils q,_,v=>qMC q.kd v
 | .nilm,_,v=>v = .map none
 | .nilf,_,v=>v = .nilFunc
 | .nili,_,v=>v = .nilIface
 | .agg cs,m,v=>∃ vs:List Value,v = .agg vs.toArray /\ qaw w I cs m vs
 | .tup cs,m,v=>∃ vs:List Value,v = .tuple vs.toArray /\ qaw w I cs m vs
 | .view sz es,_,v=>∃ a cap,v = .slice a es.length cap /\ es.length <= cap /\ (es.length = 0 \/ ∃ b o,a = some (ad b o) /\ qwd w I sz es b o) /\ (a = none -> cap = 0)
 | .ptr cs,_,v=>∃ b o,v = .pointer (some (ad b o)) /\ qwc w I cs b o
 | .own id off lo,m,v=>∃ L,m id = some L /\ OwnSl w L off (qa9 L.num off lo) v
 | .ref id idx off,m,v=>∃ L,m id = some L /\ v = .pointer (some (ad L.blk (L.base + idx * L.sz + off)))
 | .mref id,m,v=>∃ L,m id = some L /\ v = .map (some L.blk)
 | .fn f cap,m,v=>∃ vs:List Value,v = fnV f vs /\ qaw w I cap m vs
 | .iface t x,m,v=>∃ y,v = .iface t y /\ Rel w I x m y
 | .junk,_,_=>True
def qaw (w:World) (I:Imm):List AV -> Names -> List Value -> Prop
 | [],_,vs=>vs = []
 | c :: cs,m,vs=>∃ v vs',vs = v :: vs' /\ Rel w I c m v /\ qaw w I cs m vs'
def qwc (w:World) (I:Imm):List AV -> Nat -> Nat -> Prop
 | [],_,_=>True
 | c :: cs,b,o=>(I b o /\ qaR c = true /\ ∃ v,w.cell? (ad b o) = some v /\ Rel w I c m0 v) /\ qwc w I cs b (o + 1)
def qwd (w:World) (I:Imm) (sz:Nat):List AV -> Nat -> Nat -> Prop
 | [],_,_=>True
 | e :: es,b,o=>(qac e).length = sz /\ (match e with
   | .agg cs=>qwc w I cs b o
   | _=>True) /\ (isAgg e = false -> I b o /\ qaR e = true /\ ∃ v,w.cell? (ad b o) = some v /\ Rel w I e m0 v) /\ qwd w I sz es b (o + sz)
end
def flat (es:List AV):List AV:=es.flatMap qac
theorem qaH {w:World} {I:Imm} {m:Names}:∀ {cs:List AV} {vs:List Value},qaw w I cs m vs -> vs.length = cs.length
 | [],_,h=>by simp only [qaw] at h; simp [h]
 | c :: cs,_,h=>by
  simp only [qaw] at h
  obtain ⟨v,vs',rfl,_,h⟩:=h
  simp [qaH h]
theorem qbf {w:World} {I:Imm} {m:Names}:∀ {cs:List AV} {vs:List Value},qaw w I cs m vs -> ∀ (i:Nat) (c:AV),cs[i]? = some c -> ∃ v,vs[i]? = some v /\ Rel w I c m v
 | [],_,_=>by simp
 | c :: cs,_,h=>by
  simp only [qaw] at h
  obtain ⟨v,vs',rfl,hv,h⟩:=h
  intro i c' hc
  cases i with
  | zero=>simp at hc; subst hc; exact ⟨v,by simp,hv⟩
  | succ i=>simp at hc; simpa using qbf h i c' hc
theorem qnS {w:World} {I:Imm} {m:Names}:∀ {cs:List AV} {vs:List Value},vs.length = cs.length ->
  (∀ (i:Nat) (c:AV) (v:Value),cs[i]? = some c -> vs[i]? = some v -> Rel w I c m v) -> qaw w I cs m vs
 | [],vs,h,_=>by simp at h; simp [qaw,h]
 | c :: cs,[],h,_=>by simp at h
 | c :: cs,v :: vs,h,hh=>by
  simp only [qaw]
  refine ⟨v,vs,rfl,hh 0 c v rfl rfl,qnS (by simpa using h) fun i c v hc hv=>hh (i + 1) c v (by simpa using hc) (by simpa using hv)⟩
theorem qcv {w:World} {I:Imm} {m:Names} {cs ds:List AV} {vs us:List Value} (h:qaw w I cs m vs) (h':qaw w I ds m us):qaw w I (cs ++ ds) m (vs ++ us):=by
 induction cs generalizing vs with
 | nil=>simp only [qaw] at h; subst h; simpa using h'
 | cons c cs ih=>
  simp only [qaw] at h
  obtain ⟨v,vs',rfl,hv,h⟩:=h
  simp only [List.cons_append,qaw]
  exact ⟨v,_,rfl,hv,ih h⟩
theorem qdb {w:World} {I:Imm} {m:Names}:∀ (n:Nat) {cs:List AV} {vs:List Value},qaw w I cs m vs -> qaw w I (cs.drop n) m (vs.drop n)
 | 0,_,_,h=>by simpa using h
 | n + 1,[],vs,h=>by simp only [qaw] at h; subst h; simp [qaw]
 | n + 1,c :: cs,vs,h=>by
  simp only [qaw] at h
  obtain ⟨v,vs',rfl,hv,h⟩:=h
  simpa using qdb n h
theorem qdd {w:World} {I:Imm} {m:Names}:∀ (n:Nat) {cs:List AV} {vs:List Value},qaw w I cs m vs -> qaw w I (cs.take n) m (vs.take n)
 | 0,_,_,h=>by simp [qaw]
 | n + 1,[],vs,h=>by simp only [qaw] at h; subst h; simp [qaw]
 | n + 1,c :: cs,vs,h=>by
  simp only [qaw] at h
  obtain ⟨v,vs',rfl,hv,h⟩:=h
  simp only [List.take_succ_cons,qaw]
  exact ⟨v,_,rfl,hv,qdd n h⟩
def At (w:World) (I:Imm) (cs:List AV) (b o:Nat):Prop:=
 ∀ (i:Nat) (c:AV),cs[i]? = some c -> I b (o + i) /\ qaR c = true /\ ∃ v,w.cell? (ad b (o + i)) = some v /\ Rel w I c m0 v
theorem qbr {w:World} {I:Imm}:∀ {cs:List AV} {b o:Nat},qwc w I cs b o ↔ At w I cs b o
 | [],b,o=>by simp [qwc,At]
 | c :: cs,b,o=>by
  simp only [qwc,qbr (cs:=cs)]
  constructor
  ·rintro ⟨h,h'⟩ i c' hc
   cases i with
   | zero=>simp at hc; subst hc; simpa using h
   | succ i=>simp at hc; have:=h' i c' hc; rwa [show o + 1 + i = o + (i + 1) by omega] at this
  ·intro h
   refine ⟨by simpa using h 0 c rfl,fun i c' hc=>?_⟩
   have:=h (i + 1) c' (by simpa using hc)
   rwa [show o + (i + 1) = o + 1 + i by omega] at this
theorem qjB {w:World} {I:Imm} {cs ds:List AV} {b o:Nat}:At w I (cs ++ ds) b o ↔ At w I cs b o /\ At w I ds b (o + cs.length):=by
 constructor
 ·intro h
  refine ⟨fun i c hc=>h i c ?_,fun i c hc=>?_⟩
  ·rw [List.getElem?_append_left (by have:=(List.getElem?_eq_some_iff.1 hc).1; exact this)]; exact hc
  ·have:=h (cs.length + i) c (by rw [List.getElem?_append_right (by omega)]; simpa using hc)
   rwa [show o + (cs.length + i) = o + cs.length + i by omega] at this
 ·rintro ⟨h,h'⟩ i c hc
  by_cases hi:i < cs.length
  ·rw [List.getElem?_append_left hi] at hc; exact h i c hc
  ·rw [List.getElem?_append_right (by omega)] at hc
   have:=h' _ c hc
   rwa [show o + cs.length + (i - cs.length) = o + i by omega] at this
theorem qrn {w:World} {I:Imm} {sz:Nat} {e:AV} {es:List AV} {b o:Nat}:qwd w I sz (e :: es) b o ↔ ((qac e).length = sz /\ qwc w I (qac e) b o /\ qwd w I sz es b (o + sz)):=by
 cases e <;> simp [qwd,qwc,qac,isAgg,and_assoc]
theorem qdx {w:World} {I:Imm} {sz:Nat} {es:List AV} {b o:Nat}:qwd w I sz es b o ↔ (∀ e ∈ es,(qac e).length = sz) /\ At w I (flat es) b o:=by
 induction es generalizing o with
 | nil=>simp [qwd,flat,At]
 | cons e es ih=>
  have hf:flat (e :: es) = qac e ++ flat es:=rfl
  rw [hf,qjB,qrn,ih,qbr]
  simp only [List.mem_cons,forall_eq_or_imp]
  constructor
  ·rintro ⟨h1,h2,h3,h4⟩; exact ⟨⟨h1,h3⟩,h2,h1 ▸ h4⟩
  ·rintro ⟨⟨h1,h3⟩,h2,h4⟩; exact ⟨h1,h2,h3,h1 ▸ h4⟩
theorem qa5 {sz:Nat}:∀ {es:List AV},(∀ e ∈ es,(qac e).length = sz) -> (flat es).length = es.length * sz
 | [],_=>by simp [flat]
 | e :: es,h=>by
  have hf:flat (e :: es) = qac e ++ flat es:=rfl
  rw [hf,List.length_append,h e (by simp),qa5 fun x hx=>h x (by simp [hx])]
  simp [Nat.add_mul]; omega
theorem qby (es fs:List AV):flat (es ++ fs) = flat es ++ flat fs:=by simp [flat]
structure Stays (w w':World) (I:Imm):Prop where
 size:w.heap.size <= w'.heap.size
 row:∀ (b:Nat) (C:Array Value) (e:TypeId),w.heap[b]? = some (Obj.cells C e (0,0)) -> ∃ C':Array Value,w'.heap[b]? = some (Obj.cells C' e (0,0)) /\ C'.size = C.size
 imm:∀ b o,I b o -> w'.cell? (ad b o) = w.cell? (ad b o)
 out:w'.os = w.os /\ w'.output = w.output /\ w'.tape = w.tape
theorem Stays.refl (w:World) (I:Imm):Stays w w I:=⟨Nat.le_refl _,fun _ C _ h=>⟨C,h,rfl⟩,fun _ _ _=>rfl,⟨rfl,rfl,rfl⟩⟩
theorem Stays.trans {w w1 w2:World} {I I1:Imm} (h:Stays w w1 I) (h':Stays w1 w2 I1) (hI:∀ b o,I b o -> I1 b o):Stays w w2 I:=
  ⟨Nat.le_trans h.size h'.size,fun b C e hc=>by
    obtain ⟨C1,h1,e1⟩:=h.row b C e hc
    obtain ⟨C2,h2,e2⟩:=h'.row b C1 e h1
    exact ⟨C2,h2,e2.trans e1⟩,
   fun b o hi=>(h'.imm b o (hI b o hi)).trans (h.imm b o hi),
   ⟨h'.out.1.trans h.out.1,h'.out.2.1.trans h.out.2.1,h'.out.2.2.trans h.out.2.2⟩⟩
theorem Stays.sub {w w1:World} {I I1:Imm} (h:Stays w w1 I1) (hI:∀ b o,I b o -> I1 b o):Stays w w1 I:=
 ⟨h.size,h.row,fun b o hi=>h.imm b o (hI b o hi),h.out⟩
theorem OwnSl.stays {w w':World} {I:Imm} {L:Loc} {off len:Nat} {v:Value} (s:Stays w w' I) (h:OwnSl w L off len v):OwnSl w' L off len v:=by
 obtain ⟨o,cap,C,e,hv,h1,h2,h3,h4,h5⟩:=h
 obtain ⟨C',hc,hs⟩:=s.row _ _ _ h4
 exact ⟨o,cap,C',e,hv,h1,h2,h3,hc,by omega⟩
mutual
theorem qaA {w w':World} {I I':Imm} (s:Stays w w' I) (hI:∀ b o,I b o -> I' b o):∀ (x:AV) {m m':Names} {v:Value},(∀ i L,m i = some L -> m' i = some L) -> Rel w I x m v -> Rel w' I' x m' v
 | .int ..,_,_,_,_,h=>h
 | .bool ..,_,_,_,_,h=>h
 | .str ..,_,_,_,_,h=>h
 | .nilp,_,_,_,_,h=>h
 | .nils _,_,_,_,_,h=>h
 | .nilm,_,_,_,_,h=>h
 | .nilf,_,_,_,_,h=>h
 | .nili,_,_,_,_,h=>h
 | .agg cs,_,_,_,hm,h=>by
  simp only [Rel] at h ⊢
  obtain ⟨vs,hv,h⟩:=h
  exact ⟨vs,hv,qd9 s hI cs hm h⟩
 | .tup cs,_,_,_,hm,h=>by
  simp only [Rel] at h ⊢
  obtain ⟨vs,hv,h⟩:=h
  exact ⟨vs,hv,qd9 s hI cs hm h⟩
 | .view sz es,_,_,_,hm,h=>by
  simp only [Rel] at h ⊢
  obtain ⟨a,cap,hv,hc,h,hz⟩:=h
  exact ⟨a,cap,hv,hc,h.imp id fun ⟨b,o,ha,h⟩=>⟨b,o,ha,qro s hI sz es h⟩,hz⟩
 | .ptr cs,_,_,_,hm,h=>by
  simp only [Rel] at h ⊢
  obtain ⟨b,o,hv,h⟩:=h
  exact ⟨b,o,hv,qfr s hI cs h⟩
 | .own ..,_,_,_,hm,h=>by
  simp only [Rel] at h ⊢
  obtain ⟨L,hL,h⟩:=h
  exact ⟨L,hm _ _ hL,h.stays s⟩
 | .ref ..,_,_,_,hm,h=>by
  simp only [Rel] at h ⊢
  obtain ⟨L,hL,h⟩:=h
  exact ⟨L,hm _ _ hL,h⟩
 | .mref ..,_,_,_,hm,h=>by
  simp only [Rel] at h ⊢
  obtain ⟨L,hL,h⟩:=h
  exact ⟨L,hm _ _ hL,h⟩
 | .fn f cs,_,_,_,hm,h=>by
  simp only [Rel] at h ⊢
  obtain ⟨vs,hv,h⟩:=h
  exact ⟨vs,hv,qd9 s hI cs hm h⟩
 | .iface t x,_,_,_,hm,h=>by
  simp only [Rel] at h ⊢
  obtain ⟨y,hv,h⟩:=h
  exact ⟨y,hv,qaA s hI x hm h⟩
 | .junk,_,_,_,_,_=>by simp [Rel]
termination_by x=>SizeOf.sizeOf x
theorem qd9 {w w':World} {I I':Imm} (s:Stays w w' I) (hI:∀ b o,I b o -> I' b o):∀ (cs:List AV) {m m':Names} {vs:List Value},(∀ i L,m i = some L -> m' i = some L) -> qaw w I cs m vs -> qaw w' I' cs m' vs
 | [],_,_,_,_,h=>h
 | c :: cs,_,_,_,hm,h=>by
  simp only [qaw] at h ⊢
  obtain ⟨v,vs',hv,h1,h2⟩:=h
  exact ⟨v,vs',hv,qaA s hI c hm h1,qd9 s hI cs hm h2⟩
termination_by cs=>SizeOf.sizeOf cs
theorem qfr {w w':World} {I I':Imm} (s:Stays w w' I) (hI:∀ b o,I b o -> I' b o):∀ (cs:List AV) {b o:Nat},qwc w I cs b o -> qwc w' I' cs b o
 | [],_,_,h=>h
 | c :: cs,b,o,h=>by
  simp only [qwc] at h ⊢
  obtain ⟨⟨h0,hk,v,hv,h1⟩,h2⟩:=h
  exact ⟨⟨hI _ _ h0,hk,v,(s.imm _ _ h0).trans hv,qaA s hI c (fun _ _ h=>h) h1⟩,qfr s hI cs h2⟩
termination_by cs=>SizeOf.sizeOf cs
theorem qro {w w':World} {I I':Imm} (s:Stays w w' I) (hI:∀ b o,I b o -> I' b o) (sz:Nat):∀ (es:List AV) {b o:Nat},qwd w I sz es b o -> qwd w' I' sz es b o
 | [],_,_,h=>h
 | e :: es,b,o,h=>by
  rw [qrn] at h ⊢
  obtain ⟨h0,h1,h2⟩:=h
  refine ⟨h0,?_,qro s hI sz es h2⟩
  by_cases ha:isAgg e = true
  ·obtain ⟨cs,rfl⟩:∃ cs,e = .agg cs:=by cases e <;> first | exact ⟨_,rfl⟩ | simp [isAgg] at ha
   exact qfr s hI cs h1
  ·have hc:qac e = [e]:=by cases e <;> first | rfl | exact absurd rfl ha
   rw [hc] at h1 ⊢
   simp only [qwc] at h1 ⊢
   obtain ⟨⟨h0,hk,v,hv,h1⟩,h2⟩:=h1
   exact ⟨⟨hI _ _ h0,hk,v,(s.imm _ _ h0).trans hv,qaA s hI e (fun _ _ h=>h) h1⟩,h2⟩
termination_by es=>SizeOf.sizeOf es
end
theorem At.mono {w w':World} {I I':Imm} (s:Stays w w' I) (hI:∀ b o,I b o -> I' b o) {cs:List AV} {b o:Nat} (h:At w I cs b o):At w' I' cs b o:=
 qbr.1 (qfr s hI cs (qbr.2 h))
def qbc:List AV -> Option (List IntKind)
 | []=>some []
 | .int k _ :: xs=>(qbc xs).map (k :: ·)
 | _ :: _=>none
def qdk:AV -> Option (List IntKind)
 | .agg xs=>qbc xs
 | _=>none
def MapOf (kvs0 kvs:List (AV × AV)):Prop:=
 (kvs0 = kvs /\ ∀ p ∈ kvs,qdk p.1 = none) \/ (kvs0.Perm kvs /\ (∃ kk,∀ p ∈ kvs,qdk p.1 = some kk) /\ kvs.Pairwise fun p q=>ltK p.1 q.1 = true)
theorem MapOf.nil:MapOf [] []:=.inl ⟨rfl,by simp⟩
theorem MapOf.len {kvs0 kvs:List (AV × AV)} (h:MapOf kvs0 kvs):kvs0.length = kvs.length:=by
 rcases h with ⟨rfl,_⟩ | ⟨h,_⟩
 ·rfl
 ·exact h.length_eq
def BlkAt (w:World) (I:Imm) (m:Names) (L:Loc):Blk -> Prop
 | .box cs fz=>L.num = 1 /\ L.sz = cs.length /\ ∃ (C:Array Value) (e:TypeId),w.heap[L.blk]? = some (Obj.cells C e (0,0)) /\ L.base + cs.length <= C.size /\
   (∀ (i:Nat) (c:AV),cs[i]? = some c -> ∃ v,C[L.base + i]? = some v /\ Rel w I c m v) /\
   (if fz = true then ∀ i,i < cs.length -> I L.blk (L.base + i) else ∀ o,¬ I L.blk o)
 | .arr sz es fz=>L.num = es.length /\ L.sz = sz /\ (∀ e ∈ es,(qac e).length = sz) /\ ∃ (C:Array Value) (e:TypeId),w.heap[L.blk]? = some (Obj.cells C e (0,0)) /\ L.base + es.length * sz <= C.size /\
   (∀ (i:Nat) (c:AV),(flat es)[i]? = some c -> ∃ v,C[L.base + i]? = some v /\ qaR c = true /\ Rel w I c m0 v) /\
   (if fz = true then ∀ i,i < es.length * sz -> I L.blk (L.base + i) else ∀ o,¬ I L.blk o)
 | .mp kvs=>∃ (es:Array MapEntry) (clock:Nat) (kvs0:List (AV × AV)),MapOf kvs0 kvs /\ w.heap[L.blk]? = some (Obj.map es clock) /\ es.size = kvs0.length /\
   (∀ (i:Nat) (kv:AV × AV),kvs0[i]? = some kv -> ∃ x,es[i]? = some x /\ Rel w I kv.1 m0 x.key /\ Rel w I kv.2 m0 x.val)
class Globs where
 g:Nat -> Option (List AV)
def GlobAt [Globs] (w:World) (I:Imm):Prop:=∀ g cs,Globs.g g = some cs -> qwc w I cs g 0 /\ ∃ (C:Array Value) (e:TypeId),w.heap[g]? = some (Obj.cells C e (0,0)) /\ C.size = cs.length
theorem GlobAt.mono [Globs] {w w':World} {I I':Imm} (h:GlobAt w I) (s:Stays w w' I) (hI:∀ b o,I b o -> I' b o):GlobAt w' I':=fun g cs hg=>by
 obtain ⟨h1,C,e,h2,h3⟩:=h g cs hg
 obtain ⟨C',h4,h5⟩:=s.row g C e h2
 exact ⟨qfr s hI cs h1,C',e,h4,h5.trans h3⟩
structure HeapAt [Globs] (w:World) (I:Imm) (m:Names) (h:Heap):Prop where
 at_:∀ i b,qad h i = some b -> ∃ L,m i = some L /\ BlkAt w I m L b
 apart:∀ i j a b L L',qad h i = some a -> qad h j = some b -> m i = some L -> m j = some L' -> L.blk = L'.blk -> i = j
 old:∀ b o,I b o -> b < w.heap.size
 glob:GlobAt w I
def Owns (m:Names) (h:Heap) (b:Nat):Prop:=∃ i a L,qad h i = some a /\ m i = some L /\ L.blk = b
end Go.Eng
namespace Go.Eng
mutual
def qiP:Value -> Option AV
 | .bool b=>some (.bool b)
 | .int k n=>some (.int k n)
 | .string s=>some (.str s.data.toList)
 | .pointer none=>some .nilp
 | .slice none 0 0=>some (.nils 0)
 | .map none=>some .nilm
 | .nilFunc=>some .nilf
 | .nilIface=>some .nili
 | .agg ⟨vs⟩=>(qwi vs).map .agg
 | .tuple ⟨vs⟩=>(qwi vs).map .tup
 | _=>none
def qwi:List Value -> Option (List AV)
 | []=>some []
 | v :: vs=>match qiP v,qwi vs with
  | some x,some xs=>some (x :: xs)
  | _,_=>none
end
mutual
theorem qiX {w:World} {I:Imm} {m:Names}:∀ (v:Value) {x:AV},qiP v = some x -> Rel w I x m v
 | .bool _,x,h=>by simp [qiP] at h; subst h; simp [Rel]
 | .int _ _,x,h=>by simp [qiP] at h; subst h; simp [Rel]
 | .string s,x,h=>by simp [qiP] at h; subst h; simp [Rel]
 | .pointer none,x,h=>by simp [qiP] at h; subst h; simp [Rel]
 | .pointer (some _),x,h=>by simp [qiP] at h
 | .slice none 0 0,x,h=>by simp [qiP] at h; subst h; simp only [Rel]; exact qrc.2 rfl
 | .slice none 0 (_ + 1),x,h=>by simp [qiP] at h
 | .slice none (_ + 1) _,x,h=>by simp [qiP] at h
 | .slice (some _) _ _,x,h=>by simp [qiP] at h
 | .map none,x,h=>by simp [qiP] at h; subst h; simp [Rel]
 | .map (some _),x,h=>by simp [qiP] at h
 | .nilFunc,x,h=>by simp [qiP] at h; subst h; simp [Rel]
 | .nilIface,x,h=>by simp [qiP] at h; subst h; simp [Rel]
 | .agg ⟨vs⟩,x,h=>by
  simp only [qiP,Option.map_eq_some_iff] at h
  obtain ⟨xs,h,rfl⟩:=h
  simp only [Rel]
  exact ⟨vs,rfl,qkK vs h⟩
 | .tuple ⟨vs⟩,x,h=>by
  simp only [qiP,Option.map_eq_some_iff] at h
  obtain ⟨xs,h,rfl⟩:=h
  simp only [Rel]
  exact ⟨vs,rfl,qkK vs h⟩
 | .float _ _,x,h=>by simp [qiP] at h
 | .complex _ _ _,x,h=>by simp [qiP] at h
 | .chan _,x,h=>by simp [qiP] at h
 | .func _ _ _,x,h=>by simp [qiP] at h
 | .iface _ _,x,h=>by simp [qiP] at h
theorem qkK {w:World} {I:Imm} {m:Names}:∀ (vs:List Value) {xs:List AV},qwi vs = some xs -> qaw w I xs m vs
 | [],xs,h=>by simp [qwi] at h; subst h; simp [qaw]
 | v :: vs,xs,h=>by
  simp only [qwi] at h
  split at h
  ·rename_i x xs' h1 h2
   simp at h; subst h
   simp only [qaw]
   exact ⟨v,vs,rfl,qiX v h1,qkK vs h2⟩
  ·simp at h
end
def qch:Operand -> Option Opd
 | .tmp t=>some (.t t)
 | .const v=>(qiP v).map .c
 | .func f=>some (.f f)
 | .global _=>none
def qMQ [Globs]:Operand -> Option Opd
 | .global g=>(Globs.g g).map fun cs=>.c (.ptr cs)
 | x=>qch x
def qlt:List Operand -> Option (List Opd)
 | []=>some []
 | x :: xs=>match qch x,qlt xs with
  | some y,some ys=>some (y :: ys)
  | _,_=>none
def qFn:Option Operand -> Option (Option Opd)
 | none=>some none
 | some x=>match qch x with
  | some y=>some (some y)
  | none=>none
section
variable (P:Program)
def qb9 (t:TypeId):Option Nat:=(P.info? t).map (·.size)
def bytesOf (t:TypeId):Option Nat:=(P.info? t).map (·.bytes)
def qaT (t:TypeId):Option Bool:=(P.underlying t).map fun d=>match d with | .struct _ | .array _ _=>true | _=>false
def qpC (t:TypeId):Option TypeId:=match P.underlying t with
 | some (.slice e)=>some e
 | _=>none
def qeF (lv:TypeId -> Option (List EK)):List Field -> Nat -> Option (List EK)
 | [],_=>some []
 | f :: fs,off=>if f.name = "_" \/ f.offset ≠ off then none else match lv f.type with
  | some ks=>if qb9 P f.type = some ks.length then (qeF lv fs (off + ks.length)).map (ks ++ ·) else none
  | none=>none
def leaves:Nat -> TypeId -> Option (List EK)
 | 0,_=>none
 | n + 1,t=>match P.underlying t with
  | some .bool=>some [.b]
  | some (.int _)=>some [.i]
  | some .string=>some [.s]
  | some (.struct fs)=>if P.stoodInHeld t then none else qeF P (leaves n) fs.toList 0
  | _=>none
def qr8 (t:TypeId):Option Key:=match leaves P 20 t with
 | some ks=>(qaT P t).map fun a=>(a,ks)
 | none=>none
def q11 (sh:TypeId -> Option (List CS)):List Field -> Nat -> Option (List CS)
 | [],_=>some []
 | f :: fs,off=>if f.offset = off then match sh f.type with
   | some cs=>match q11 sh fs (off + cs.length) with
    | some r=>some (cs ++ r)
    | none=>none
   | none=>none
  else none
def shN (cs:List CS):Nat -> List CS
 | 0=>[]
 | n + 1=>cs ++ shN cs n
def shC:Nat -> TypeId -> Option (List CS)
 | 0,_=>none
 | n + 1,t=>match P.underlying t with
  | some .bool=>some [.bool]
  | some (.int k)=>some [.int k]
  | some .string=>some [.str]
  | some (.slice e)=>(qb9 P e).map fun k=>[.slice k]
  | some (.pointer e)=>(qb9 P e).map fun k=>[.ptr k]
  | some (.struct fs)=>q11 (shC n) fs.toList 0
  | some (.array k e)=>(shC n e).map fun cs=>shN cs k
  | _=>none
def qT1:CS -> AV -> AV
 | .slice k,.nils q=>.nils ⟨k,q.kd⟩
 | _,v=>v
def qPu:List CS -> List AV -> List AV
 | k :: ks,c :: cs=>qT1 k c :: qPu ks cs
 | _,cs=>cs
def qZO (ks:List CS):AV -> AV
 | .agg cs=>.agg (qPu ks cs)
 | v=>match ks with
  | [k]=>qT1 k v
  | _=>v
def csT (t:TypeId):List CS:=(shC P 12 t).getD []
def zeroOf (t:TypeId):Option AV:=(((P.info? t).bind (·.zero)).bind qiP).map (qZO (csT P t))
def qio (place:Nat -> Option (Nat × Nat)):List (Nat × Operand) -> Option (List (Nat × Nat × Opd))
 | []=>some []
 | (i,x) :: ps=>match place i,qch x,qio place ps with
  | some (off,n),some y,some qs=>some ((off,n,y) :: qs)
  | _,_,_=>none
def qpr:List (Nat × Operand) -> Option (List (Nat × Opd))
 | []=>some []
 | (i,x) :: ps=>match qch x,qpr ps with
  | some y,some qs=>some ((i,y) :: qs)
  | _,_=>none
def qeB (fs:Array Field) (i:Nat):Option (Nat × Nat):=match fs[i]? with
 | some f=>(qb9 P f.type).map fun n=>(f.offset,n)
 | none=>none
def qmo:AV -> Bool
 | .agg _=>true
 | _=>false
def qb4:Operand -> Bool
 | .const (.pointer none) | .const (.slice none 0 0) | .const (.map none) | .const .nilFunc | .const .nilIface=>true
 | _=>false
def qnD:TypeDesc -> Option NK
 | .slice _=>some .s
 | .map _ _=>some .m
 | .func _ _ _=>some .f
 | .pointer _=>some .p
 | .interface _=>some .i
 | _=>none
def cEq (neg:Bool) (op:BinOp) (t:TypeId) (x y:Operand) (a b:Opd):Option IOp:=
 match P.underlying t with
 | none=>none
 | some d=>match d with
  | .int _=>some (.bin op a b)
  | .string=>some (.bin op a b)
  | .bool=>some (.eqs (false,[.b]) neg a b)
  | .struct _=>match qr8 P t with
   | some ks=>if P.eqGuardType P.depth t = true then none else some (.eqs ks neg a b)
   | none=>none
  | d=>if qb4 x = true \/ qb4 y = true then (qnD d).map fun k=>.eqn k neg a b else none
def qUI (op:BinOp) (t:TypeId) (x y:Operand):Option IOp:=
 match qch x,qch y with
 | some a,some b=>
  if op = .eql then cEq P false op t x y a b
  else if op = .neq then cEq P true op t x y a b
  else some (.bin op a b)
 | _,_=>none
def qUJ (fn:Fn) (first:List Operand) (cap:List Operand):Option IOp:=match fn with
 | .method s=>match first,cap with
  | [x],[]=>(qch x).map (.mkb s)
  | _,_=>none
 | .func f=>if first.length = 0 then (qlt cap).map (.mkf f) else none
 | _=>none
def qQS (t:TypeId):Option Operand -> Option IOp
 | none=>some .mkm
 | some (.const (.int _ _))=>match P.underlying t with
  | some (.map _ _)=>some .mkm
  | _=>none
 | _=>none
def qMR (t:TypeId) (x:Operand) (lo hi:Option Operand) (mx:Operand):Option IOp:=
 match P.underlying t,qch x,qFn lo,qFn hi,qch mx with
 | some (.slice e),some y,some (some l),some (some h),some m=>(qb9 P e).map fun _=>.slc3 y l h m
 | _,_,_,_,_=>none
def qUL (t:TypeId) (x:Operand) (lo hi mx:Option Operand):Option IOp:=
 match mx with
 | some m=>qMR P t x lo hi m
 | none=>
 match P.underlying t,qch x,qFn lo,qFn hi with
 | some (.slice e),some y,some l,some h=>(qb9 P e).map fun n=>.slc n y l h
 | some .string,some y,some l,some h=>some (.slcs y l h)
 | some (.array n e),some y,some none,some none=>(qb9 P e).map fun sz=>.aslc n sz y
 | _,_,_,_=>none
def qsP:TypeDesc -> Option LK
 | .slice _=>some .l
 | .string=>some .s
 | .map _ _=>some .m
 | _=>none
def qQR (x:Operand) (t:TypeId):Option IOp:=match P.underlying t,qch x with
 | some d,some y=>(qsP d).map fun k=>.len k y
 | _,_=>none
def qQN (s x:Operand) (t u:TypeId):Option IOp:=match qpC P t,qpC P u,qch s,qch x with
 | some e,some _,some a,some b=>match qb9 P e,bytesOf P e,zeroOf P e with
  | some sz,some by_,some z=>if 0 < sz /\ 0 < by_ /\ (qac z).length = sz /\ qaB (qac z) = true then some (.app sz by_ a b) else none
  | _,_,_=>none
 | _,_,_,_=>none
def qQQ (m k:Operand) (t:TypeId):Option IOp:=match P.underlying t,qch m,qch k with
 | some (.map kt _),some a,some b=>(qr8 P kt).map fun ks=>.mdel ks a b
 | _,_,_=>none
def qQO (x:Operand) (t:TypeId):Option IOp:=match qpC P t,qch x with
 | some e,some a=>match qb9 P e,zeroOf P e with
  | some sz,some z=>if 0 < sz /\ (qac z).length = sz /\ qaB (qac z) = true then some (.clr sz z a) else none
  | _,_=>none
 | _,_=>none
def qQP (x y:Operand) (t:TypeId):Option IOp:=match qpC P t,qch x,qch y with
 | some e,some a,some b=>(qb9 P e).map fun _=>.cpy a b
 | _,_,_=>none
def qg0 (b:Builtin) (args:List Operand) (ts:List TypeId):Option IOp:=
 if b = .len then match args,ts with
  | [x],[t]=>qQR P x t
  | _,_=>none
 else if b = .append then match args,ts with
  | [s,x],[t,u]=>qQN P s x t u
  | _,_=>none
 else if b = .delete then match args,ts with
  | [m,k],t :: _=>qQQ P m k t
  | _,_=>none
 else if b = .clear then match args,ts with
  | [x],[t]=>qQO P x t
  | _,_=>none
 else if b = .max then (qlt args).map .mx
 else if b = .min then (qlt args).map .mn
 else if b = .panic then match args with
  | [x]=>(qch x).map .pan
  | _=>none
 else if b = .copy then match args,ts with
  | [x,y],t :: _=>qQP P x y t
  | _,_=>none
 else none
def q5k:Option CS -> Opd -> Opd
 | some k,.c v=>.c (qT1 k v)
 | _,y=>y
def qGI:List (Option CS) -> List Opd -> List Opd
 | k :: ks,y :: ys=>q5k k y :: qGI ks ys
 | _,ys=>ys
def qTv (t:TypeId):Option CS:=match P.underlying t with
 | some (.slice e)=>(qb9 P e).map .slice
 | _=>none
def q4Z (f:Nat):List (Option CS):=match P.funcs[f]? with
 | some F=>F.params.toList.map (qTv P)
 | none=>[]
def qsl (f:Operand) (args:List Operand):Option IOp:=match f with
 | .func f=>(qlt args).map fun ys=>.call f (qGI (q4Z P f) ys)
 | .tmp t=>(qlt args).map (.callv (.t t))
 | _=>none
def qPq (name:String) (t:TypeId):Option Nat:=match P.info? t with
 | some i=>match i.methods.find? (·.name == name) with
  | some m=>match m.path.toList,m.func,P.underlying t with
   | [],some (f,true),some (.pointer _)=>some f
   | [],some (_,false),some (.pointer _)=>none
   | [],some (f,false),some _=>some f
   | _,_,_=>none
  | none=>none
 | none=>none
def qxc (name:String):Nat -> List (Nat × Nat)
 | 0=>[]
 | n + 1=>match qPq P name n with
  | some f=>(n,f) :: qxc name n
  | none=>qxc name n
def q1L (name:String):List (Nat × Nat):=qxc P name P.types.size
def qV9 (r:Operand) (name:String) (args:List Operand):Option IOp:=match qch r,qlt args with
 | some x,some ys=>some (.invk (q1L P name) x ys)
 | _,_=>none
theorem qnB {name:String} {t f:Nat}:∀ {n:Nat},qti (qxc P name n) t = some f -> qPq P name t = some f
 | 0,h=>by simp [qxc,qti] at h
 | n + 1,h=>by
  simp only [qxc] at h
  split at h
  ·rename_i g hg
   simp only [qti] at h
   split at h
   ·rename_i e; subst e; rw [hg]; exact h
   ·exact qnB h
  ·exact qnB h
def qsk (c:Go.Call):Option IOp:=
 match c.callee with
 | .value f=>qsl P f c.args.toList
 | .invoke r m=>qV9 P r m c.args.toList
 | .builtin b=>qg0 P b c.args.toList c.argTypes.toList
def qPf (mn:Nat -> Option String):Operand -> Option IOp
 | .tmp t=>match mn t with
  | some s=>some (.nilm s (q1L P s) (.t t))
  | none=>some (.nilck (.t t))
 | x=>(qch x).map .nilck
def cOp [Globs] (mn:Nat -> Option String):Op -> Option IOp
 | .move x | .assign x=>(qch x).map .mov
 | .panic x=>(qch x).map .pan
 | .pick c a b=>match qch c,qch a,qch b with
  | some c,some a,some b=>some (.pick c a b)
  | _,_,_=>none
 | .alloc t=>match zeroOf P t with
  | some z=>if qaB (qac z) then some (.alloc z) else none
  | none=>none
 | .box t x=>match qb9 P t,qch x with
  | some n,some y=>some (.box n y)
  | _,_=>none
 | .build t ps=>match zeroOf P t,P.underlying t with
  | some z,some (.struct fs)=>if fs.all (fun f=>(qb9 P f.type).isSome) = true /\ qmo z = true then (qio (qeB P fs) ps.toList).map (.build (qac z)) else none
  | some z,some (.array _ e)=>match qb9 P e with
   | some n=>if qmo z = true then (qio (fun i=>some (i * n,n)) ps.toList).map (.build (qac z)) else none
   | none=>none
  | _,_=>none
 | .buildSlice t n ps=>match qpC P t with
  | some e=>match qb9 P e,zeroOf P e,qpr ps.toList with
   | some sz,some z,some qs=>if n * sz <= 16777216 /\ 0 < sz /\ (qac z).length = sz /\ qaB (qac z) = true then some (.bslice sz z n qs) else none
   | _,_,_=>none
  | none=>none
 | .load t x=>match qb9 P t,qaT P t,qch x with
  | some n,some a,some y=>if a = true \/ n = 1 then some (.load a n (csT P t) y) else none
  | _,_,_=>none
 | .store t x v=>match qb9 P t,qch x,qch v with
  | some n,some a,some b=>some (.store n a b)
  | _,_,_=>none
 | .nilCheck x=>qPf P mn x
 | .binOp op t x y _=>qUI P op t x y
 | .unOp op _ x=>(qch x).map (.un op)
 | .convert s d x=>match P.underlying s,P.underlying d,qch x with
  | some (.int _),some (.int k),some y=>some (.conv k y)
  | some .string,some .string,some y=>some (.convs y)
  | _,_,_=>none
 | .makeInterface t x=>match P.underlying t,qch x with
  | some (.interface _),_=>none
  | some _,some y=>some (.mki t y)
  | _,_=>none
 | .makeFunc fn first cap=>qUJ fn first.toList cap.toList
 | .makeMap t r=>qQS P t r
 | .makeSlice t l c=>match qpC P t,qch l,qch c with
  | some e,some a,some b=>match qb9 P e,bytesOf P e,zeroOf P e with
   | some sz,some by_,some z=>if 0 < sz /\ (qac z).length = sz /\ qaB (qac z) = true then some (.mks sz by_ z a b) else none
   | _,_,_=>none
  | _,_,_=>none
 | .slice t x lo hi mx=>qUL P t x lo hi mx
 | .fieldAddr s x f=>match P.underlying s,qch x with
  | some (.struct fs),some y=>match fs[f]? with
   | some fd=>match qb9 P fd.type with
    | some n=>if n = 0 then none else some (.faddr fd.offset y)
    | none=>none
   | none=>none
  | _,_=>none
 | .field s x f=>match P.underlying s,qch x with
  | some (.struct fs),some y=>match fs[f]? with
   | some fd=>match qb9 P fd.type,qaT P fd.type with
    | some n,some a=>if a = true \/ n = 1 then some (.fld a fd.offset n y) else none
    | _,_=>none
   | none=>none
  | _,_=>none
 | .indexAddr t x i=>match P.underlying t,qMQ x,qch i with
  | some (.slice e),some y,some j=>(qb9 P e).map fun n=>.iaddr n (csT P e) y j
  | some (.array k e),some y,some j=>(qb9 P e).map fun n=>.aaddr k n y j
  | _,_,_=>none
 | .index t x i=>match P.underlying t,qch x,qch i with
  | some .string,some y,some j=>some (.idxs y j)
  | some (.array k e),some y,some j=>match qb9 P e,qaT P e with
   | some n,some a=>if a = true \/ n = 1 then some (.idxa a k n y j) else none
   | _,_=>none
  | _,_,_=>none
 | .lookup t m k ok=>match P.underlying t,qch m,qch k with
  | some (.map kt e),some a,some b=>match zeroOf P e with
   | some z=>(qr8 P kt).map fun ks=>.look ks z ok a b
   | none=>none
  | _,_,_=>none
 | .mapUpdate t m k v=>match P.underlying t,qch m,qch k,qch v with
  | some (.map kt _),some a,some b,some c=>(qr8 P kt).map fun ks=>.mupd ks a b c
  | _,_,_,_=>none
 | .insert t m k v=>match P.underlying t,qch m,qch k,qch v with
  | some (.map kt _),some a,some b,some c=>(qr8 P kt).map fun ks=>.mupd ks a b c
  | _,_,_,_=>none
 | .typeAssert x _ t ok=>match P.underlying t,zeroOf P t,qch x with
  | some (.interface _),_,_=>none
  | some _,some z,some y=>some (.tass t z ok y)
  | _,_,_=>none
 | .extract x i=>(qch x).map fun y=>.ext y i
 | .call c=>qsk P c
 | _=>none
end
theorem qnU {w:World} {I:Imm} {m:Names} {k:CS} {x:AV} {v:Value} (h:Rel w I x m v):Rel w I (qT1 k x) m v:=by
 unfold qT1
 split
 ·simpa only [Rel] using h
 ·exact h
theorem qvO {w:World} {I:Imm} {m:Names}:∀ {ks:List CS} {xs:List AV} {vs:List Value},qaw w I xs m vs -> qaw w I (qPu ks xs) m vs
 | [],xs,vs,h=>by cases xs <;> simpa [qPu] using h
 | k :: ks,[],vs,h=>by simpa [qPu] using h
 | k :: ks,x :: xs,vs,h=>by
  simp only [qaw,qPu] at h ⊢
  obtain ⟨v,vs',he,h1,h2⟩:=h
  exact ⟨v,vs',he,qnU h1,qvO h2⟩
theorem qD5 {w:World} {I:Imm} {m:Names} {ks:List CS} {x:AV} {v:Value} (h:Rel w I x m v):Rel w I (qZO ks x) m v:=by
 unfold qZO
 split
 ·simp only [Rel] at h ⊢
  obtain ⟨vs,hv,h⟩:=h
  exact ⟨vs,hv,qvO h⟩
 ·split
  ·exact qnU h
  ·exact h
mutual
theorem qfs {w:World} {I:Imm}:∀ (x:AV) {m:Names} {v:Value},Rel w I x m v -> Rel w I (nz x) m v
 | .int ..,_,_,h=>h
 | .bool ..,_,_,h=>h
 | .str ..,_,_,h=>h
 | .nilp,_,_,h=>h
 | .nils _,_,_,h=>by
  simp only [Rel] at h
  simp only [nz,Rel]
  obtain ⟨b,cap,rfl,hz⟩:=qd6 h
  exact ⟨b,cap,rfl,by simp,.inl rfl,hz⟩
 | .nilm,_,_,h=>h
 | .nilf,_,_,h=>h
 | .nili,_,_,h=>h
 | .agg cs,_,_,h=>by
  simp only [nz,Rel] at h ⊢
  obtain ⟨vs,hv,h⟩:=h
  exact ⟨vs,hv,qnT cs h⟩
 | .tup cs,_,_,h=>by
  simp only [nz,Rel] at h ⊢
  obtain ⟨vs,hv,h⟩:=h
  exact ⟨vs,hv,qnT cs h⟩
 | .view ..,_,_,h=>h
 | .ptr ..,_,_,h=>h
 | .own ..,_,_,h=>h
 | .ref ..,_,_,h=>h
 | .mref ..,_,_,h=>h
 | .fn f cs,_,_,h=>by
  simp only [nz,Rel] at h ⊢
  obtain ⟨vs,hv,h⟩:=h
  exact ⟨vs,hv,qnT cs h⟩
 | .iface t x,_,_,h=>by
  simp only [nz,Rel] at h ⊢
  obtain ⟨y,hv,h⟩:=h
  exact ⟨y,hv,qfs x h⟩
 | .junk,_,_,h=>h
theorem qnT {w:World} {I:Imm}:∀ (xs:List AV) {m:Names} {vs:List Value},qaw w I xs m vs -> qaw w I (nz.nzL xs) m vs
 | [],_,_,h=>h
 | x :: xs,_,_,h=>by
  simp only [nz.nzL,qaw] at h ⊢
  obtain ⟨v,vs',he,h1,h2⟩:=h
  exact ⟨v,vs',he,qfs x h1,qnT xs h2⟩
end
theorem qky:∀ xs:List AV,(nz.nzL xs).length = xs.length
 | []=>rfl
 | x :: xs=>by simp [nz.nzL,qky xs]
theorem qCB (x:AV):qaR (nz x) = qaR x:=by cases x <;> rfl
theorem qKn:∀ xs:List AV,qaB (nz.nzL xs) = qaB xs
 | []=>rfl
 | x :: xs=>by simp [nz.nzL,qaB,qCB,qKn xs]
theorem qCC (z:AV):(qac (nz z)).length = (qac z).length:=by
 cases z <;> simp [nz,qac,qky]
theorem qN6 (z:AV):qaB (qac (nz z)) = qaB (qac z):=by
 cases z <;> simp [nz,qac,qKn,qaB,qaR]
mutual
theorem qrf:∀ x:AV,idsA (nz x) = idsA x
 | .int .. | .bool .. | .str .. | .nilp | .nils _ | .nilm | .nilf | .nili | .view .. | .ptr .. | .own .. | .ref .. | .mref .. | .junk=>rfl
 | .agg cs=>by simp only [nz,idsA]; exact qnF cs
 | .tup cs=>by simp only [nz,idsA]; exact qnF cs
 | .fn f cs=>by simp only [nz,idsA]; exact qnF cs
 | .iface t x=>by simp only [nz,idsA]; exact qrf x
theorem qnF:∀ xs:List AV,idsA.idsL (nz.nzL xs) = idsA.idsL xs
 | []=>rfl
 | x :: xs=>by simp only [nz.nzL,idsA.idsL,qrf x,qnF xs]
end
def qe0 (w:World) (I:Imm) (m:Names) (e:Env) (a:Act):Prop:=∀ t,Rel w I (qbe e t) m (a.tmps.getD t undef)
theorem qan {w:World} {I:Imm} {m:Names} {e:Env} {a:Act} (ht:qe0 w I m e a) {x:Operand} {y:Opd} (h:qch x = some y):Rel w I (qau e y) m (a.eval x):=by
 cases x with
 | tmp t=>simp [qch] at h; subst h; exact ht t
 | const v=>
  simp only [qch,Option.map_eq_some_iff] at h
  obtain ⟨z,h,rfl⟩:=h
  exact qiX v h
 | func f=>simp [qch] at h; subst h; simp [qau,Rel,Act.eval,qaw,fnV]
 | global g=>simp [qch] at h
theorem qvP [Globs] {w:World} {I:Imm} {m:Names} {h:Heap} {e:Env} {a:Act} (ht:qe0 w I m e a) (H:HeapAt w I m h) {x:Operand} {y:Opd} (hc:qMQ x = some y):Rel w I (qau e y) m (a.eval x):=by
 cases x with
 | global g=>
  simp only [qMQ,Option.map_eq_some_iff] at hc
  obtain ⟨cs,hg,rfl⟩:=hc
  simp only [qau,Rel]
  exact ⟨g,0,rfl,(H.glob g cs hg).1⟩
 | tmp t=>exact qan ht hc
 | const v=>exact qan ht hc
 | func f=>exact qan ht hc
theorem qdc {w:World} {I:Imm} {m:Names} {e:Env} {a:Act} (ht:qe0 w I m e a):∀ {xs:List Operand} {ys:List Opd},qlt xs = some ys -> qaw w I (ys.map (qau e)) m (xs.map a.eval)
 | [],ys,h=>by simp [qlt] at h; subst h; simp [qaw]
 | x :: xs,ys,h=>by
  simp only [qlt] at h
  split at h
  ·rename_i y ys' h1 h2
   simp at h; subst h
   simp only [List.map_cons,qaw]
   exact ⟨_,_,rfl,qan ht h1,qdc ht h2⟩
  ·simp at h
theorem qmN {w:World} {I:Imm} {m:Names} {e:Env}:∀ {ks:List (Option CS)} {ys:List Opd} {vs:List Value},qaw w I (ys.map (qau e)) m vs -> qaw w I ((qGI ks ys).map (qau e)) m vs
 | [],[],vs,h=>h
 | [],_ :: _,vs,h=>h
 | _ :: _,[],vs,h=>h
 | k :: ks,y :: ys,vs,h=>by
  simp only [qGI,List.map_cons,qaw] at h ⊢
  obtain ⟨v,vs',hv,h1,h2⟩:=h
  refine ⟨v,vs',hv,?_,qmN h2⟩
  cases k with
  | none=>exact h1
  | some k=>
   cases y with
   | c z=>exact qnU h1
   | t n=>exact h1
   | f n=>exact h1
end Go.Eng
namespace Go.Eng
set_option linter.unusedSectionVars false
variable [Globs]
theorem qjJ {α β:Type} {Q:Nat -> α -> β -> Prop}:∀ (cs:List α),(∀ i c,cs[i]? = some c -> ∃ u,Q i c u) -> ∃ us:List β,us.length = cs.length /\ ∀ i c u,cs[i]? = some c -> us[i]? = some u -> Q i c u:=by
 intro cs
 induction cs generalizing Q with
 | nil=>intro _; exact ⟨[],rfl,by simp⟩
 | cons c cs ih=>
  intro h
  obtain ⟨u,hu⟩:=h 0 c rfl
  obtain ⟨us,hl,hq⟩:=ih (Q:=fun i c u=>Q (i + 1) c u) fun i c hc=>h (i + 1) c (by simpa using hc)
  refine ⟨u :: us,by simp [hl],fun i c' u' hc' hu'=>?_⟩
  cases i with
  | zero=>simp at hc' hu'; subst hc'; subst hu'; exact hu
  | succ i=>exact hq i c' u' (by simpa using hc') (by simpa using hu')
theorem qdV (b o n:Nat):(ad b o).add n = ad b (o + n):=Addr.add_lit b o n
def Cells (w:World) (I:Imm) (m:Names) (cs:List AV) (b o:Nat):Prop:=
 ∀ (i:Nat) (c:AV),cs[i]? = some c -> ∃ u,w.cell? (ad b (o + i)) = some u /\ Rel w I c m u
theorem qW6 (m:Names):∀ i L,m0 i = some L -> m i = some L:=by intro i L h; simp [m0] at h
theorem qrp {w:World} {I:Imm} {m:Names} {x:AV} {v:Value} (h:Rel w I x m0 v):Rel w I x m v:=
 qaA (Stays.refl w I) (fun _ _ h=>h) x (qW6 m) h
theorem Cells.drop {w:World} {I:Imm} {m:Names} {cs:List AV} {b o:Nat} (h:Cells w I m cs b o) (n:Nat):Cells w I m (cs.drop n) b (o + n):=by
 intro i c hc
 rw [List.getElem?_drop] at hc
 have:=h _ c hc
 rwa [show o + (n + i) = o + n + i by omega] at this
theorem Cells.take {w:World} {I:Imm} {m:Names} {cs:List AV} {b o:Nat} (h:Cells w I m cs b o) (n:Nat):Cells w I m (cs.take n) b o:=by
 intro i c hc
 rw [List.getElem?_take] at hc
 split at hc
 ·exact h i c hc
 ·cases hc
theorem At.cells {w:World} {I:Imm} {m:Names} {cs:List AV} {b o:Nat} (h:At w I cs b o):Cells w I m cs b o:=fun i c hc=>by
 obtain ⟨_,_,u,hu,hr⟩:=h i c hc
 exact ⟨u,hu,qrp hr⟩
theorem qcb {w:World} {b o:Nat} {C:Array Value} {e:TypeId} {fr:Nat × Nat} (h:w.heap[b]? = some (.cells C e fr)):w.cell? (ad b o) = C[o]?:=by
 simp [World.cell?,ad,h]
theorem qws {w:World} {I:Imm} {m:Names} {es:List AV} {sz b o:Nat} (hs:∀ e ∈ es,(qac e).length = sz) (h:Cells w I m (flat es) b o) {i:Nat} {e:AV} (he:es[i]? = some e) :
  Cells w I m (qac e) b (o + i * sz):=by
 induction es generalizing o i with
 | nil=>simp at he
 | cons x es ih=>
  have hf:flat (x :: es) = qac x ++ flat es:=rfl
  have hx:(qac x).length = sz:=hs x (by simp)
  cases i with
  | zero=>
   simp at he; subst he
   intro j c hc
   have:=h j c (by rw [hf,List.getElem?_append_left (List.getElem?_eq_some_iff.1 hc).1]; exact hc)
   simpa using this
  | succ i=>
   have h':=h.drop sz
   rw [hf,<- hx,List.drop_left] at h'
   have:=ih (fun e he=>hs e (by simp [he])) h' (by simpa using he)
   rw [hx] at this
   rwa [show o + (i + 1) * sz = o + sz + i * sz by rw [Nat.add_mul]; omega]
theorem qzN {w:World} {I:Imm} {es:List AV} {sz b o:Nat} (hs:∀ e ∈ es,(qac e).length = sz) (h:At w I (flat es) b o) {i:Nat} {e:AV} (he:es[i]? = some e) :
  At w I (qac e) b (o + i * sz):=by
 induction es generalizing o i with
 | nil=>simp at he
 | cons x es ih=>
  have hf:flat (x :: es) = qac x ++ flat es:=rfl
  have hx:(qac x).length = sz:=hs x (by simp)
  rw [hf,qjB] at h
  cases i with
  | zero=>simp at he; subst he; simpa using h.1
  | succ i=>
   have:=ih (fun e he=>hs e (by simp [he])) h.2 (by simpa using he)
   rw [hx] at this
   rwa [show o + (i + 1) * sz = o + sz + i * sz by rw [Nat.add_mul]; omega]
theorem qjC {w:World} {I:Imm} {cs:List AV} {b o:Nat} (h:At w I cs b o) (n:Nat):At w I (cs.drop n) b (o + n):=by
 intro i c hc
 rw [List.getElem?_drop] at hc
 have:=h _ c hc
 rwa [show o + (n + i) = o + n + i by omega] at this
theorem qMM {w:World} {I:Imm} {cs:List AV} {b o:Nat} (h:At w I cs b o) (n:Nat):At w I (cs.take n) b o:=by
 intro i c hc
 rw [List.getElem?_take] at hc
 split at hc
 ·exact h i c hc
 ·cases hc
theorem qd1 {sz:Nat} {es:List AV} (hs:∀ e ∈ es,(qac e).length = sz) (n:Nat):flat (es.drop n) = (flat es).drop (n * sz):=by
 induction es generalizing n with
 | nil=>simp [flat]
 | cons x es ih=>
  cases n with
  | zero=>simp
  | succ n=>
   have hf:flat (x :: es) = qac x ++ flat es:=rfl
   have hx:(qac x).length = sz:=hs x (by simp)
   rw [List.drop_succ_cons,ih (fun e he=>hs e (by simp [he])),hf,show (n + 1) * sz = (qac x).length + n * sz by rw [Nat.add_mul,hx]; omega,List.drop_append]
   simp
theorem qd2 {sz:Nat} {es:List AV} (hs:∀ e ∈ es,(qac e).length = sz) (n:Nat):flat (es.take n) = (flat es).take (n * sz):=by
 induction es generalizing n with
 | nil=>simp [flat]
 | cons x es ih=>
  cases n with
  | zero=>simp [flat]
  | succ n=>
   have hf:flat (x :: es) = qac x ++ flat es:=rfl
   have hx:(qac x).length = sz:=hs x (by simp)
   have hf2:flat (x :: es.take n) = qac x ++ flat (es.take n):=rfl
   rw [List.take_succ_cons,hf2,ih (fun e he=>hs e (by simp [he])),hf,show (n + 1) * sz = (qac x).length + n * sz by rw [Nat.add_mul,hx]; omega,List.take_append]
   simp
   exact (List.take_of_length_le (Nat.le_add_right _ _)).symm
theorem qg2 {w:World} {I:Imm} {m:Names} {h:Heap} (H:HeapAt w I m h) {x:AV} {v:Value} (hr:Rel w I x m v) {cs:List AV} (hc:qjI h x = some cs) :
  ∃ b o,v = .pointer (some (ad b o)) /\ Cells w I m cs b o:=by
 cases x <;> simp only [qjI] at hc <;> try (simp at hc; done)
 case ptr cs'=>
  simp at hc; subst hc
  simp only [Rel] at hr
  obtain ⟨b,o,rfl,hr⟩:=hr
  exact ⟨b,o,rfl,(qbr.1 hr).cells⟩
 case ref id idx off=>
  simp only [Rel] at hr
  obtain ⟨L,hL,rfl⟩:=hr
  cases hb:qad h id with
  | none=>simp [hb] at hc
  | some blk=>
   obtain ⟨L',hL',hat⟩:=H.at_ id blk hb
   rw [hL] at hL'; cases hL'
   cases blk with
   | mp kvs=>simp [hb] at hc
   | box cs' fz=>
    simp [hb] at hc
    obtain ⟨⟨rfl,hoff⟩,rfl⟩:=hc
    obtain ⟨hn,hsz,C,e,hC,hsize,hcell,_⟩:=hat
    refine ⟨_,_,rfl,?_⟩
    have:Cells w I m cs' L.blk L.base:=fun i c hc=>by
     obtain ⟨u,hu,hr⟩:=hcell i c hc
     exact ⟨u,by rw [qcb hC]; exact hu,hr⟩
    have:=this.drop off
    simpa using this
   | arr sz es fz=>
    obtain ⟨hn,hsz,hs,C,e,hC,hsize,hcell,_⟩:=hat
    simp only [hb] at hc
    cases he:es[idx]? with
    | none=>simp [he] at hc
    | some e0=>
     simp [he] at hc
     obtain ⟨hoff,rfl⟩:=hc
     refine ⟨_,_,rfl,?_⟩
     have h0:Cells w I m (flat es) L.blk L.base:=fun i c hc=>by
      obtain ⟨u,hu,_,hr⟩:=hcell i c hc
      exact ⟨u,by rw [qcb hC]; exact hu,qrp hr⟩
     rw [hsz]
     exact (qws hs h0 he).drop off
theorem Cells.list {w:World} {I:Imm} {m:Names} {cs:List AV} {b o:Nat} (h:Cells w I m cs b o) :
  ∃ us:List Value,us.length = cs.length /\ (∀ j u,us[j]? = some u -> w.cell? ((ad b o).add j) = some u) /\ qaw w I cs m us:=by
 obtain ⟨us,hl,hq⟩:=qjJ (Q:=fun i c u=>w.cell? (ad b (o + i)) = some u /\ Rel w I c m u) cs h
 refine ⟨us,hl,fun j u hu=>?_,qnS hl fun i c v hc hv=>(hq i c v hc hv).2⟩
 have hj:j < cs.length:=by have:=(List.getElem?_eq_some_iff.1 hu).1; omega
 rw [qdV]
 exact (hq j cs[j] u (by simp [hj]) hu).1
theorem qhd {P:Program} {w:World} {I:Imm} {m:Names} {t:TypeId} {n:Nat} {agg:Bool} (hn:qb9 P t = some n) (ha:qaT P t = some agg) (h1:agg = true \/ n = 1)
  {cs:List AV} {b o:Nat} (hc:Cells w I m cs b o) {v:AV} (hp:part agg n cs = some v):∃ u,(loadVar t (ad b o)).run P w = .ok u w /\ Rel w I v m u:=by
 simp only [qb9,Option.map_eq_some_iff] at hn
 obtain ⟨ti,hti,rfl⟩:=hn
 simp only [qaT,Option.map_eq_some_iff] at ha
 obtain ⟨d,hd,hda⟩:=ha
 have hagg:(Go.isAgg t).run P w = .ok agg w:=by
  unfold Go.isAgg
  rw [Sem.run_bind,run_underlying hd w]
  subst hda
  cases d <;> simp
 cases agg with
 | true=>
  simp only [part,if_true] at hp
  split at hp
  ·rename_i hle
   simp at hp; subst hp
   obtain ⟨us,hl,hcell,hrel⟩:=(hc.take ti.size).list
   have hlen:us.length = ti.size:=by rw [hl]; simp [hle]
   have hload:=run_loadCells_list (P:=P) w (ad b o) us hcell
   rw [hlen] at hload
   refine ⟨.agg us.toArray,by simp [loadVar,hagg,Go.sizeOf,typeInfo,hti,hload],?_⟩
   simp only [Rel]
   exact ⟨us,rfl,hrel⟩
  ·cases hp
 | false=>
  have hn1:ti.size = 1:=by simpa using h1
  simp only [part] at hp
  simp at hp
  have h0:cs[0]? = some v:=by cases cs <;> simp_all
  obtain ⟨u,hu,hr⟩:=hc 0 v h0
  refine ⟨u,?_,hr⟩
  simp only [Nat.add_zero] at hu
  simp [loadVar,hagg,run_load,hu]
theorem qmI {P:Program} {w:World} {I:Imm} {m:Names} {t:TypeId} {n:Nat} {agg:Bool} (hn:qb9 P t = some n) (ha:qaT P t = some agg) (h1:agg = true \/ n = 1)
  {cs:List AV} {vs:List Value} {off:Nat} (hc:qaw w I cs m vs) {v:AV} (hp:Eng.part agg n (cs.drop off) = some v):∃ u,(Go.part t vs.toArray off).run P w = .ok u w /\ Rel w I v m u:=by
 simp only [qb9,Option.map_eq_some_iff] at hn
 obtain ⟨ti,hti,rfl⟩:=hn
 simp only [qaT,Option.map_eq_some_iff] at ha
 obtain ⟨d,hd,hda⟩:=ha
 have hagg:(Go.isAgg t).run P w = .ok agg w:=by
  unfold Go.isAgg
  rw [Sem.run_bind,run_underlying hd w]
  subst hda
  cases d <;> simp
 have hl:=qaH hc
 cases agg with
 | true=>
  simp only [Eng.part,if_true] at hp
  split at hp
  ·rename_i hle
   simp at hp hle; subst hp
   refine ⟨.agg ((vs.drop off).take ti.size).toArray,?_,?_⟩
   ·simp [Go.part,hagg,Go.sizeOf,typeInfo,hti,List.extract_eq_take_drop]
   ·simp only [Rel]
    exact ⟨_,rfl,qdd _ (qdb _ hc)⟩
  ·cases hp
 | false=>
  simp only [Eng.part] at hp
  simp at hp
  have h0:cs[off]? = some v:=hp
  obtain ⟨u,hu,hr⟩:=qbf hc off v h0
  refine ⟨u,?_,hr⟩
  simp [Go.part,hagg,hu]
end Go.Eng
namespace Go.Eng
theorem qhJ:∀ {ks1 ks2:List EK} {xs ys:List AV} {b:Bool},qbS (ks1 ++ ks2) xs ys = some b ->
  ∃ b1 b2,qbS ks1 (xs.take ks1.length) (ys.take ks1.length) = some b1 /\ qbS ks2 (xs.drop ks1.length) (ys.drop ks1.length) = some b2 /\ b = (b1 && b2)
 | [],ks2,xs,ys,b,h=>⟨true,b,by simp [qbS],by simpa using h,by simp⟩
 | k :: ks1,ks2,[],_,b,h=>by cases ks2 <;> simp [qbS] at h
 | k :: ks1,ks2,_ :: _,[],b,h=>by simp [qbS] at h
 | k :: ks1,ks2,x :: xs,y :: ys,b,h=>by
  simp only [List.cons_append,qbS] at h
  split at h
  ·rename_i c d h1 h2
   simp at h; subst h
   obtain ⟨b1,b2,e1,e2,rfl⟩:=qhJ h2
   exact ⟨c && b1,b2,by simp [qbS,h1,e1],by simpa using e2,by simp [Bool.and_assoc]⟩
  ·cases h
theorem qiU:∀ {ks:List EK} {xs ys:List AV} {b:Bool},qbS ks xs ys = some b -> xs.length = ks.length /\ ys.length = ks.length
 | [],[],[],_,_=>by simp
 | [],_ :: _,_,_,h=>by simp [qbS] at h
 | [],[],_ :: _,_,h=>by simp [qbS] at h
 | k :: ks,[],_,_,h=>by simp [qbS] at h
 | k :: ks,_ :: _,[],_,h=>by simp [qbS] at h
 | k :: ks,x :: xs,y :: ys,b,h=>by
  simp only [qbS] at h
  split at h
  ·rename_i c d h1 h2
   have:=qiU h2
   simp [this]
  ·cases h
section
variable {P:Program} {w:World} {I:Imm} {m:Names}
theorem qvK {t:TypeId} {n:Nat} (hn:qb9 P t = some n) (ha:qaT P t = some true) (us:List Value) (off:Nat) :
  (Go.part t us.toArray off).run P w = .ok (.agg ((us.drop off).take n).toArray) w:=by
 simp only [qb9,Option.map_eq_some_iff] at hn
 obtain ⟨ti,hti,rfl⟩:=hn
 simp only [qaT,Option.map_eq_some_iff] at ha
 obtain ⟨d,hd,hda⟩:=ha
 have hagg:(Go.isAgg t).run P w = .ok true w:=by
  unfold Go.isAgg
  rw [Sem.run_bind,run_underlying hd w]
  cases d <;> simp_all
 simp [Go.part,hagg,Go.sizeOf,typeInfo,hti,List.extract_eq_take_drop]
theorem qvL {t:TypeId} (ha:qaT P t = some false) (us:List Value) (off:Nat) (u:Value) (hu:us[off]? = some u) :
  (Go.part t us.toArray off).run P w = .ok u w:=by
 simp only [qaT,Option.map_eq_some_iff] at ha
 obtain ⟨d,hd,hda⟩:=ha
 have hagg:(Go.isAgg t).run P w = .ok false w:=by
  unfold Go.isAgg
  rw [Sem.run_bind,run_underlying hd w]
  cases d <;> simp_all
 simp [Go.part,hagg,hu]
def Is (P:Program) (t:TypeId) (us:List Value) (u:Value):Prop:=
 match qaT P t with
 | some true=>u = .agg us.toArray
 | some false=>us = [u]
 | none=>False
theorem qf3:∀ (n:Nat) {t:TypeId} {ks:List EK},leaves P n t = some ks -> ∀ {xs ys:List AV} {us vs:List Value},qaw w I xs m us -> qaw w I ys m vs ->
  ∀ {b:Bool},qbS ks xs ys = some b -> ∀ {u v:Value},Is P t us u -> Is P t vs v -> ∀ d,n <= d -> (Op.equalIn d t u v).run P w = .ok b w
 | 0,t,ks,h=>by simp [leaves] at h
 | n + 1,t,ks,h=>by
  intro hx hy b hb u v hu hv d hd
  rename_i xs ys us vs
  obtain ⟨d,rfl⟩:∃ d',d = d' + 1:=⟨d - 1,by omega⟩
  simp only [leaves] at h
  have scalar:∀ (k:EK) (D:TypeDesc),P.underlying t = some D -> qaT P t = some false -> ks = [k] ->
    (∀ x y c u v,eqK k x y = some c -> Rel w I x m u -> Rel w I y m v -> (Op.equalIn (d + 1) t u v).run P w = .ok c w) -> (Op.equalIn (d + 1) t u v).run P w = .ok b w:=by
   intro k D hD ha hk hh
   subst hk
   simp only [Is,ha] at hu hv
   subst hu; subst hv
   match xs,ys,hb with
   | [x],[y],hb=>
    simp only [qbS] at hb
    split at hb
    ·rename_i c d' h1 h2
     simp at h2 hb; subst h2; subst hb
     simp only [qaw] at hx hy
     obtain ⟨u',_,he,hx,_⟩:=hx
     obtain ⟨v',_,he',hy,_⟩:=hy
     simp at he he'; obtain ⟨rfl,_⟩:=he; obtain ⟨rfl,_⟩:=he'
     simpa using hh _ _ _ _ _ h1 hx hy
    ·cases hb
   | [],_,hb=>simp [qbS] at hb
   | [_],[],hb=>simp [qbS] at hb
   | [_],_ :: _ :: _,hb=>simp [qbS] at hb
   | _ :: _ :: _,[],hb=>simp [qbS] at hb
   | _ :: _ :: _,_ :: _,hb=>simp [qbS] at hb
  cases hU:P.underlying t with
  | none=>simp [hU] at h
  | some D=>
   rw [hU] at h
   cases D <;> simp only [Option.some.injEq,reduceCtorEq] at h
   case bool=>
    refine scalar .b _ hU (by simp [qaT,hU]) h.symm fun x y c u v hc hx hy=>?_
    cases x <;> cases y <;> simp only [eqK,reduceCtorEq,Option.some.injEq] at hc
    simp only [Rel] at hx hy
    subst hx; subst hy; subst hc
    exact run_equalIn_bool' w d t _ _ hU
   case int kk=>
    refine scalar .i _ hU (by simp [qaT,hU]) h.symm fun x y c u v hc hx hy=>?_
    cases x <;> cases y <;> simp only [eqK,reduceCtorEq] at hc
    simp only [Rel] at hx hy
    subst hx; subst hy
    split at hc
    ·simp at hc; subst hc; rename_i hk; subst hk
     exact run_equalIn_int w d t _ _ _ _ hU
    ·cases hc
   case string=>
    refine scalar .s _ hU (by simp [qaT,hU]) h.symm fun x y c u v hc hx hy=>?_
    cases x <;> cases y <;> simp only [eqK,reduceCtorEq,Option.some.injEq] at hc
    simp only [Rel] at hx hy
    subst hx; subst hy; subst hc
    rw [run_equalIn_string w d t _ _ hU]
    simp
   case struct fs=>
    have hagg:qaT P t = some true:=by simp [qaT,hU]
    simp only [Is,hagg] at hu hv
    subst hu; subst hv
    split at h
    ·cases h
    ·rename_i hp
     have hfo:P.fieldsOf t = fs:=by simp [Program.fieldsOf,hU]
     rw [run_equalIn_struct w d t _ _ (by rw [hfo]; exact hU) (by simpa using hp),hfo]
     have key:∀ (fl:List Field) (off:Nat) (ks:List EK),qeF P (leaves P n) fl off = some ks -> ∀ {b:Bool},qbS ks (xs.drop off) (ys.drop off) = some b ->
       (Op.eqFields d us.toArray vs.toArray fl).run P w = .ok b w:=by
      intro fl
      induction fl with
      | nil=>
       intro off ks hk b hb
       simp [qeF] at hk; subst hk
       have hl:=qiU hb
       have:b = true:=by
        cases hxs:xs.drop off <;> cases hys:ys.drop off <;> simp [hxs,hys,qbS] at hb
        exact hb
       subst this
       simp [Op.eqFields]
      | cons f fl ih=>
       intro off ks hk b hb
       simp only [qeF] at hk
       split at hk
       ·cases hk
       ·rename_i hne
        simp at hne
        obtain ⟨hname,hoff⟩:=hne
        split at hk
        ·rename_i ks1 hks1
         split at hk
         ·rename_i hsz
          simp only [Option.map_eq_some_iff] at hk
          obtain ⟨ks2,hks2,rfl⟩:=hk
          obtain ⟨b1,b2,e1,e2,rfl⟩:=qhJ hb
          have hag:∃ a,qaT P f.type = some a:=by
           cases n with
           | zero=>simp [leaves] at hks1
           | succ n=>
            simp only [leaves] at hks1
            cases hq:P.underlying f.type with
            | none=>simp [hq] at hks1
            | some D=>exact ⟨_,by simp [qaT,hq]; rfl⟩
          obtain ⟨a,ha⟩:=hag
          have hx1:=qdd ks1.length (qdb off hx)
          have hy1:=qdd ks1.length (qdb off hy)
          have hpart:∀ (zs:List AV) (qs:List Value),qaw w I zs m qs -> ((zs.drop off).take ks1.length).length = ks1.length ->
            ∃ q,(Go.part f.type qs.toArray off).run P w = .ok q w /\ Is P f.type ((qs.drop off).take ks1.length) q:=by
           intro zs qs hz hlen
           cases a with
           | true=>exact ⟨_,qvK hsz ha qs off,by simp [Is,ha]⟩
           | false=>
            have h1:ks1.length = 1:=by
             cases n with
             | zero=>simp [leaves] at hks1
             | succ n=>
              simp only [leaves] at hks1
              cases hq:P.underlying f.type with
              | none=>simp [hq] at hks1
              | some D=>
               rw [hq] at hks1
               simp only [qaT,hq,Option.map_some,Option.some.injEq] at ha
               cases D <;> simp_all <;> subst hks1 <;> rfl
            have hql:=qaH hz
            have:off < qs.length:=by
             rw [h1] at hlen; simp at hlen; omega
            refine ⟨qs[off],qvL ha qs off _ (by simp [this]),?_⟩
            have ht:(qs.drop off).take 1 = [qs[off]]:=by rw [List.drop_eq_getElem_cons this]; rfl
            simp only [Is,ha,h1,ht]
          have hl1:=qiU e1
          obtain ⟨q1,hq1,hi1⟩:=hpart xs us hx hl1.1
          obtain ⟨q2,hq2,hi2⟩:=hpart ys vs hy hl1.2
          have heq:=qf3 n hks1 hx1 hy1 e1 hi1 hi2 d (by omega)
          rw [List.drop_drop] at e2
          rw [List.drop_drop] at e2
          have hrest:=ih _ _ hks2 e2
          simp only [Op.eqFields]
          rw [if_pos (by simpa using hname),Sem.run_bind,hoff,hq1,Result.andThen_ok,Sem.run_bind,hq2,Result.andThen_ok,Sem.run_bind,heq,Result.andThen_ok]
          cases b1 with
          | true=>simpa using hrest
          | false=>simp
         ·cases hk
        ·cases hk
     exact key fs.toList 0 ks h (by simpa using hb)
end
end Go.Eng
namespace Go.Eng
section
variable {P:Program} {w:World} {I:Imm} {m:Names}
theorem qkj {t:TypeId} {ks:Key} (hk:qr8 P t = some ks) {x:AV} {u:Value} {xs:List AV} (hx:(ks.1 = true /\ x = .agg xs) \/ (ks.1 = false /\ xs = [x])) (hr:Rel w I x m u) :
  ∃ us,qaw w I xs m us /\ Is P t us u /\ leaves P 20 t = some ks.2:=by
 simp only [qr8] at hk
 split at hk
 ·rename_i l hl
  simp only [Option.map_eq_some_iff] at hk
  obtain ⟨a,ha,rfl⟩:=hk
  rcases hx with ⟨h1,rfl⟩ | ⟨h1,rfl⟩
  ·simp at h1; subst h1
   simp only [Rel] at hr
   obtain ⟨us,rfl,hr⟩:=hr
   exact ⟨us,hr,by simp [Is,ha],hl⟩
  ·simp at h1; subst h1
   exact ⟨[u],by simp [qaw,hr],by simp [Is,ha],hl⟩
 ·cases hk
theorem qc8 {ks:Key} {x y:AV} {b:Bool} (h:qa7 ks x y = some b) :
  ∃ xs ys,((ks.1 = true /\ x = .agg xs) \/ (ks.1 = false /\ xs = [x])) /\ ((ks.1 = true /\ y = .agg ys) \/ (ks.1 = false /\ ys = [y])) /\ qbS ks.2 xs ys = some b:=by
 obtain ⟨a,l⟩:=ks
 cases a with
 | true=>
  cases x <;> cases y <;> simp only [qa7,reduceCtorEq] at h
  exact ⟨_,_,.inl ⟨rfl,rfl⟩,.inl ⟨rfl,rfl⟩,h⟩
 | false=>
  match l,h with
  | [k],h=>
   have h:eqK k x y = some b:=by cases x <;> cases y <;> exact h
   exact ⟨_,_,.inr ⟨rfl,rfl⟩,.inr ⟨rfl,rfl⟩,by simp [qbS,h]⟩
  | [],h=>cases x <;> cases y <;> simp [qa7] at h
  | _ :: _ :: _,h=>cases x <;> cases y <;> simp [qa7] at h
theorem qkl {t:TypeId} {ks:Key} (hk:qr8 P t = some ks) {x y:AV} {u v:Value} (hx:Rel w I x m u) (hy:Rel w I y m v) {b:Bool} (h:qa7 ks x y = some b) (d:Nat) (hd:20 <= d) :
  (Op.equalIn d t u v).run P w = .ok b w:=by
 obtain ⟨xs,ys,h1,h2,h3⟩:=qc8 h
 obtain ⟨us,hu,hi,hl⟩:=qkj hk h1 hx
 obtain ⟨vs,hv,hj,_⟩:=qkj hk h2 hy
 exact qf3 20 hl hu hv h3 hi hj d hd
theorem size_mk (s:List UInt8):(ByteArray.mk s.toArray).size = s.length:=by simp [ByteArray.size]
theorem qzl {op:BinOp} {t:TypeId} {x y:AV} {u v:Value} (hx:Rel w I x m u) (hy:Rel w I y m v) {z:AV} (h:qUH op x y = some z) (o1 o2:Operand) :
    ∃ r,(do eqGuard op t o1 o2 u v; binOp op t u v).run P w = .ok r w /\ Rel w I z m r:=by
  cases x <;> cases y <;> simp only [qUH,reduceCtorEq] at h
  case int.int k a k' b=>
    simp only [Rel,qmj] at hx hy
    subst hx; subst hy
    rw [eqGuard_at_int]
    cases op <;> simp only [] at h
    case shl=>
      split at h
      · rename_i hb
        simp at h; subst h
        have hb':¬ b < 0:=by omega
        exact ⟨_,by simp [binOp,Op.shift,hb']; rfl,by simp [Rel]⟩
      · cases h
    case shr=>
      split at h
      · rename_i hb
        simp at h; subst h
        have hb':¬ b < 0:=by omega
        exact ⟨_,by simp [binOp,Op.shift,hb']; rfl,by simp [Rel]⟩
      · cases h
    all_goals
      split at h
      · rename_i hk
        subst hk
        simp only [qV5,bits] at h
        first
          | (simp at h; subst h; exact ⟨_,by simp [binOp,Op.intArith,Op.intCmp,Op.intBits]; rfl,by simp [Rel]⟩)
          | (split at h
             · cases h
             · rename_i hb
               simp at h; subst h
               exact ⟨_,by simp [binOp,Op.intDiv,hb]; rfl,by simp [Rel]⟩)
      · cases h
  case str.str a b=>
    simp only [Rel,qmj] at hx hy
    subst hx; subst hy
    rw [eqGuard_at_string]
    cases op <;> simp only [qV6,reduceCtorEq] at h
    case add=>
      split at h
      · rename_i hl
        simp at h; subst h
        have hl':¬ (9223372036854775807 < (a.length:Int) + (b.length:Int)):=by omega
        refine ⟨.string ⟨(a ++ b).toArray⟩,?_,by simp [Rel]⟩
        simp [binOp,Op.stringOp,size_mk,hl']
        apply ByteArray.ext
        simp
      · cases h
    all_goals
      simp at h; subst h
      exact ⟨_,by simp [binOp,Op.stringOp]; rfl,by simp [Rel,qcn,Bool.or_comm]⟩
theorem qQL {b:Nat} {x:Int}:((BitVec.ofInt b x).toNat:Int) = x % 2 ^ b:=by
 rw [BitVec.toNat_ofInt]
 have h:((2 ^ b:Nat):Int) = 2 ^ b:=by simp
 have:(0:Int) < 2 ^ b:=Int.pow_pos (by decide)
 rw [h,Int.toNat_of_nonneg (Int.emod_nonneg _ (by omega))]
theorem qHD {k:IntKind} {n:Int}:k.wrap ((BitVec.ofInt k.bits (if k.signed then -1 else k.max) ^^^ BitVec.ofInt k.bits n).toNat:Int) = k.wrap (-1 - n):=by
 have h:BitVec.ofInt k.bits (if k.signed then -1 else k.max) = BitVec.allOnes k.bits:=by cases k <;> decide
 have hb:0 < (2:Int) ^ k.bits:=Int.pow_pos (by decide)
 have e:((BitVec.ofInt k.bits (if k.signed then -1 else k.max) ^^^ BitVec.ofInt k.bits n).toNat:Int) % 2 ^ k.bits = (-1 - n) % 2 ^ k.bits:=by
  rw [h,BitVec.allOnes_xor,BitVec.toNat_not]
  have h1:=qQL (b:=k.bits) (x:=n)
  have h2:=(BitVec.ofInt k.bits n).isLt
  have h3:((2 ^ k.bits:Nat):Int) = 2 ^ k.bits:=by simp
  have h4:((2 ^ k.bits - 1 - (BitVec.ofInt k.bits n).toNat:Nat):Int) = 2 ^ k.bits - 1 - n % 2 ^ k.bits:=by omega
  rw [h4]
  have h5:=Int.mul_ediv_add_emod n (2 ^ k.bits)
  rw [show (2:Int) ^ k.bits - 1 - n % 2 ^ k.bits = -1 - n + 2 ^ k.bits * (1 + n / 2 ^ k.bits) by rw [Int.mul_add]; omega,Int.add_mul_emod_self_left]
 unfold IntKind.wrap
 simp only [e]
theorem qGO {op:UnOp} {x:AV} {u:Value} (hx:Rel w I x m u) {z:AV} (h:unA op x = some z) :
  ∃ r,(Op.unary op u).run P w = .ok r w /\ Rel w I z m r:=by
 cases x <;> simp only [unA,reduceCtorEq] at h
 case int k n=>
  simp only [Rel] at hx; subst hx
  cases op <;> simp only [reduceCtorEq,Option.some.injEq] at h
  ·subst h; exact ⟨_,by simp [Op.unary,Op.intArith]; rfl,by simp [Rel]⟩
  ·subst h
   exact ⟨.int k (k.wrap (-1 - n)),by rw [<- qHD]; simp [Op.unary,Op.intBits],by simp [Rel]⟩
 case bool b=>
  simp only [Rel] at hx; subst hx
  cases op <;> simp only [reduceCtorEq,Option.some.injEq] at h
  subst h
  exact ⟨_,by simp [Op.unary]; rfl,by simp [Rel]⟩
theorem qA8 {op:BinOp} {t:TypeId} {u v:Value} {o1 o2:Operand} (hu:∀ cs,u ≠ .agg cs) (hc:qb4 o1 = true \/ qb4 o2 = true) :
  (eqGuard op t o1 o2 u v).run P w = .ok () w:=by
 have h1:qb4 o1 = true -> ∃ z,o1 = .const z:=by
  intro h; cases o1 <;> simp [qb4] at h; exact ⟨_,rfl⟩
 have h2:qb4 o2 = true -> ∃ z,o2 = .const z:=by
  intro h; cases o2 <;> simp [qb4] at h; exact ⟨_,rfl⟩
 cases u <;> try (first
  | simp [eqGuard_at_bool] | simp [eqGuard_at_int] | simp [eqGuard_at_float] | simp [eqGuard_at_complex] | simp [eqGuard_at_string] | simp [eqGuard_at_pointer]
  | simp [eqGuard_at_slice] | simp [eqGuard_at_map] | simp [eqGuard_at_chan] | simp [eqGuard_at_func] | simp [eqGuard_at_nilFunc] | simp [eqGuard_at_iface] | simp [eqGuard_at_tuple]
  | exact absurd rfl (hu _))
 case nilIface=>
  cases v
  case nilIface=>
   rcases hc with h | h
   ·obtain ⟨z,rfl⟩:=h1 h; simp [eqGuard_nil_constL]
   ·obtain ⟨z,rfl⟩:=h2 h; simp [eqGuard_nil_constR]
  all_goals (cases op <;> simp [eqGuard])
theorem qCs {t:TypeId} {k:NK} {x y:AV} {u v:Value} (hx:Rel w I x m u) (hy:Rel w I y m v) {a b:Bool} (ha:qcN k x = some a) (hb:qcN k y = some b) :
  (∀ cs,u ≠ .agg cs) /\ ∀ op,(op = .eql \/ op = .neq) -> (binOp op t u v).run P w = ((Op.equalIn 10000 t u v).run P w).andThen fun b w'=>.ok (.bool (if op = .neq then !b else b)) w':=by
 cases k <;> cases x <;> simp only [qcN,reduceCtorEq] at ha <;> cases y <;> simp only [qcN,reduceCtorEq] at hb <;> simp only [Rel,qmj] at hx hy
 all_goals
  first | subst hx | (obtain ⟨_,_,_,rfl,_⟩:=hx) | (obtain ⟨_,_,_,_,_,_,rfl,_⟩:=hx) | (obtain ⟨_,_,rfl⟩:=hx) | (obtain ⟨_,_,rfl,_⟩:=hx) | (obtain ⟨_,rfl,_⟩:=hx)
  first | subst hy | (obtain ⟨_,_,_,rfl,_⟩:=hy) | (obtain ⟨_,_,_,_,_,_,rfl,_⟩:=hy) | (obtain ⟨_,_,rfl⟩:=hy) | (obtain ⟨_,_,rfl,_⟩:=hy) | (obtain ⟨_,rfl,_⟩:=hy)
  refine ⟨by simp,?_⟩
  rintro op (rfl | rfl) <;> simp [binOp,Op.equal,Op.maxDepth]
theorem qrz {x:AV} {u:Value} (hx:Rel w I x m u) {a:Bool} (ha:qcN .s x = some a):(a = true /\ u = .slice none 0 0) \/ (a = false /\ ∃ q n c,u = .slice (some q) n c):=by
 cases x <;> simp only [qcN,reduceCtorEq] at ha
 case nils q=>
  obtain ⟨sz,kd⟩:=q
  cases kd <;> simp only [reduceCtorEq,Option.some.injEq] at ha <;> subst ha
  ·simp only [Rel] at hx
   exact .inl ⟨rfl,qrc.1 hx⟩
  ·simp only [Rel] at hx
   obtain ⟨b,cap,rfl,_,_,h⟩:=hx
   obtain ⟨a,rfl⟩:=h rfl
   exact .inr ⟨rfl,_,_,_,rfl⟩
 case view sz es=>
  split at ha
  ·cases ha
  ·rename_i hne
   simp at ha; subst ha
   simp only [Rel] at hx
   obtain ⟨ar,cap,rfl,_,hE,_⟩:=hx
   obtain ⟨b,o,rfl,_⟩:=hE.resolve_left hne
   exact .inr ⟨rfl,_,_,_,rfl⟩
 case own id off lo=>
  simp at ha; subst ha
  simp only [Rel] at hx
  obtain ⟨L,_,o,cap,C,e,rfl,_⟩:=hx
  exact .inr ⟨rfl,_,_,_,rfl⟩
set_option maxHeartbeats 1000000 in
theorem qCr {t:TypeId} {d:TypeDesc} (ht:P.underlying t = some d) {k:NK} (hk:qnD d = some k) {x y:AV} {u v:Value} (hx:Rel w I x m u) (hy:Rel w I y m v) {a b:Bool}
  (ha:qcN k x = some a) (hb:qcN k y = some b) (hab:(a || b) = true) (n:Nat):(Op.equalIn (n + 1) t u v).run P w = .ok (a && b) w:=by
 cases d <;> simp only [qnD,reduceCtorEq,Option.some.injEq] at hk <;> subst hk
 case slice=>
  rcases qrz hx ha with ⟨rfl,rfl⟩ | ⟨rfl,q,n1,c1,rfl⟩ <;> rcases qrz hy hb with ⟨rfl,rfl⟩ | ⟨rfl,q',n2,c2,rfl⟩ <;> simp at hab <;>
   (simp only [Op.equalIn,Sem.run_bind,run_underlying ht,Result.andThen_ok]; rfl)
 all_goals
  cases x <;> simp only [qcN,reduceCtorEq,Option.some.injEq] at ha <;> subst ha <;> cases y <;> simp only [qcN,reduceCtorEq,Option.some.injEq] at hb <;> subst hb <;>
   simp at hab <;> simp only [Rel,qmj] at hx hy
 all_goals
  first | subst hx | (obtain ⟨_,_,_,rfl,_⟩:=hx) | (obtain ⟨_,_,_,_,_,_,rfl,_⟩:=hx) | (obtain ⟨_,_,rfl⟩:=hx) | (obtain ⟨_,_,rfl,_⟩:=hx) | (obtain ⟨_,rfl,_⟩:=hx)
  first | subst hy | (obtain ⟨_,_,_,rfl,_⟩:=hy) | (obtain ⟨_,_,_,_,_,_,rfl,_⟩:=hy) | (obtain ⟨_,_,rfl⟩:=hy) | (obtain ⟨_,_,rfl,_⟩:=hy) | (obtain ⟨_,rfl,_⟩:=hy)
  simp only [Op.equalIn,Sem.run_bind,run_underlying ht,Result.andThen_ok]
  rfl
theorem qCt {neg:Bool} {t:TypeId} {d:TypeDesc} (ht:P.underlying t = some d) {k:NK} (hk:qnD d = some k) {x y:AV} {u v:Value} (hx:Rel w I x m u) (hy:Rel w I y m v) {a b:Bool}
  (ha:qcN k x = some a) (hb:qcN k y = some b) (hab:(a || b) = true) :
  (binOp (if neg then .neq else .eql) t u v).run P w = .ok (.bool (if neg then !(a && b) else a && b)) w /\ ∀ cs,u ≠ .agg cs:=by
 have hE:=qCs (P:=P) (t:=t) hx hy ha hb
 refine ⟨?_,hE.1⟩
 rw [hE.2 (if neg then .neq else .eql) (by cases neg <;> simp),qCr ht hk hx hy ha hb hab 9999]
 cases neg <;> simp
end
end Go.Eng
namespace Go.Eng
section
variable {P:Program} {w:World} {I:Imm} {m:Names}
theorem qbC {x:AV} {u:Value} (hr:Rel w I x m u) (hok:qaB (qac x) = true):qaw w I (qac x) m u.cells.toList:=by
 cases x <;> simp only [qac,qaB,qaR,Bool.and_true,Bool.false_eq_true] at hok ⊢
 case agg cs=>
  simp only [Rel] at hr
  obtain ⟨us,rfl,hr⟩:=hr
  simpa [Value.cells] using hr
 all_goals
  have h1:u.cells = #[u]:=by
   simp only [Rel,qmj] at hr
   first
    | (subst hr; rfl)
    | (obtain ⟨_,_,_,_,_,_,rfl,_⟩:=hr; rfl)
    | (obtain ⟨_,_,_,_,_,_,_,rfl,_⟩:=hr; rfl)
    | (obtain ⟨_,_,_,rfl,_⟩:=hr; rfl)
    | (obtain ⟨_,_,rfl⟩:=hr; rfl)
    | (obtain ⟨_,_,rfl,_⟩:=hr; rfl)
    | (obtain ⟨_,rfl,_⟩:=hr; rfl)
    | (obtain ⟨_,_,_,_,_,_,h,_⟩:=hr; rw [h]; rfl)
  rw [h1]
  simp only [qaw]
  exact ⟨u,[],rfl,hr,rfl⟩
theorem qba:∀ {cs:List AV},qaB cs = true -> ∀ c ∈ cs,qaR c = true
 | [],_,c,h=>by simp at h
 | d :: cs,hk,c,h=>by
  simp only [qaB,Bool.and_eq_true] at hk
  rcases List.mem_cons.1 h with rfl | h
  ·exact hk.1
  ·exact qba hk.2 c h
theorem qs6 {x:AV} {u:Value} (hr:Rel w I x m u) (hok:qaR x = true):u.oneCell' = true:=by
 cases x <;> simp only [qaR,Bool.false_eq_true] at hok <;> simp only [Rel,qmj] at hr <;>
  first
   | (subst hr; rfl)
   | (obtain ⟨_,_,_,_,_,_,rfl,_⟩:=hr; rfl)
   | (obtain ⟨_,_,_,rfl,_⟩:=hr; rfl)
   | (obtain ⟨_,_,rfl⟩:=hr; rfl)
   | (obtain ⟨_,_,rfl,_⟩:=hr; rfl)
   | (obtain ⟨_,rfl,_⟩:=hr; rfl)
   | (obtain ⟨_,_,_,_,_,_,h,_⟩:=hr; rw [h]; rfl)
theorem qdy {cs:List AV} {us:List Value} (h:qaw w I cs m us) (hok:qaB cs = true):∀ u ∈ us,u.oneCell' = true:=by
 intro u hu
 obtain ⟨i,hi⟩:=List.mem_iff_getElem?.1 hu
 have hlen:=qaH h
 have hlt:i < cs.length:=by have:=(List.getElem?_eq_some_iff.1 hi).1; omega
 obtain ⟨v,hv,hr⟩:=qbf h i cs[i] (by simp [hlt])
 rw [hi] at hv; cases hv
 exact qs6 hr (qba hok _ (by simp))
theorem qmS {cs vs:List AV} {us qs:List Value} (h:qaw w I cs m us) (h':qaw w I vs m qs) (off:Nat):qaw w I (splice cs off vs) m (us.take off ++ qs ++ us.drop (off + qs.length)):=by
 unfold splice
 rw [qaH h']
 exact qcv (qcv (qdd off h) h') (qdb _ h)
theorem foldl_set (cs:Array Value):∀ (vs:List Value) (off j:Nat) (acc:Array Value),off + j + vs.length <= acc.size ->
  ((vs.zipIdx j).foldl (fun cs (c:Value × Nat)=>cs.setIfInBounds (off + c.2) c.1) acc) = (acc.toList.take (off + j) ++ vs ++ acc.toList.drop (off + j + vs.length)).toArray
 | [],off,j,acc,h=>by simp
 | v :: vs,off,j,acc,h=>by
  simp only [List.zipIdx_cons,List.foldl_cons]
  rw [foldl_set cs vs off (j + 1) _ (by simp at h ⊢; omega)]
  have:=list_seg_step acc.toList (off + j) v vs (by simp at h ⊢; omega)
  simpa [Array.toList_setIfInBounds,Nat.add_assoc] using this
theorem qhS {e:Env} {a:Act} (ht:qe0 w I m e a) {place:Nat -> Option (Nat × Nat)}:∀ {ps:List (Nat × Operand)} {qs:List (Nat × Nat × Opd)},qio place ps = some qs ->
  ∀ {cs:List AV} {us:List Value},qaw w I cs m us -> ∀ {cs':List AV},qsH cs (qs.map fun p=>(p.1,p.2.1,qau e p.2.2)) = some cs' ->
   ∃ us':List Value,Instr.fill place us.toArray (ps.map fun p=>(p.1,a.eval p.2)) = some us'.toArray /\ qaw w I cs' m us'
 | [],qs,h,cs,us,hr,cs',hf=>by
  simp [qio] at h; subst h
  simp [qsH] at hf; subst hf
  exact ⟨us,rfl,hr⟩
 | (i,x) :: ps,qs,h,cs,us,hr,cs',hf=>by
  simp only [qio] at h
  split at h
  ·rename_i off n y qs' h1 h2 h3
   simp at h; subst h
   simp only [List.map_cons,qsH] at hf
   split at hf
   ·rename_i hc
    obtain ⟨hc1,hc2,hc3⟩:=hc
    have hx:=qan ht h2
    have hcells:=qbC hx hc3
    have hl1:=qaH hcells
    have hl2:=qaH hr
    have hsz:(a.eval x).cells.size = n:=by rw [<- hc1,<- hl1]; simp
    have hnew:=qmS hr hcells off
    obtain ⟨us',hfill,hrel⟩:=qhS ht h3 hnew hf
    refine ⟨us',?_,hrel⟩
    simp only [List.map_cons,Instr.fill,h1]
    rw [if_neg (by simp [hsz]; omega)]
    have hfs:=foldl_set us.toArray (a.eval x).cells.toList off 0 us.toArray (by simp [hsz]; omega)
    have hz:(a.eval x).cells.zipIdx = ((a.eval x).cells.toList.zipIdx 0).toArray:=by
     rw [<- Array.toArray_toList (xs:=(a.eval x).cells.zipIdx)]; simp
    rw [hz]
    simp only [List.foldl_toArray']
    rw [hfs]
    simpa using hfill
   ·cases hf
  ·cases h
def Gives (P:Program) (w:World) (I:Imm) (m:Names) (s:Sem Next) (v:AV):Prop:=∃ u,s.run P w = .ok (.value u) w /\ Rel w I v m u
theorem qar {s:Sem Value} {v:AV} {u:Value} (h:s.run P w = .ok u w) (hr:Rel w I v m u):Gives P w I m (do pure (.value (<- s))) v:=⟨u,by simp [h],hr⟩
theorem qk4 {t:TypeId} {n:Nat} (h:qb9 P t = some n):∃ i,P.info? t = some i /\ i.size = n:=by
 simpa [qb9,Option.map_eq_some_iff] using h
theorem run_sizeOf {t:TypeId} {n:Nat} (h:qb9 P t = some n) (w:World):(Go.sizeOf t).run P w = .ok n w:=by
 obtain ⟨i,hi,rfl⟩:=qk4 h
 simp [Go.sizeOf,typeInfo,hi]
theorem qr6 {t:TypeId} {z:AV} {i:TypeInfo} (hi:P.info? t = some i) (h:zeroOf P t = some z):∃ v,i.zero = some v /\ ∀ (w:World) (I:Imm) (m:Names),Rel w I z m v:=by
 simp only [zeroOf,hi,Option.map_eq_some_iff,Option.bind_eq_some_iff] at h
 obtain ⟨y,⟨v,⟨i',he,hz⟩,hv⟩,rfl⟩:=h
 cases he
 exact ⟨v,hz,fun _ _ _=>qD5 (qiX v hv)⟩
theorem qcx {t:TypeId} {z:AV} (h:zeroOf P t = some z) (w:World):∃ v,(zeroValue t).run P w = .ok v w /\ ∀ (w:World) (I:Imm) (m:Names),Rel w I z m v:=by
 have h':=h
 simp only [zeroOf,Option.map_eq_some_iff,Option.bind_eq_some_iff] at h'
 obtain ⟨y,⟨v,⟨i,hi,hz⟩,hv⟩,rfl⟩:=h'
 exact ⟨v,by simp [zeroValue,typeInfo,hi,hz],fun _ _ _=>qD5 (qiX v hv)⟩
theorem qly {e:Env} {a:Act} (ht:qe0 w I m e a) {t:TypeId} {z:AV} (hz:zeroOf P t = some z) (hag:qmo z = true) {fs:Array Field} (hu:P.underlying t = some (.struct fs))
  (hall:fs.all (fun f=>(qb9 P f.type).isSome) = true) {ps:Array (Nat × Operand)} {qs:List (Nat × Nat × Opd)} (hq:qio (qeB P fs) ps.toList = some qs)
  {cs:List AV} (hf:qsH (qac z) (qs.map fun p=>(p.1,p.2.1,qau e p.2.2)) = some cs) :
  Gives P w I m (do pure (.value (<- Instr.build t (ps.map fun (i,x)=>(i,a.eval x))))) (.agg cs):=by
 obtain ⟨v,hv,hav⟩:=qcx hz w
 have hr:Rel w I z m v:=hav _ _ _
 obtain ⟨zs,rfl⟩:∃ zs,z = .agg zs:=by cases z <;> simp [qmo] at hag; exact ⟨_,rfl⟩
 simp only [Rel] at hr
 obtain ⟨us,rfl,hr⟩:=hr
 obtain ⟨us',hfill,hrel⟩:=qhS ht hq hr hf
 have hplaces:(fs.mapM fun f=>do pure (f.offset,<- Go.sizeOf f.type):Sem (Array (Nat × Nat))).run P w = .ok (fs.map fun f=>(f.offset,(qb9 P f.type).getD 0)) w:=by
  have:∀ l:List Field,(∀ f ∈ l,(qb9 P f.type).isSome = true) -> (l.mapM fun f=>do pure (f.offset,<- Go.sizeOf f.type):Sem (List (Nat × Nat))).run P w = .ok (l.map fun f=>(f.offset,(qb9 P f.type).getD 0)) w:=by
   intro l
   induction l with
   | nil=>intro _; simp
   | cons f l ih=>
    intro hl
    obtain ⟨n,hn⟩:=Option.isSome_iff_exists.1 (hl f (by simp))
    have:=ih fun g hg=>hl g (by simp [hg])
    simp only [List.mapM_cons,Sem.run_bind,run_sizeOf hn,Result.andThen_ok,Sem.run_pure,this,List.map_cons,hn,Option.getD_some]
  have h2:=this fs.toList (fun f hf=>by
   have:=Array.all_eq_true'.1 hall f (by simpa using hf)
   exact this)
  have h3:(fs.mapM fun f=>do pure (f.offset,<- Go.sizeOf f.type):Sem (Array (Nat × Nat))) = Functor.map List.toArray (fs.toList.mapM fun f=>do pure (f.offset,<- Go.sizeOf f.type)):=by
   rw [Array.mapM_eq_mapM_toList]
  rw [h3,Sem.run_map,h2]
  simp
  apply Array.ext'
  simp
 refine qar (u:=.agg us'.toArray) ?_ (by simp only [Rel]; exact ⟨us',rfl,hrel⟩)
 have hpl:(fun i=>(fs.map fun f=>(f.offset,(qb9 P f.type).getD 0))[i]?) = qeB P fs:=by
  funext i
  simp only [qeB,Array.getElem?_map]
  cases hi:fs[i]? with
  | none=>simp
  | some f=>
   have:=Array.all_eq_true'.1 hall f (Array.mem_of_getElem? hi)
   obtain ⟨n,hn⟩:=Option.isSome_iff_exists.1 this
   simp [hn]
 have hfl:Instr.fill (fun i=>(fs.map fun f=>(f.offset,(qb9 P f.type).getD 0))[i]?) us.toArray (ps.map fun x=>(x.1,a.eval x.2)).toList = some us'.toArray:=by
  rw [hpl]; simpa using hfill
 have hm:(ps.map fun (i,x)=>(i,a.eval x)) = ps.map fun x=>(x.1,a.eval x.2):=rfl
 simp only [Instr.build,Sem.run_bind,hv,Result.andThen_ok,run_underlying hu,hplaces,Value.cells]
 rw [hm,hfl]
 rfl
theorem qnp {e:Env} {a:Act} (ht:qe0 w I m e a) {t et:TypeId} {z:AV} (hz:zeroOf P t = some z) (hag:qmo z = true) {k n:Nat} (hu:P.underlying t = some (.array k et)) (hn:qb9 P et = some n)
  {ps:Array (Nat × Operand)} {qs:List (Nat × Nat × Opd)} (hq:qio (fun i=>some (i * n,n)) ps.toList = some qs)
  {cs:List AV} (hf:qsH (qac z) (qs.map fun p=>(p.1,p.2.1,qau e p.2.2)) = some cs) :
  Gives P w I m (do pure (.value (<- Instr.build t (ps.map fun (i,x)=>(i,a.eval x))))) (.agg cs):=by
 obtain ⟨v,hv,hav⟩:=qcx hz w
 have hr:Rel w I z m v:=hav _ _ _
 obtain ⟨zs,rfl⟩:∃ zs,z = .agg zs:=by cases z <;> simp [qmo] at hag; exact ⟨_,rfl⟩
 simp only [Rel] at hr
 obtain ⟨us,rfl,hr⟩:=hr
 obtain ⟨us',hfill,hrel⟩:=qhS ht hq hr hf
 refine qar (u:=.agg us'.toArray) ?_ (by simp only [Rel]; exact ⟨us',rfl,hrel⟩)
 have hfl:Instr.fill (fun i=>some (i * n,n)) us.toArray (ps.map fun x=>(x.1,a.eval x.2)).toList = some us'.toArray:=by
  simpa using hfill
 have hm:(ps.map fun (i,x)=>(i,a.eval x)) = ps.map fun x=>(x.1,a.eval x.2):=rfl
 simp only [Instr.build,Sem.run_bind,hv,Result.andThen_ok,run_underlying hu,run_sizeOf hn,Value.cells]
 rw [hm,hfl]
 rfl
end
end Go.Eng
namespace Go.Eng
set_option linter.unusedSectionVars false
variable [Globs]
section
variable {P:Program} {w:World} {I:Imm} {m:Names}
def qna (w:World) (I:Imm) (m:Names):Option AV -> Option Value -> Prop
 | none,none=>True
 | some x,some v=>Rel w I x m v
 | _,_=>False
theorem qfP {e:Env} {a:Act} (ht:qe0 w I m e a) {x:Option Operand} {y:Option Opd} (h:qFn x = some y):qna w I m (qa3 (qau e) y) (x.map a.eval):=by
 cases x with
 | none=>simp [qFn] at h; subst h; simp [qa3,qna]
 | some x=>
  simp only [qFn] at h
  split at h
  ·rename_i y' h1
   simp at h; subst h
   simpa [qa3,qna] using qan ht h1
  ·cases h
theorem qN1 {q:Nat} {lo:Option AV} {lo':Option Value} (hl:qna w I m lo lo') {l u:Nat} (h:qN0 q lo = some (l,u)) :
  u = q /\ l <= u /\ ((lo' = none /\ l = 0) \/ ∃ v,lo' = some v /\ (Instr.sliceBound v q .sliceB).run P w = .ok l w):=by
 cases lo with
 | none=>
  simp [qN0] at h
  obtain ⟨rfl,rfl⟩:=h
  cases lo' with
  | none=>simp
  | some v=>simp [qna] at hl
 | some x=>
  cases lo' with
  | none=>simp [qna] at hl
  | some v=>
   cases x <;> simp only [qN0,reduceCtorEq] at h
   simp only [qna,Rel] at hl
   subst hl
   split at h
   ·rename_i hi
    simp at h
    obtain ⟨rfl,rfl⟩:=h
    refine ⟨rfl,by omega,.inr ⟨_,rfl,?_⟩⟩
    simp [Instr.sliceBound,asIntOf,hi]
   ·cases h
theorem qfC {isSlice:Bool} {n c cap:Nat} (hn:n <= cap) (hc:c <= cap) {lo hi:Option AV} {lo' hi':Option Value} (hl:qna w I m lo lo') (hh:qna w I m hi hi') {l u:Nat} (h:qdo n c lo hi = some (l,u)) :
  (Instr.sliceBounds isSlice n cap lo' hi' none).run P w = .ok (l,u,cap) w /\ l <= u /\ (u = n \/ u <= c):=by
 simp only [qdo] at h
 split at h
 ·cases h
 ·rename_i q hq
  obtain ⟨rfl,h1,h2⟩:=qN1 (P:=P) hl h
  have hhi:(u = n \/ u <= c) /\ ((hi' = none /\ u = n) \/ ∃ v,hi' = some v /\ (Instr.sliceBound v cap (if isSlice = true then BoundsCode.sliceAcap else BoundsCode.sliceAlen)).run P w = .ok u w):=by
   cases hi with
   | none=>
    simp [qwZ] at hq; subst hq
    cases hi' with
    | none=>simp
    | some v=>simp [qna] at hh
   | some x=>
    cases hi' with
    | none=>simp [qna] at hh
    | some v=>
     cases x <;> simp only [qwZ,reduceCtorEq] at hq
     simp only [qna,Rel] at hh
     subst hh
     split at hq
     ·rename_i i hi
      simp at hq; subst hq
      refine ⟨.inr (by omega),.inr ⟨_,rfl,?_⟩⟩
      have h1:=hi.1
      have h2:i <= (cap:Int):=by omega
      simp [Instr.sliceBound,asIntOf,h1,h2]
     ·cases hq
  refine ⟨?_,h1,hhi.1⟩
  rcases hhi.2 with ⟨rfl,rfl⟩ | ⟨v,rfl,hv⟩ <;> rcases h2 with ⟨rfl,rfl⟩ | ⟨v',rfl,hv'⟩
  ·simp only [Instr.sliceBounds,Sem.run_bind,Sem.run_pure,Result.andThen_ok]
  ·simp only [Instr.sliceBounds,Sem.run_bind,Sem.run_pure,Result.andThen_ok,Option.isSome,Bool.false_eq_true,if_false,hv']
  ·simp only [Instr.sliceBounds,Sem.run_bind,Sem.run_pure,Result.andThen_ok,hv]
  ·simp only [Instr.sliceBounds,Sem.run_bind,Sem.run_pure,Result.andThen_ok,Option.isSome,Bool.false_eq_true,if_false,hv,hv']
theorem qmM {sz:Nat} {es:List AV} {b o:Nat} (h:qwd w I sz es b o) (l n:Nat):qwd w I sz ((es.drop l).take n) b (o + l * sz):=by
 rw [qdx] at h ⊢
 obtain ⟨hs,hat⟩:=h
 have hs':∀ e ∈ es.drop l,(qac e).length = sz:=fun e he=>hs e (List.mem_of_mem_drop he)
 refine ⟨fun e he=>hs' e (List.mem_of_mem_take he),?_⟩
 rw [qd2 hs',qd1 hs]
 exact qMM (qjC hat _) _
theorem qfu {t et:TypeId} {sz:Nat} (hu:P.underlying t = some (.slice et)) (hsz:qb9 P et = some sz) {a:Option Addr} {len cap l u:Nat} {lo hi:Option Value}
  (hb:(Instr.sliceBounds true len cap lo hi none).run P w = .ok (l,u,cap) w) :
  (Instr.sliceAt t (.slice a len cap) lo hi none).run P w = .ok (.slice (if cap = l then a else a.map (·.add (l * sz))) (u - l) (cap - l)) w:=by
 simp [Instr.sliceAt,Instr.slice,run_underlying hu,hb,run_sizeOf hsz]
theorem qWT {h:Heap} (H:HeapAt w I m h) {t et:TypeId} {sz:Nat} (hu:P.underlying t = some (.slice et)) (hsz:qb9 P et = some sz) {x:AV} {v:Value} (hr:Rel w I x m v)
  {lo hi:Option AV} {lo' hi':Option Value} (hl:qna w I m lo lo') (hh:qna w I m hi hi') {z:AV}
  (hz:(∃ q,x = .nils q /\ z = .nils q /\ ∃ p,qdo 0 0 lo hi = some p) \/
   (∃ es l u,x = .view sz es /\ qdo es.length es.length lo hi = some (l,u) /\ z = .view sz ((es.drop l).take (u - l))) \/
   (∃ id off lo' es fz l u lo2,x = .own id off lo' /\ qad h id = some (.arr sz es fz) /\ qdo (qa9 es.length off lo') (es.length - off) lo hi = some (l,u) /\ off + u <= es.length /\ (lo2 = some (u - l) \/ lo2 = none /\ lo' = none /\ u = es.length - off) /\ z = .own id (off + l) lo2)) :
  Gives P w I m (do pure (.value (<- Instr.sliceAt t v lo' hi' none))) z:=by
 rcases hz with ⟨q,rfl,rfl,⟨l,u⟩,hb⟩ | ⟨es,l,u,rfl,hb,rfl⟩ | ⟨id,off,lo',es,fz,l,u,lo2,rfl,hlk,hb,hle,hlo2,rfl⟩
 ·simp only [Rel] at hr
  obtain ⟨b,cap,rfl,g1,g2,g3⟩:=hr
  obtain ⟨hrun,h1,h2⟩:=qfC (P:=P) (isSlice:=true) (Nat.zero_le cap) (Nat.zero_le cap) hl hh hb
  have hu0:u = 0:=by omega
  have hl0:l = 0:=by omega
  subst hu0; subst hl0
  refine qar (qfu hu hsz hrun) ?_
  simp only [Rel]
  refine ⟨_,_,rfl,fun h=>by simp [g1 h],fun h=>?_,fun h=>?_⟩
  ·rw [g2 h]; simp
  ·obtain ⟨a,rfl⟩:=g3 h
   split <;> exact ⟨_,rfl⟩
 ·simp only [Rel] at hr
  obtain ⟨ar,cap,rfl,hcap,hE,hzc⟩:=hr
  obtain ⟨hrun,h1,h2⟩:=qfC (P:=P) (isSlice:=true) hcap hcap hl hh hb
  have hul:u <= es.length:=by omega
  refine qar (qfu hu hsz hrun) ?_
  simp only [Rel]
  by_cases hcl:cap = l
  ·refine ⟨ar,cap - l,?_,?_,.inl ?_,fun _=>by omega⟩
   ·simp [hcl]; omega
   ·simp; omega
   ·have:u - l = 0:=by omega
    rw [this]; simp
  ·rcases hE with he | ⟨b,o,rfl,hE⟩
   ·refine ⟨ar.map (·.add (l * sz)),cap - l,?_,?_,.inl (by simp; omega),fun hn=>by have:=hzc (by simpa using hn); omega⟩
    ·simp [hcl]; omega
    ·simp; omega
   ·refine ⟨some (ad b (o + l * sz)),cap - l,?_,?_,.inr ⟨b,_,rfl,qmM hE l _⟩,fun hn=>by cases hn⟩
    ·simp [hcl,qdV]; omega
    ·simp; omega
 ·simp only [Rel] at hr
  obtain ⟨L,hL,o,cap,C,e,rfl,hcap,ho,hnum,hC,hsize⟩:=hr
  obtain ⟨L',hL',hat⟩:=H.at_ id _ hlk
  rw [hL] at hL'; cases hL'
  obtain ⟨hn,hs,_⟩:=hat
  rw [hn] at hcap
  obtain ⟨hrun,h1,h2⟩:=qfC (P:=P) (isSlice:=true) hcap (show es.length - off <= cap by omega) hl hh hb
  rw [hn]
  refine qar (qfu hu hsz hrun) ?_
  simp only [Rel]
  refine ⟨L,hL,?_⟩
  have hlen2:qa9 L.num (off + l) lo2 = u - l:=by
   rcases hlo2 with rfl | ⟨rfl,rfl,hu2⟩
   ·rfl
   ·rw [qcD,hn]; omega
  rw [hlen2]
  have hucap:u <= cap:=by omega
  by_cases hcl:cap = l
  ·refine ⟨o,0,C,e,?_,?_,?_,?_,hC,?_⟩
   ·simp [hcl]
   ·omega
   ·intro h; exact absurd rfl h
   ·omega
   ·have:(off + l + 0) = off + cap:=by omega
    rw [this]; exact hsize
  ·have hc0:cap ≠ 0:=by omega
   refine ⟨o + l * sz,cap - l,C,e,?_,?_,?_,?_,hC,?_⟩
   ·simp [hcl,qdV]
   ·omega
   ·intro _
    rw [ho hc0,hs,Nat.add_mul]; omega
   ·omega
   ·have:(off + l + (cap - l)) = off + cap:=by omega
    rw [this]; exact hsize
theorem qSn {h:Heap} (H:HeapAt w I m h) {t et:TypeId} {sz:Nat} (hu:P.underlying t = some (.slice et)) (hsz:qb9 P et = some sz) {x:AV} {v:Value} (hr:Rel w I x m v) {kl ku km:IntKind} {l u mm:Int} (h0:0 <= l) (h1:l <= u) (h2:u <= mm)
  (hx:(∃ sz' es,x = .view sz' es /\ mm <= (es.length:Int)) \/ ∃ id off len sz' es fz,x = .own id off len /\ qad h id = some (.arr sz' es fz) /\ mm <= ((es.length - off:Nat):Int)) :
  Gives P w I m (do pure (.value (<- Instr.sliceAt t v (some (.int kl l)) (some (.int ku u)) (some (.int km mm))))) .junk:=by
 have go:∀ (a:Option Addr) (len cap:Nat),mm <= (cap:Int) -> v = .slice a len cap -> Gives P w I m (do pure (.value (<- Instr.sliceAt t v (some (.int kl l)) (some (.int ku u)) (some (.int km mm))))) .junk:=by
  intro a len cap hc hv
  subst hv
  have h3:0 <= mm:=by omega
  have h4:0 <= u:=by omega
  have h5:u <= max mm 0:=by omega
  have h6:l <= max u 0:=by omega
  refine qar (u:=.slice (if mm.toNat = l.toNat then a else a.map (·.add (l.toNat * sz))) (u.toNat - l.toNat) (mm.toNat - l.toNat)) ?_ (by simp [Rel])
  simp [Instr.sliceAt,Instr.slice,run_underlying hu,Instr.sliceBounds,Instr.sliceBound,asIntOf,h3,hc,h4,h5,h0,h6,run_sizeOf hsz]
 rcases hx with ⟨sz',es,rfl,hle⟩ | ⟨id,off,len,sz',es,fz,rfl,hlk,hle⟩
 ·simp only [Rel] at hr
  obtain ⟨a,cap,hv,hcap,_⟩:=hr
  exact go _ _ _ (by omega) hv
 ·simp only [Rel] at hr
  obtain ⟨L,hL,o,cap,C,e,hv,hcap,ho,hnum,hC,hsize⟩:=hr
  obtain ⟨L',hL',hat⟩:=H.at_ id _ hlk
  rw [hL] at hL'; cases hL'
  obtain ⟨hn,hs,_⟩:=hat
  exact go _ _ _ (by omega) hv
theorem qSo {t:TypeId} (hu:P.underlying t = some .string) {s:List UInt8} {v:Value} (hr:Rel w I (.str s) m v)
  {lo hi:Option AV} {lo' hi':Option Value} (hl:qna w I m lo lo') (hh:qna w I m hi hi') {l u:Nat} (hb:qdo s.length s.length lo hi = some (l,u)) :
  Gives P w I m (do pure (.value (<- Instr.sliceAt t v lo' hi' none))) (.str ((s.drop l).take (u - l))):=by
 simp only [Rel] at hr; subst hr
 obtain ⟨hrun,h1,h2⟩:=qfC (P:=P) (isSlice:=false) (Nat.le_refl _) (Nat.le_refl _) hl hh hb
 refine qar (u:=.string ((⟨s.toArray⟩:ByteArray).extract l u)) ?_ ?_
 ·simp [Instr.sliceAt,Instr.slice,run_underlying hu,size_mk,hrun]
 ·simp only [Rel,Value.string.injEq]
  apply ByteArray.ext
  simp [ByteArray.data_extract,List.extract_eq_take_drop]
theorem qNL {h:Heap} (H:HeapAt w I m h) {s:TypeId} {fs:Array Field} (hu:P.underlying s = some (.struct fs)) {f:Nat} {fd:Field} (hf:fs[f]? = some fd) {n:Nat} (hn:qb9 P fd.type = some n) (hn0:n ≠ 0)
  {x:AV} {v:Value} (hr:Rel w I x m v) {z:AV}
  (hz:(∃ cs,x = .ptr cs /\ fd.offset <= cs.length /\ z = .ptr (cs.drop fd.offset)) \/ (∃ id idx o,x = .ref id idx o /\ z = .ref id idx (o + fd.offset))) :
  Gives P w I m (do pure (.value (<- Instr.fieldAt s v f))) z:=by
 have hfp:∀ b o,(fieldPlace (ad b o) fd).run P w = .ok (ad b (o + fd.offset)) w:=by
  intro b o
  simp [fieldPlace,run_sizeOf hn,hn0,qdV]
 rcases hz with ⟨cs,rfl,hle,rfl⟩ | ⟨id,idx,o,rfl,rfl⟩
 ·simp only [Rel] at hr
  obtain ⟨b,o,rfl,hC⟩:=hr
  refine qar (u:=.pointer (some (ad b (o + fd.offset)))) ?_ ?_
  ·simp [Instr.fieldAt,run_underlying hu,hf,Instr.sureAddr,hfp]
  ·simp only [Rel]
   exact ⟨b,_,rfl,qbr.2 (qjC (qbr.1 hC) _)⟩
 ·simp only [Rel] at hr
  obtain ⟨L,hL,rfl⟩:=hr
  refine qar (u:=.pointer (some (ad L.blk (L.base + idx * L.sz + o + fd.offset)))) ?_ ?_
  ·simp [Instr.fieldAt,run_underlying hu,hf,Instr.sureAddr,hfp]
  ·simp only [Rel]
   exact ⟨L,hL,by simp [Nat.add_assoc]⟩
theorem qA6 {h:Heap} (H:HeapAt w I m h) {t et:TypeId} {sz:Nat} (hu:P.underlying t = some (.slice et)) (hsz:qb9 P et = some sz) {x:AV} {v:Value} (hr:Rel w I x m v) {k:IntKind} {i:Int} {z:AV}
  (hz:(∃ es e,x = .view sz es /\ qeY es i = some e /\ z = .ptr (qac e)) \/
   (∃ id off len es fz,x = .own id off len /\ qad h id = some (.arr sz es fz) /\ 0 <= i /\ i < qa9 es.length off len /\ off + i.toNat < es.length /\ z = .ref id (off + i.toNat) 0)) :
  Gives P w I m (do pure (.value (<- Instr.indexAt t v (.int k i)))) z:=by
 rcases hz with ⟨es,e,rfl,hat,rfl⟩ | ⟨id,off,len,es,fz,rfl,hlk,h0,h1,h2,rfl⟩
 ·simp only [Rel] at hr
  obtain ⟨ar,cap,rfl,hcap,hE,hzc⟩:=hr
  simp only [qeY] at hat
  split at hat
  ·rename_i h0
   have hlt:i.toNat < es.length:=(List.getElem?_eq_some_iff.1 hat).1
   have hE':∃ b o,ar = some (ad b o) /\ qwd w I sz es b o:=hE.resolve_left (by omega)
   obtain ⟨b,o,rfl,hE2⟩:=hE'
   have h1:i < (es.length:Int):=by omega
   obtain ⟨hs,hA⟩:=qdx.1 hE2
   refine qar (u:=.pointer (some (ad b (o + i.toNat * sz)))) ?_ ?_
   ·simp [Instr.indexAt,asIntOf,run_underlying hu,h0,h1,run_sizeOf hsz,qdV]
   ·simp only [Rel]
    exact ⟨b,_,rfl,qbr.2 (qzN hs hA hat)⟩
  ·cases hat
 ·simp only [Rel] at hr
  obtain ⟨L,hL,o,cap,C,e,rfl,hcap,ho,hnum,hC,hsize⟩:=hr
  obtain ⟨L',hL',hat⟩:=H.at_ id _ hlk
  rw [hL] at hL'; cases hL'
  obtain ⟨hn,hs,_⟩:=hat
  rw [hn] at hcap
  rw [<- hn] at h1
  have hc0:cap ≠ 0:=by rw [hn] at h1; omega
  refine qar (u:=.pointer (some (ad L.blk (o + i.toNat * sz)))) ?_ ?_
  ·simp [Instr.indexAt,asIntOf,run_underlying hu,h0,h1,run_sizeOf hsz,qdV]
  ·simp only [Rel]
   refine ⟨L,hL,?_⟩
   rw [ho hc0,hs,Nat.add_mul]; simp [Nat.add_assoc]
theorem qA4 {t et:TypeId} {n sz:Nat} (hu:P.underlying t = some (.array n et)) (hsz:qb9 P et = some sz) {x:AV} {v:Value} (hr:Rel w I x m v) {k:IntKind} {i:Int} (h0:0 <= i) (h1:i < n) {z:AV}
  (hz:(∃ cs,x = .ptr cs /\ i.toNat * sz <= cs.length /\ z = .ptr (cs.drop (i.toNat * sz))) \/ (∃ id idx o,x = .ref id idx o /\ z = .ref id idx (o + i.toNat * sz))) :
  Gives P w I m (do pure (.value (<- Instr.indexAt t v (.int k i)))) z:=by
 rcases hz with ⟨cs,rfl,hle,rfl⟩ | ⟨id,idx,o,rfl,rfl⟩
 ·simp only [Rel] at hr
  obtain ⟨b,o,rfl,hC⟩:=hr
  refine qar (u:=.pointer (some (ad b (o + i.toNat * sz)))) ?_ ?_
  ·simp [Instr.indexAt,asIntOf,run_underlying hu,Instr.sureAddr,h0,h1,run_sizeOf hsz,qdV]
  ·simp only [Rel]
   exact ⟨b,_,rfl,qbr.2 (qjC (qbr.1 hC) _)⟩
 ·simp only [Rel] at hr
  obtain ⟨L,hL,rfl⟩:=hr
  refine qar (u:=.pointer (some (ad L.blk (L.base + idx * L.sz + o + i.toNat * sz)))) ?_ ?_
  ·simp [Instr.indexAt,asIntOf,run_underlying hu,Instr.sureAddr,h0,h1,run_sizeOf hsz,qdV]
  ·simp only [Rel]
   exact ⟨L,hL,by simp [Nat.add_assoc]⟩
theorem qSm {t:TypeId} (hu:P.underlying t = some .string) {s:List UInt8} {v:Value} (hr:Rel w I (.str s) m v) {k:IntKind} {i:Int} {b:UInt8} (hb:qeY s i = some b) :
  Gives P w I m (do pure (.value (<- Instr.index t v (.int k i)))) (.int .u8 b.toNat):=by
 simp only [Rel] at hr; subst hr
 simp only [qeY] at hb
 split at hb
 ·rename_i h0
  have hlt:i.toNat < s.length:=(List.getElem?_eq_some_iff.1 hb).1
  have hi:0 <= i /\ i < ((⟨s.toArray⟩:ByteArray).size:Int):=by rw [size_mk]; omega
  refine qar (u:=.int .u8 b.toNat) ?_ (by simp [Rel])
  rw [run_index_string w t _ k i hu,dif_pos hi]
  have:((⟨s.toArray⟩:ByteArray)[i.toNat]'(by omega)) = b:=by
   have:=(List.getElem?_eq_some_iff.1 hb).2
   rw [<- this]; rfl
  rw [this]
 ·cases hb
theorem qSl {t et:TypeId} {n sz:Nat} {agg:Bool} (hu:P.underlying t = some (.array n et)) (hsz:qb9 P et = some sz) (ha:qaT P et = some agg) (h1:agg = true \/ sz = 1) {cs:List AV} {v:Value} (hr:Rel w I (.agg cs) m v) {k:IntKind} {i:Int}
  (h0:0 <= i) (hi:i < n) {z:AV} (hp:Eng.part agg sz (cs.drop (i.toNat * sz)) = some z):Gives P w I m (do pure (.value (<- Instr.index t v (.int k i)))) z:=by
 simp only [Rel] at hr
 obtain ⟨us,rfl,hr⟩:=hr
 obtain ⟨u,hu',hr'⟩:=qmI (P:=P) hsz ha h1 hr hp
 exact qar (u:=u) (by simp [Instr.index,asIntOf,run_underlying hu,h0,hi,run_sizeOf hsz,hu']) hr'
theorem qWP {s:TypeId} {fs:Array Field} (hu:P.underlying s = some (.struct fs)) {f:Nat} {fd:Field} (hf:fs[f]? = some fd) {n:Nat} {agg:Bool} (hn:qb9 P fd.type = some n) (ha:qaT P fd.type = some agg) (h1:agg = true \/ n = 1)
  {cs:List AV} {v:Value} (hr:Rel w I (.agg cs) m v) {z:AV} (hp:Eng.part agg n (cs.drop fd.offset) = some z):Gives P w I m (do pure (.value (<- Instr.field s v f))) z:=by
 simp only [Rel] at hr
 obtain ⟨us,rfl,hr⟩:=hr
 obtain ⟨u,hu',hr'⟩:=qmI (P:=P) hn ha h1 hr hp
 exact qar (u:=u) (by simp [Instr.field,run_underlying hu,hf,asAgg,hu']) hr'
theorem qSp {t:TypeId} {d:TypeDesc} (hd:P.underlying t = some d) (hni:∀ ms,d ≠ .interface ms) {z0:AV} (hz0:zeroOf P t = some z0) {xt:TypeId} {ok:Bool} {x:AV} {v:Value} (hr:Rel w I x m v) {z:AV}
  (hz:(∃ u y,x = .iface u y /\ ((u = t /\ z = if ok then .tup [y,.bool true] else y) \/ (u ≠ t /\ ok = true /\ z = .tup [z0,.bool false]))) \/ (x = .nili /\ ok = true /\ z = .tup [z0,.bool false])) :
  Gives P w I m (do pure (.value (<- Instr.typeAssert v xt t ok))) z:=by
 obtain ⟨zv,hzv,hav⟩:=qcx hz0 w
 have hzr:Rel w I z0 m zv:=hav _ _ _
 have hfail:Rel w I (.tup [z0,.bool false]) m (.tuple #[zv,.bool false]):=by
  simp only [Rel]; exact ⟨[zv,.bool false],rfl,by simp [qaw,Rel,hzr]⟩
 rcases hz with ⟨u,y,rfl,hz⟩ | ⟨rfl,hok,rfl⟩
 ·simp only [Rel] at hr
  obtain ⟨yv,rfl,hr⟩:=hr
  rcases hz with ⟨rfl,rfl⟩ | ⟨hne,hok,rfl⟩
  ·cases ok
   ·exact qar (u:=yv) (by cases d <;> simp_all [Instr.typeAssert,run_underlying hd]) (by simpa using hr)
   ·refine qar (u:=.tuple #[yv,.bool true]) (by cases d <;> simp_all [Instr.typeAssert,run_underlying hd]) ?_
    simp only [if_true,Rel]; exact ⟨[yv,.bool true],rfl,by simp [qaw,Rel,hr]⟩
  ·subst hok
   exact qar (u:=.tuple #[zv,.bool false]) (by cases d <;> simp_all [Instr.typeAssert,run_underlying hd]) hfail
 ·simp only [Rel] at hr; subst hr; subst hok
  exact qar (u:=.tuple #[zv,.bool false]) (by cases d <;> simp_all [Instr.typeAssert,run_underlying hd]) hfail
theorem qWO {vs:List AV} {v:Value} (hr:Rel w I (.tup vs) m v) {i:Nat} {z:AV} (hz:vs[i]? = some z):Gives P w I m (do pure (.value (<- Instr.extract v i))) z:=by
 simp only [Rel] at hr
 obtain ⟨us,rfl,hr⟩:=hr
 obtain ⟨u,hu,hr'⟩:=qbf hr i z hz
 exact qar (u:=u) (by simp [Instr.extract,hu]) hr'
theorem qA5 {g:AV -> AV -> Option AV} {G:Value -> Value -> Sem Value} (hG:∀ x y z u v,g x y = some z -> Rel w I x m u -> Rel w I y m v -> ∃ r,(G u v).run P w = .ok r w /\ Rel w I z m r) :
  ∀ {ys:List AV} {vs:List Value},qaw w I ys m vs -> ∀ {x z:AV} {u:Value},Rel w I x m u -> qqi g x ys = some z -> ∃ r,(vs.foldlM G u).run P w = .ok r w /\ Rel w I z m r
 | [],vs,h,x,z,u,hx,hf=>by
  simp only [qaw] at h; subst h
  simp [qqi] at hf; subst hf
  exact ⟨u,by simp,hx⟩
 | y :: ys,vs,h,x,z,u,hx,hf=>by
  simp only [qaw] at h
  obtain ⟨v,vs',rfl,hy,h⟩:=h
  simp only [qqi] at hf
  split at hf
  ·rename_i q hq
   obtain ⟨r,hr,hrel⟩:=hG _ _ _ _ _ hq hx hy
   obtain ⟨r',hr',hrel'⟩:=qA5 hG h hrel hf
   exact ⟨r',by simp [hr,hr'],hrel'⟩
  ·cases hf
theorem qWR {xs:List AV} {vs:List Value} (h:qaw w I xs m vs) {z x:AV} {ys:List AV} (hx:xs = x :: ys) (hf:qqi qW8 x ys = some z) (ts:Array TypeId) (t:TypeId) :
  Gives P w I m (do pure (.value (<- Builtin.max_ ts t vs.toArray))) z:=by
 subst hx
 simp only [qaw] at h
 obtain ⟨v,vs',rfl,hx,h⟩:=h
 obtain ⟨r,hr,hrel⟩:=qA5 (P:=P) (G:=Builtin.max2) (fun x y z u v hz hx hy=>by
  cases x <;> cases y <;> simp only [qW8,reduceCtorEq] at hz
  simp only [Rel] at hx hy
  subst hx; subst hy
  split at hz
  ·simp at hz; subst hz
   exact ⟨_,by simp [Builtin.max2]; rfl,by simp [Rel]⟩
  ·cases hz) h hx hf
 exact qar (u:=r) (by simp [Builtin.max_,hr]) hrel
theorem qWS {xs:List AV} {vs:List Value} (h:qaw w I xs m vs) {z x:AV} {ys:List AV} (hx:xs = x :: ys) (hf:qqi qXa x ys = some z) (ts:Array TypeId) (t:TypeId) :
  Gives P w I m (do pure (.value (<- Builtin.min_ ts t vs.toArray))) z:=by
 subst hx
 simp only [qaw] at h
 obtain ⟨v,vs',rfl,hx,h⟩:=h
 obtain ⟨r,hr,hrel⟩:=qA5 (P:=P) (G:=Builtin.min2) (fun x y z u v hz hx hy=>by
  cases x <;> cases y <;> simp only [qXa,reduceCtorEq] at hz
  simp only [Rel] at hx hy
  subst hx; subst hy
  split at hz
  ·simp at hz; subst hz
   exact ⟨_,by simp [Builtin.min2]; rfl,by simp [Rel]⟩
  ·cases hz) h hx hf
 exact qar (u:=r) (by simp [Builtin.min_,hr]) hrel
end
end Go.Eng
namespace Go.Eng
set_option linter.unusedSectionVars false
variable [Globs]
theorem qd3 (h:Heap) (i j:Nat):qad (qqk h i) j = if j = i then none else qad h j:=by
 induction h with
 | nil=>simp [qqk,qad]
 | cons p h ih=>
  obtain ⟨k,b⟩:=p
  simp only [qqk]
  by_cases hk:i = k
  ·subst hk
   simp only [if_true,ih,qad]
   by_cases hj:j = i <;> simp [hj]
  ·simp only [hk,if_false,qad,ih]
   by_cases hj:j = k
   ·subst hj
    have:¬ j = i:=fun e=>hk e.symm
    simp [this]
   ·simp [hj]
theorem qaP (h:Heap) (i:Nat) (b:Blk) (j:Nat):qad (qbu h i b) j = if j = i then some b else qad h j:=by
 simp only [qbu,qad,qd3]
 by_cases hj:j = i <;> simp [hj]
theorem qaZ (h:Heap) (r:List Nat) (j:Nat):qad (qaM h r) j = if j ∈ r then none else qad h j:=by
 induction r with
 | nil=>simp [qaM]
 | cons i r ih=>
  simp only [qaM,qd3,ih,List.mem_cons]
  by_cases h1:j = i <;> by_cases h2:j ∈ r <;> simp [h1,h2]
theorem qaN (h g:Heap) (j:Nat):qad (h ++ g) j = match qad h j with
  | some b=>some b
  | none=>qad g j:=by
 induction h with
 | nil=>simp [qad]
 | cons p h ih=>
  obtain ⟨k,b⟩:=p
  simp only [List.cons_append,qad]
  by_cases hj:j = k <;> simp [hj,ih]
theorem qa6 (h:Heap) (r:List Nat) (j:Nat):qad (sub h r) j = if j ∈ r then qad h j else none:=by
 induction r with
 | nil=>simp [sub,qad]
 | cons i r ih=>
  simp only [sub,List.mem_cons]
  cases hi:qad h i with
  | none=>
   simp only [ih]
   by_cases h1:j = i
   ·subst h1; simp [hi]
   ·simp [h1]
  | some b=>
   simp only [qad,ih]
   by_cases h1:j = i
   ·subst h1; simp [hi]
   ·simp [h1]
theorem BlkAt.keep {w w':World} {I I':Imm} {m m':Names} {L:Loc} {b:Blk} (h:BlkAt w I m L b) (s:Stays w w' I) (hI:∀ b o,I b o -> I' b o) (hm:∀ i L,m i = some L -> m' i = some L)
  (hheap:w'.heap[L.blk]? = w.heap[L.blk]?) (hn:∀ o,I' L.blk o -> I L.blk o):BlkAt w' I' m' L b:=by
 cases b with
 | box cs fz=>
  obtain ⟨h1,h2,C,e,hC,hsz,hcell,hfz⟩:=h
  refine ⟨h1,h2,C,e,hheap.trans hC,hsz,fun i c hc=>?_,?_⟩
  ·obtain ⟨v,hv,hr⟩:=hcell i c hc
   exact ⟨v,hv,qaA s hI c hm hr⟩
  ·cases fz
   ·simp only [Bool.false_eq_true,if_false] at hfz ⊢; exact fun o ho=>hfz o (hn o ho)
   ·simp only [if_true] at hfz ⊢; exact fun i hi=>hI _ _ (hfz i hi)
 | arr sz es fz=>
  obtain ⟨h1,h2,h3,C,e,hC,hsz,hcell,hfz⟩:=h
  refine ⟨h1,h2,h3,C,e,hheap.trans hC,hsz,fun i c hc=>?_,?_⟩
  ·obtain ⟨v,hv,hk,hr⟩:=hcell i c hc
   exact ⟨v,hv,hk,qaA s hI c (fun _ _ h=>h) hr⟩
  ·cases fz
   ·simp only [Bool.false_eq_true,if_false] at hfz ⊢; exact fun o ho=>hfz o (hn o ho)
   ·simp only [if_true] at hfz ⊢; exact fun i hi=>hI _ _ (hfz i hi)
 | mp kvs=>
  obtain ⟨es,clock,kvs0,hM,hC,hsz,hcell⟩:=h
  refine ⟨es,clock,kvs0,hM,hheap.trans hC,hsz,fun i kv hkv=>?_⟩
  obtain ⟨x,hx,h1,h2⟩:=hcell i kv hkv
  exact ⟨x,hx,qaA s hI _ (fun _ _ h=>h) h1,qaA s hI _ (fun _ _ h=>h) h2⟩
theorem BlkAt.lt {w:World} {I:Imm} {m:Names} {L:Loc} {b:Blk} (h:BlkAt w I m L b):L.blk < w.heap.size:=by
 have key:∀ o,w.heap[L.blk]? = some o -> L.blk < w.heap.size:=fun o ho=>(Array.getElem?_eq_some_iff.1 ho).1
 cases b with
 | box cs fz=>obtain ⟨_,_,C,e,hC,_⟩:=h; exact key _ hC
 | arr sz es fz=>obtain ⟨_,_,_,C,e,hC,_⟩:=h; exact key _ hC
 | mp kvs=>obtain ⟨es,clock,_,_,hC,_⟩:=h; exact key _ hC
structure After (w w':World) (I I':Imm) (m m':Names) (h h':Heap) (nx:Nat):Prop where
 stays:Stays w w' I
 imm:∀ b o,I b o -> I' b o
 names:∀ i L,m i = some L -> m' i = some L
 fresh:∀ i,m i = none -> m' i ≠ none -> nx <= i /\ i < nx + 16
 heap:HeapAt w' I' m' h'
 frame:∀ b,b < w.heap.size -> ¬ Owns m h b -> w'.heap[b]? = w.heap[b]?
 newI:∀ b o,I' b o -> I b o \/ Owns m h b \/ w.heap.size <= b
 owns:∀ b,Owns m' h' b -> Owns m h b \/ w.heap.size <= b
 dom:∀ i b,qad h' i = some b -> (∃ a,qad h i = some a) \/ m i = none
section
variable {P:Program} {w:World} {I:Imm} {m:Names} {h:Heap} {nx:Nat}
theorem HeapAt.lt (H:HeapAt w I m h) {b:Nat} (ho:Owns m h b):b < w.heap.size:=by
 obtain ⟨i,a,L,hi,hL,rfl⟩:=ho
 obtain ⟨L',hL',hat⟩:=H.at_ i a hi
 rw [hL] at hL'; cases hL'
 exact hat.lt
theorem After.same (H:HeapAt w I m h):After w w I I m m h h nx where
 stays:=Stays.refl w I
 imm:=fun _ _ h=>h
 names:=fun _ _ h=>h
 fresh:=fun i h1 h2=>absurd h1 h2
 heap:=H
 frame:=fun _ _ _=>rfl
 newI:=fun _ _ h=>.inl h
 owns:=fun _ h=>.inl h
 dom:=fun i b hb=>.inl ⟨b,hb⟩
theorem After.trans {w1 w2:World} {I1 I2:Imm} {m1 m2:Names} {h1 h2:Heap} (a:After w w1 I I1 m m1 h h1 nx) (b:After w1 w2 I1 I2 m1 m2 h1 h2 nx):After w w2 I I2 m m2 h h2 nx where
 stays:=a.stays.trans b.stays a.imm
 imm:=fun _ _ h=>b.imm _ _ (a.imm _ _ h)
 names:=fun _ _ h=>b.names _ _ (a.names _ _ h)
 fresh:=fun i hi hn=>by
  cases h1':m1 i with
  | none=>exact b.fresh i h1' hn
  | some L=>exact a.fresh i hi (by rw [h1']; simp)
 heap:=b.heap
 frame:=fun k hk hno=>by
  have h1':¬ Owns m1 h1 k:=fun ho=>by
   rcases a.owns k ho with ho | hge
   ·exact hno ho
   ·omega
  exact (b.frame k (Nat.lt_of_lt_of_le hk a.stays.size) h1').trans (a.frame k hk hno)
 newI:=fun k o hi=>by
  rcases b.newI k o hi with hi | ho | hge
  ·exact a.newI k o hi
  ·rcases a.owns k ho with ho | hge
   ·exact .inr (.inl ho)
   ·exact .inr (.inr hge)
  ·exact .inr (.inr (Nat.le_trans a.stays.size hge))
 owns:=fun k ho=>by
  rcases b.owns k ho with ho | hge
  ·exact a.owns k ho
  ·exact .inr (Nat.le_trans a.stays.size hge)
 dom:=fun i k hi=>by
  rcases b.dom i k hi with ⟨x,hx⟩ | hn
  ·exact a.dom i x hx
  ·cases hm:m i with
   | none=>exact .inr rfl
   | some L=>rw [a.names i L hm] at hn; cases hn
theorem qdh (H:HeapAt w I m h) (o:Obj):Stays w (w.alloc o) I where
 size:=by simp
 row:=fun b C e hC=>⟨C,by rw [heap_alloc_old w o b (Array.getElem?_eq_some_iff.1 hC).1]; exact hC,rfl⟩
 imm:=fun b k hi=>World.cell?_alloc_lt w o (ad b k) (H.old b k hi)
 out:=⟨rfl,rfl,rfl⟩
def named (m:Names) (nx:Nat) (L:Loc):Names:=fun i=>if i = nx then some L else m i
theorem qeG (hnx:m nx = none) (L:Loc):∀ i L',m i = some L' -> named m nx L i = some L':=by
 intro i L' hi
 unfold named
 split
 ·rename_i e; subst e; rw [hnx] at hi; cases hi
 ·exact hi
theorem After.alloc (H:HeapAt w I m h) (hnx:m nx = none) (o:Obj) (L:Loc) (hL:L.blk = w.heap.size) (b:Blk) (hb:BlkAt (w.alloc o) I (named m nx L) L b) :
  After w (w.alloc o) I I m (named m nx L) h (qbu h nx b) nx where
 stays:=qdh H o
 imm:=fun _ _ h=>h
 names:=qeG hnx L
 fresh:=fun i h1 h2=>by
  unfold named at h2
  split at h2
  ·omega
  ·exact absurd h1 h2
 heap:=by
  have hn:∀ i a,qad h i = some a -> i ≠ nx:=fun i a hi e=>by
   obtain ⟨L',hL',_⟩:=H.at_ i a hi
   rw [e,hnx] at hL'; cases hL'
  constructor
  ·intro i a hi
   rw [qaP] at hi
   by_cases e:i = nx
   ·subst e
    simp at hi; subst hi
    exact ⟨L,by simp [named],hb⟩
   ·rw [if_neg e] at hi
    obtain ⟨L',hL',hat⟩:=H.at_ i a hi
    exact ⟨L',qeG hnx L i L' hL',hat.keep (qdh H o) (fun _ _ h=>h) (qeG hnx L) (heap_alloc_old w o _ hat.lt) fun _ h=>h⟩
  ·intro i j a b' L1 L2 hi hj hL1 hL2 he
   rw [qaP] at hi hj
   by_cases ei:i = nx <;> by_cases ej:j = nx
   ·rw [ei,ej]
   ·rw [if_neg ej] at hj
    obtain ⟨L',hL',hat⟩:=H.at_ j b' hj
    have:=hat.lt
    simp only [named,if_neg ej] at hL2
    rw [hL2] at hL'; cases hL'
    simp only [named,if_pos ei,Option.some.injEq] at hL1
    subst hL1; omega
   ·rw [if_neg ei] at hi
    obtain ⟨L',hL',hat⟩:=H.at_ i a hi
    have:=hat.lt
    simp only [named,if_neg ei] at hL1
    rw [hL1] at hL'; cases hL'
    simp only [named,if_pos ej,Option.some.injEq] at hL2
    subst hL2; omega
   ·rw [if_neg ei] at hi; rw [if_neg ej] at hj
    simp only [named,if_neg ei] at hL1
    simp only [named,if_neg ej] at hL2
    exact H.apart i j a b' L1 L2 hi hj hL1 hL2 he
  ·intro b' o' hi
   have:=H.old b' o' hi
   simp; omega
  ·exact H.glob.mono (qdh H o) fun _ _ h=>h
 frame:=fun k hk _=>heap_alloc_old w o k hk
 newI:=fun _ _ h=>.inl h
 owns:=fun k ho=>by
  obtain ⟨i,a,L',hi,hL',rfl⟩:=ho
  rw [qaP] at hi
  by_cases e:i = nx
  ·simp only [named,if_pos e,Option.some.injEq] at hL'
   subst hL'; exact .inr (by omega)
  ·rw [if_neg e] at hi
   simp only [named,if_neg e] at hL'
   exact .inl ⟨i,a,L',hi,hL',rfl⟩
 dom:=fun i a hi=>by
  rw [qaP] at hi
  by_cases e:i = nx
  ·subst e; exact .inr hnx
  ·rw [if_neg e] at hi; exact .inl ⟨a,hi⟩
theorem After.drew {w':World} {I':Imm} {m':Names} {h':Heap} (a:After w.drew w' I I' m m' h h' nx):After w w' I I' m m' h h' nx:=
 ⟨⟨a.stays.size,a.stays.row,a.stays.imm,a.stays.out⟩,a.imm,a.names,a.fresh,a.heap,a.frame,a.newI,a.owns,a.dom⟩
theorem HeapAt.drew (H:HeapAt w I m h):HeapAt w.drew I m h:=by
 have s:Stays w w.drew I:=⟨Nat.le_refl _,fun _ C _ h=>⟨C,h,rfl⟩,fun _ _ _=>rfl,⟨rfl,rfl,rfl⟩⟩
 exact ⟨fun i b hi=>by
  obtain ⟨L,hL,hat⟩:=H.at_ i b hi
  exact ⟨L,hL,hat.keep s (fun _ _ h=>h) (fun _ _ h=>h) rfl fun _ h=>h⟩,H.apart,H.old,H.glob.mono s fun _ _ h=>h⟩
theorem qaW (H:HeapAt w I m h) {g:Nat} {C C':Array Value} {e:TypeId} (hC:w.heap[g]? = some (.cells C e (0,0))) (hs:C'.size = C.size) (hlive:∀ o,¬ I g o):Stays w (w.setRow g C') I where
 size:=by simp
 row:=fun b D f hD=>by
  by_cases hb:b = g
  ·subst hb
   rw [hC] at hD; cases hD
   exact ⟨C',setRow_heap w b _ C' _ _ hC,hs⟩
  ·exact ⟨D,by rw [setRow_other w g b C' hb]; exact hD,rfl⟩
 imm:=fun b o hi=>by
  have hb:b ≠ g:=fun e=>hlive o (e ▸ hi)
  simp only [World.cell?,ad]
  rw [setRow_other w g b C' hb]
 out:=⟨rfl,rfl,rfl⟩
theorem After.write (H:HeapAt w I m h) {id:Nat} {old new:Blk} (hid:qad h id = some old) {L:Loc} (hL:m id = some L) (hlive:∀ o,¬ I L.blk o) {C C':Array Value} {e:TypeId}
  (hC:w.heap[L.blk]? = some (.cells C e (0,0))) (hs:C'.size = C.size) (hnew:BlkAt (w.setRow L.blk C') I m L new):After w (w.setRow L.blk C') I I m m h (qbu h id new) nx where
 stays:=qaW H hC hs hlive
 imm:=fun _ _ h=>h
 names:=fun _ _ h=>h
 fresh:=fun i h1 h2=>absurd h1 h2
 heap:=by
  constructor
  ·intro i a hi
   rw [qaP] at hi
   by_cases ei:i = id
   ·subst ei
    simp at hi; subst hi
    exact ⟨L,hL,hnew⟩
   ·rw [if_neg ei] at hi
    obtain ⟨L',hL',hat⟩:=H.at_ i a hi
    have hne:L'.blk ≠ L.blk:=fun he=>ei (H.apart i id a old L' L hi hid hL' hL he)
    exact ⟨L',hL',hat.keep (qaW H hC hs hlive) (fun _ _ h=>h) (fun _ _ h=>h) (setRow_other w _ _ _ hne) fun _ h=>h⟩
  ·intro i j a b L1 L2 hi hj hL1 hL2 he
   rw [qaP] at hi hj
   have hi':∃ a,qad h i = some a:=by
    by_cases ei:i = id
    ·exact ⟨old,ei ▸ hid⟩
    ·rw [if_neg ei] at hi; exact ⟨a,hi⟩
   have hj':∃ a,qad h j = some a:=by
    by_cases ej:j = id
    ·exact ⟨old,ej ▸ hid⟩
    ·rw [if_neg ej] at hj; exact ⟨b,hj⟩
   obtain ⟨a',hi'⟩:=hi'
   obtain ⟨b',hj'⟩:=hj'
   exact H.apart i j a' b' L1 L2 hi' hj' hL1 hL2 he
  ·intro b o hi; simpa using H.old b o hi
  ·exact H.glob.mono (qaW H hC hs hlive) fun _ _ h=>h
 frame:=fun k hk hno=>setRow_other w _ k _ fun e=>hno ⟨id,old,L,hid,hL,e.symm⟩
 newI:=fun _ _ h=>.inl h
 owns:=fun k ho=>by
  obtain ⟨i,a,L',hi,hL',rfl⟩:=ho
  rw [qaP] at hi
  by_cases ei:i = id
  ·exact .inl ⟨i,old,L',ei ▸ hid,hL',rfl⟩
  ·rw [if_neg ei] at hi; exact .inl ⟨i,a,L',hi,hL',rfl⟩
 dom:=fun i a hi=>by
  rw [qaP] at hi
  by_cases ei:i = id
  ·exact .inl ⟨old,ei ▸ hid⟩
  ·rw [if_neg ei] at hi; exact .inl ⟨a,hi⟩
def Does (P:Program) (w:World) (I:Imm) (m:Names) (h:Heap) (nx:Nat) (s:Sem Next) (v:AV) (h':Heap):Prop:=
 ∃ n w' I' m',s.run P w = .ok n w' /\ After w w' I I' m m' h h' nx /\ ((∃ u,n = .value u /\ Rel w' I' v m' u) \/ (n = .skip /\ v = unit))
theorem Gives.does (H:HeapAt w I m h) {s:Sem Next} {v:AV} (g:Gives P w I m s v):Does P w I m h nx s v h:=by
 obtain ⟨u,hu,hr⟩:=g
 exact ⟨_,w,I,m,hu,After.same H,.inl ⟨u,rfl,hr⟩⟩
theorem qD4 {w:World} {I:Imm} {m:Names} {nx sz num:Nat} (b:Nat):Rel w I (.ref nx 0 0) (named m nx ⟨b,0,sz,num⟩) (.pointer (some (ad b 0))):=by
 simp only [Rel]
 exact ⟨⟨b,0,sz,num⟩,by simp [named],by simp⟩
theorem qzm {w:World} {I:Imm} {m:Names} {h:Heap} (H:HeapAt w I m h) {nx:Nat} (hnx:m nx = none) {cs:List AV} {us:List Value} (hr:qaw w I cs m us) (t:TypeId) :
  BlkAt (w.alloc (.cells us.toArray t)) I (named m nx ⟨w.heap.size,0,cs.length,1⟩) ⟨w.heap.size,0,cs.length,1⟩ (.box cs false):=by
 refine ⟨rfl,rfl,us.toArray,t,heap_alloc_new w _,?_,fun i c hc=>?_,?_⟩
 ·simp [qaH hr]
 ·obtain ⟨v,hv,hrel⟩:=qbf hr i c hc
  exact ⟨v,by simpa using hv,qaA (qdh H _) (fun _ _ h=>h) c (qeG hnx _) hrel⟩
 ·simp only [Bool.false_eq_true,if_false]
  intro o ho
  have:=H.old _ o ho
  exact Nat.lt_irrefl _ this
theorem qNp (H:HeapAt w I m h) (hnx:m nx = none) {t:TypeId} {z:AV} (hz:zeroOf P t = some z) (hok:qaB (qac z) = true) :
  Does P w I m h nx (do pure (.value (<- Instr.alloc t true (.tuple #[])))) (.ref nx 0 0) (qbu h nx (.box (qac z) false)):=by
 obtain ⟨v,hv,hav⟩:=qcx hz w
 have hr:Rel w I z m v:=hav _ _ _
 have hc:=qbC hr hok
 refine ⟨_,w.alloc (.cells v.cells t),I,named m nx ⟨w.heap.size,0,(qac z).length,1⟩,?_,After.alloc H hnx _ _ rfl _ ?_,.inl ⟨_,rfl,qD4 _⟩⟩
 ·simp [Instr.alloc,hv,newVar,newRow,ad]
 ·have:=qzm H hnx hc t
  simpa using this
theorem qWw (H:HeapAt w I m h) (hnx:m nx = none) {t:TypeId} {x:AV} {v:Value} (hr:Rel w I x m v) (hok:qaB (qac x) = true) :
  Does P w I m h nx (do pure (.value (<- Instr.box t v))) (.ref nx 0 0) (qbu h nx (.box (qac x) false)):=by
 have hc:=qbC hr hok
 refine ⟨_,w.alloc (.cells v.cells t),I,named m nx ⟨w.heap.size,0,(qac x).length,1⟩,?_,After.alloc H hnx _ _ rfl _ ?_,.inl ⟨_,rfl,qD4 _⟩⟩
 ·simp [Instr.box,newVar,newRow,ad]
 ·have:=qzm H hnx hc t
  simpa using this
theorem qWy (H:HeapAt w I m h) (hnx:m nx = none) :
  ∃ w' I' m',w' = w.alloc (.map #[] 0) /\ After w w' I I' m m' h (qbu h nx (.mp [])) nx /\ Rel w' I' (.mref nx) m' (.map (some w.heap.size)):=by
 refine ⟨_,I,named m nx ⟨w.heap.size,0,0,0⟩,rfl,After.alloc H hnx _ _ rfl _ ?_,?_⟩
 ·exact ⟨#[],0,[],.nil,heap_alloc_new w _,by simp,by simp⟩
 ·simp only [Rel]
  exact ⟨_,by simp [named]; rfl,rfl⟩
theorem qkM {t:TypeId} {n:Nat} (hn:qb9 P t = some n) {g o:Nat} {C:Array Value} {e:TypeId} (hC:w.heap[g]? = some (.cells C e (0,0))) {v:Value} (hv:v.cells.size = n) (h1:∀ u ∈ v.cells.toList,u.oneCell' = true)
  (hle:o + n <= C.size):(Instr.storeAt t (.pointer (some (ad g o))) v).run P w = .ok () (w.setRow g (C.toList.take o ++ v.cells.toList ++ C.toList.drop (o + n)).toArray):=by
 have hst:=run_storeCells_at P g o e v.cells.toList 0 C w hC (by simp [hv]; omega) h1
 have hl:v.cells.toList.length = n:=by simpa using hv
 simp only [Nat.add_zero,hl] at hst
 rw [<- ad] at hst
 simp only [Instr.storeAt,Instr.sureAddr,storeVar,Sem.run_bind,Sem.run_pure,Result.andThen_ok,run_sizeOf hn,hv,ne_eq,not_true_eq_false,if_false,hst]
theorem qfT {C:List Value} {us:List Value} {cs vs:List AV} {base off:Nat} (hl:us.length = vs.length) (hle:off + vs.length <= cs.length) (hC:base + cs.length <= C.length) {Q:AV -> Value -> Prop}
  (hcs:∀ (i:Nat) (c:AV),cs[i]? = some c -> ∃ v,C[base + i]? = some v /\ Q c v) (hvs:∀ (i:Nat) (c:AV),vs[i]? = some c -> ∃ v,us[i]? = some v /\ Q c v) :
  ∀ (i:Nat) (c:AV),(splice cs off vs)[i]? = some c -> ∃ v,(C.take (base + off) ++ us ++ C.drop (base + off + us.length))[base + i]? = some v /\ Q c v:=by
 intro i c hc
 unfold splice at hc
 have ht:(cs.take off).length = off:=by simp; omega
 have hT:(C.take (base + off)).length = base + off:=by simp; omega
 by_cases h1:i < off
 ·rw [List.append_assoc,List.getElem?_append_left (by omega),List.getElem?_take,if_pos h1] at hc
  obtain ⟨v,hv,hq⟩:=hcs i c hc
  refine ⟨v,?_,hq⟩
  rw [List.append_assoc,List.getElem?_append_left (by omega),List.getElem?_take,if_pos (by omega)]
  exact hv
 ·by_cases h2:i < off + vs.length
  ·rw [List.append_assoc,List.getElem?_append_right (by omega),ht,List.getElem?_append_left (by omega)] at hc
   obtain ⟨v,hv,hq⟩:=hvs _ c hc
   refine ⟨v,?_,hq⟩
   rw [List.append_assoc,List.getElem?_append_right (by omega),hT,List.getElem?_append_left (by omega)]
   rw [show base + i - (base + off) = i - off by omega]
   exact hv
  ·rw [List.getElem?_append_right (by simp; omega),List.getElem?_drop] at hc
   obtain ⟨v,hv,hq⟩:=hcs _ c hc
   refine ⟨v,?_,hq⟩
   rw [List.getElem?_append_right (by simp; omega),List.getElem?_drop]
   have e:base + off + us.length + (base + i - (C.take (base + off) ++ us).length) = base + (off + vs.length + (i - (cs.take off ++ vs).length)):=by
    simp only [List.length_append,hT,ht,hl]; omega
   rw [e]; exact hv
theorem qie {cs vs:List AV} {off:Nat} (h:off + vs.length <= cs.length):(splice cs off vs).length = cs.length:=by
 unfold splice; simp; omega
theorem qsq (H:HeapAt w I m h) {t:TypeId} {n:Nat} (hn:qb9 P t = some n) {id off:Nat} {cs:List AV} (hid:qad h id = some (.box cs false)) {u v:Value} {x:AV} (hu:Rel w I (.ref id 0 off) m u) (hx:Rel w I x m v)
  (hlen:(qac x).length = n) (hoff:off + n <= cs.length) (hok:qaB (qac x) = true) :
  Does P w I m h nx (do Instr.storeAt t u v; pure .skip) unit (qbu h id (.box (splice cs off (qac x)) false)):=by
 simp only [Rel] at hu
 obtain ⟨L,hL,rfl⟩:=hu
 obtain ⟨L',hL',hat⟩:=H.at_ id _ hid
 rw [hL] at hL'; cases hL'
 obtain ⟨h1,h2,C,e,hC,hsz,hcell,hlive⟩:=hat
 simp only [Bool.false_eq_true,if_false] at hlive
 have hc:=qbC hx hok
 have hcl:=qaH hc
 have hvs:v.cells.size = n:=by rw [<- hlen,<- hcl]; simp
 have hrun:=qkM (P:=P) hn (o:=L.base + 0 * L.sz + off) hC hvs (qdy hc hok) (by simp; omega)
 refine ⟨.skip,_,I,m,by rw [Sem.run_bind,hrun]; rfl,After.write H hid hL hlive hC ?_ ?_,.inr ⟨rfl,rfl⟩⟩
 ·simp [hvs]; omega
 ·have hs:Stays w (w.setRow L.blk (C.toList.take (L.base + 0 * L.sz + off) ++ v.cells.toList ++ C.toList.drop (L.base + 0 * L.sz + off + n)).toArray) I:=qaW H hC (by simp [hvs]; omega) hlive
  refine ⟨h1,by rw [qie (by omega)]; exact h2,_,e,setRow_heap w L.blk _ _ _ _ hC,?_,fun i c hc'=>?_,by simpa using hlive⟩
  ·rw [qie (by omega)]; simp [hvs]; omega
  ·have hg:=qfT (C:=C.toList) (us:=v.cells.toList) (base:=L.base) (off:=off) (cs:=cs) (vs:=qac x) (by simp [hvs,hlen]) (by omega) (by simp; omega) (Q:=fun c v=>Rel w I c m v)
    (fun i c hc=>by simpa using hcell i c hc) (qbf hc) i c hc'
   obtain ⟨q,hq,hr⟩:=hg
   refine ⟨q,?_,qaA hs (fun _ _ h=>h) c (fun _ _ h=>h) hr⟩
   have hln:v.cells.toList.length = n:=by simpa using hvs
   rw [hln] at hq
   simpa using hq
end
end Go.Eng
namespace Go.Eng
set_option linter.unusedSectionVars false
variable [Globs]
section
variable {P:Program} {w:World} {I:Imm} {m:Names} {h:Heap} {nx:Nat}
mutual
theorem qde:∀ (x:AV) {m m':Names} {v:Value},idsA x = [] -> Rel w I x m v -> Rel w I x m' v
 | .int ..,_,_,_,_,h=>h
 | .bool ..,_,_,_,_,h=>h
 | .str ..,_,_,_,_,h=>h
 | .nilp,_,_,_,_,h=>h
 | .nils _,_,_,_,_,h=>h
 | .nilm,_,_,_,_,h=>h
 | .nilf,_,_,_,_,h=>h
 | .nili,_,_,_,_,h=>h
 | .agg cs,_,_,_,hi,h=>by
  simp only [Rel] at h ⊢
  obtain ⟨vs,hv,h⟩:=h
  exact ⟨vs,hv,qfO cs (by simpa [idsA] using hi) h⟩
 | .tup cs,_,_,_,hi,h=>by
  simp only [Rel] at h ⊢
  obtain ⟨vs,hv,h⟩:=h
  exact ⟨vs,hv,qfO cs (by simpa [idsA] using hi) h⟩
 | .view ..,_,_,_,_,h=>by simpa only [Rel] using h
 | .ptr ..,_,_,_,_,h=>by simpa only [Rel] using h
 | .own ..,_,_,_,hi,_=>by simp [idsA] at hi
 | .ref ..,_,_,_,hi,_=>by simp [idsA] at hi
 | .mref ..,_,_,_,hi,_=>by simp [idsA] at hi
 | .fn f cs,_,_,_,hi,h=>by
  simp only [Rel] at h ⊢
  obtain ⟨vs,hv,h⟩:=h
  exact ⟨vs,hv,qfO cs (by simpa [idsA] using hi) h⟩
 | .iface t x,_,_,_,hi,h=>by
  simp only [Rel] at h ⊢
  obtain ⟨y,hv,h⟩:=h
  exact ⟨y,hv,qde x (by simpa [idsA] using hi) h⟩
 | .junk,_,_,_,_,_=>by simp [Rel]
theorem qfO:∀ (xs:List AV) {m m':Names} {vs:List Value},idsA.idsL xs = [] -> qaw w I xs m vs -> qaw w I xs m' vs
 | [],_,_,_,_,h=>h
 | x :: xs,_,_,_,hi,h=>by
  simp only [idsA.idsL,List.append_eq_nil_iff] at hi
  simp only [qaw] at h ⊢
  obtain ⟨v,vs',hv,h1,h2⟩:=h
  exact ⟨v,vs',hv,qde x hi.1 h1,qfO xs hi.2 h2⟩
end
def Shut (h:Heap) (r:List Nat):Prop:=∀ i b,i ∈ r -> qad h i = some b -> ∀ j c,j ∈ qr7 b -> qad h j = some c -> j ∈ r
theorem qeJ:∀ (n:Nat) (h:Heap) (todo seen r:List Nat),qa8 n h todo seen = some r ->
  (∀ i,i ∈ seen -> i ∈ r) /\ (∀ i b,i ∈ todo -> qad h i = some b -> i ∈ r) /\
  ((∀ i b,i ∈ seen -> qad h i = some b -> ∀ j c,j ∈ qr7 b -> qad h j = some c -> j ∈ seen \/ j ∈ todo) -> Shut h r) /\
  (∀ i,i ∈ r -> i ∈ seen \/ ∃ b,qad h i = some b)
 | n,h,[],seen,r,hr=>by
  have:seen = r:=by cases n <;> simpa [qa8] using hr
  subst this
  refine ⟨fun _ h=>h,by simp,fun hc i b hi hb j c hj hc'=>?_,fun i hi=>.inl hi⟩
  rcases hc i b hi hb j c hj hc' with h | h
  ·exact h
  ·simp at h
 | 0,h,_ :: _,seen,r,hr=>by simp [qa8] at hr
 | n + 1,h,i :: todo,seen,r,hr=>by
  simp only [qa8] at hr
  by_cases hs:seen.contains i = true
  ·rw [if_pos hs] at hr
   have hs':i ∈ seen:=by simpa using hs
   obtain ⟨h1,h2,h3,h4⟩:=qeJ n h todo seen r hr
   refine ⟨h1,fun j b hj hb=>?_,fun hc=>h3 fun j b hj hb k c hk hc'=>?_,h4⟩
   ·rcases List.mem_cons.1 hj with rfl | hj
    ·exact h1 _ hs'
    ·exact h2 j b hj hb
   ·rcases hc j b hj hb k c hk hc' with h | h
    ·exact .inl h
    ·rcases List.mem_cons.1 h with rfl | h
     ·exact .inl hs'
     ·exact .inr h
  ·rw [if_neg hs] at hr
   cases hl:qad h i with
   | none=>
    simp only [hl] at hr
    obtain ⟨h1,h2,h3,h4⟩:=qeJ n h todo seen r hr
    refine ⟨h1,fun j b hj hb=>?_,fun hc=>h3 fun j b hj hb k c hk hc'=>?_,h4⟩
    ·rcases List.mem_cons.1 hj with rfl | hj
     ·rw [hl] at hb; cases hb
     ·exact h2 j b hj hb
    ·rcases hc j b hj hb k c hk hc' with h | h
     ·exact .inl h
     ·rcases List.mem_cons.1 h with rfl | h
      ·rw [hl] at hc'; cases hc'
      ·exact .inr h
   | some b0=>
    simp only [hl] at hr
    obtain ⟨h1,h2,h3,h4⟩:=qeJ n h (todo ++ qr7 b0) (seen ++ [i]) r hr
    refine ⟨fun j hj=>h1 j (by simp [hj]),fun j b hj hb=>?_,fun hc=>h3 fun j b hj hb k c hk hc'=>?_,fun j hj=>?_⟩
    ·rcases List.mem_cons.1 hj with rfl | hj
     ·exact h1 _ (by simp)
     ·exact h2 j b (by simp [hj]) hb
    ·rcases List.mem_append.1 hj with hj | hj
     ·rcases hc j b hj hb k c hk hc' with h | h
      ·exact .inl (by simp [h])
      ·rcases List.mem_cons.1 h with rfl | h
       ·exact .inl (by simp)
       ·exact .inr (by simp [h])
     ·simp at hj; subst hj
      rw [hl] at hb; cases hb
      exact .inr (by simp [hk])
    ·rcases h4 j hj with hj | hj
     ·rcases List.mem_append.1 hj with hj | hj
      ·exact .inl hj
      ·simp at hj; subst hj; exact .inr ⟨b0,hl⟩
     ·exact .inr hj
theorem qfN {h:Heap} {n:Nat} {todo r:List Nat} (hr:qa8 n h todo [] = some r) :
  Shut h r /\ (∀ i b,i ∈ todo -> qad h i = some b -> i ∈ r) /\ ∀ i,i ∈ r -> ∃ b,qad h i = some b:=by
 obtain ⟨_,h2,h3,h4⟩:=qeJ n h todo [] r hr
 exact ⟨h3 (by simp),h2,fun i hi=>(h4 i hi).resolve_left (by simp)⟩
def known:Blk -> Nat
 | .box cs _=>cs.length
 | .arr sz es _=>es.length * sz
 | .mp _=>0
def shown (I:Imm) (m:Names) (h:Heap) (r:List Nat):Imm:=fun b o=>
 I b o \/ ∃ i blk L,i ∈ r /\ qad h i = some blk /\ m i = some L /\ L.blk = b /\ L.base <= o /\ o < L.base + known blk
theorem qbz (h:Heap) (r:List Nat) (j:Nat):qad (freeze h r) j = if j ∈ r then (qad h j).map qgy else qad h j:=by
 induction r with
 | nil=>simp [freeze]
 | cons i r ih=>
  simp only [freeze]
  cases hi:qad h i with
  | none=>
   simp only [ih,List.mem_cons]
   by_cases h1:j = i
   ·subst h1; simp [hi]
   ·simp [h1]
  | some b=>
   simp only [qaP,ih,List.mem_cons]
   by_cases h1:j = i
   ·subst h1; simp [hi]
   ·simp [h1]
theorem Cells.at_ {cs:List AV} {b o:Nat} (hc:∀ (i:Nat) (c:AV),cs[i]? = some c -> qaR c = true /\ ∃ u,w.cell? (ad b (o + i)) = some u /\ Rel w I c m0 u) (hI:∀ i,i < cs.length -> I b (o + i)):At w I cs b o:=
 fun i c h=>⟨hI i (List.getElem?_eq_some_iff.1 h).1,hc i c h⟩
theorem qa4 {I:Imm} {m:Names} {h:Heap} {r:List Nat}:∀ b o,I b o -> shown I m h r b o:=fun _ _ h=>.inl h
theorem qOx:∀ {n:Nat} {x y:AV},snap h n x = some y -> qaR x = true -> qaR y = true
 | 0,x,y,hy,_=>by simp [snap] at hy
 | n + 1,x,y,hy,hk=>by
  cases x <;> simp only [snap] at hy <;> simp only [qaR,Bool.false_eq_true] at hk
  case nils=>simp at hy; subst hy; rfl
  case own=>
   split at hy
   ·split at hy
    ·split at hy <;> simp at hy; subst hy; rfl
    ·simp at hy; subst hy; rfl
   ·cases hy
  case ref=>
   split at hy
   ·split at hy
    ·simp only [Option.map_eq_some_iff] at hy; obtain ⟨_,_,rfl⟩:=hy; rfl
    ·cases hy
   ·split at hy
    ·split at hy <;> simp at hy; subst hy; rfl
    ·cases hy
   ·cases hy
  case mref=>cases hy
  case fn=>simp only [Option.map_eq_some_iff] at hy; obtain ⟨_,_,rfl⟩:=hy; rfl
  case iface=>simp only [Option.map_eq_some_iff] at hy; obtain ⟨_,_,rfl⟩:=hy; rfl
  all_goals (simp at hy; subst hy; rfl)
theorem qvV:∀ {n:Nat} {xs ys:List AV},snap.snapL h n xs = some ys -> qaB xs = true -> qaB ys = true
 | n,[],ys,hy,_=>by simp [qeX] at hy; subst hy; rfl
 | n,x :: xs,ys,hy,hk=>by
  simp only [qeX] at hy
  split at hy
  ·rename_i y ys' h1 h2
   simp at hy; subst hy
   simp only [qaB,Bool.and_eq_true] at hk ⊢
   exact ⟨qOx h1 hk.1,qvV h2 hk.2⟩
  ·cases hy
mutual
theorem qfS (H:HeapAt w I m h) {r:List Nat} (hs:Shut h r):∀ (n:Nat) (x:AV) {v:Value} {y:AV},(∀ i b,i ∈ idsA x -> qad h i = some b -> i ∈ r) -> snap h n x = some y -> Rel w I x m v -> Rel w (shown I m h r) y m0 v
 | 0,x,v,y,_,hy,_=>by simp [snap] at hy
 | n + 1,x,v,y,hids,hy,hr=>by
  cases x <;> simp only [snap] at hy
  case nils sz=>
   simp at hy; subst hy
   simp only [Rel] at hr ⊢
   obtain ⟨b,cap,rfl,hz⟩:=qd6 hr
   exact ⟨b,cap,rfl,by simp,.inl rfl,hz⟩
  case own id off lo=>
   split at hy
   ·rename_i sz es fz hl
    have hy2:∃ len,y = .view sz ((es.drop off).take len) /\ ((lo = some len /\ off + len <= es.length) \/ (lo = none /\ len = es.length - off)):=by
     split at hy
     ·rename_i len
      split at hy
      ·rename_i hle
       simp at hy; subst hy
       exact ⟨len,by rw [qfV],.inl ⟨rfl,hle⟩⟩
      ·cases hy
     ·simp at hy; subst hy
      exact ⟨_,by rw [qfH,List.take_of_length_le (by simp)],.inr ⟨rfl,rfl⟩⟩
    obtain ⟨len,rfl,hlo⟩:=hy2
    simp only [Rel] at hr
    obtain ⟨L,hL,o,cap,C,e,rfl,hcap,ho,hnum,hC,hsize⟩:=hr
    obtain ⟨L',hL',hat⟩:=H.at_ id _ hl
    rw [hL] at hL'; cases hL'
    obtain ⟨h1,h2,h3,C',e',hC',hsz,hcell,_⟩:=hat
    rw [hC] at hC'; cases hC'
    have hlen:qa9 L.num off lo = len:=by
     rcases hlo with ⟨rfl,_⟩ | ⟨rfl,rfl⟩
     ·rfl
     ·rw [qcD,h1]
    rw [hlen] at hcap ⊢
    have hmem:id ∈ r:=hids id _ (by simp [idsA]) hl
    have hsh:∀ q,q < es.length * sz -> shown I m h r L.blk (L.base + q):=fun q hq=>.inr ⟨id,_,L,hmem,hl,hL,rfl,by omega,by simp only [known]; omega⟩
    have hA:At w (shown I m h r) (flat es) L.blk L.base:=Cells.at_ (fun i c hc=>by
     obtain ⟨u,hu,hk,hrel⟩:=hcell i c hc
     exact ⟨hk,u,by rw [qcb hC]; exact hu,qaA (Stays.refl w I) qa4 c (fun _ _ h=>h) hrel⟩) (fun i hi=>hsh i (by rw [qa5 h3] at hi; exact hi))
    have hE:qwd w (shown I m h r) sz es L.blk L.base:=qdx.2 ⟨h3,hA⟩
    have hsl:=qmM hE off len
    have hl2:((es.drop off).take len).length = len:=by rcases hlo with ⟨_,hle⟩ | ⟨_,hle⟩ <;> simp <;> omega
    simp only [Rel]
    by_cases hc0:cap = 0
    ·have hlen0:len = 0:=by omega
     subst hlen0
     exact ⟨some (ad L.blk o),cap,by simp,by simp,.inl (by simp),fun hn=>by cases hn⟩
    ·refine ⟨some (ad L.blk o),cap,by rw [hl2],by omega,.inr ⟨L.blk,o,rfl,?_⟩,fun hn=>by cases hn⟩
     rw [ho hc0,h2]; exact hsl
   ·cases hy
  case ref id idx off=>
   simp only [Rel] at hr
   obtain ⟨L,hL,rfl⟩:=hr
   split at hy
   ·rename_i cs fz hl
    split at hy
    ·rename_i hc
     obtain ⟨rfl,hoff,hok⟩:=hc
     simp only [Option.map_eq_some_iff] at hy
     obtain ⟨cs',hcs',rfl⟩:=hy
     obtain ⟨L',hL',hat⟩:=H.at_ id _ hl
     rw [hL] at hL'; cases hL'
     obtain ⟨h1,h2,C,e,hC,hsz,hcell,_⟩:=hat
     have hmem:id ∈ r:=hids id _ (by simp [idsA]) hl
     have hcells:Cells w I m cs L.blk L.base:=fun i c hc=>by
      obtain ⟨u,hu,hrel⟩:=hcell i c hc
      exact ⟨u,by rw [qcb hC]; exact hu,hrel⟩
     obtain ⟨us,hlu,hus,hrel⟩:=hcells.list
     have hL2:=qdg H hs n cs (fun i b hi hb=>hs id _ hmem hl i b (by simpa [qr7] using hi) hb) hcs' hrel
     have hlen:cs'.length = cs.length:=by rw [<- qaH hL2]; exact hlu
     have hok':=qba (qvV hcs' hok)
     have hA:At w (shown I m h r) cs' L.blk L.base:=fun i c hc=>by
      have hi:i < cs'.length:=(List.getElem?_eq_some_iff.1 hc).1
      obtain ⟨u,hu,hru⟩:=qbf hL2 i c hc
      refine ⟨.inr ⟨id,_,L,hmem,hl,hL,rfl,by omega,by simp only [known]; omega⟩,hok' c (List.mem_of_getElem? hc),u,?_,hru⟩
      have:=hus i u hu
      rwa [qdV] at this
     simp only [Rel]
     refine ⟨L.blk,L.base + 0 * L.sz + off,rfl,qbr.2 ?_⟩
     have:=qjC hA off
     simpa using this
    ·cases hy
   ·rename_i sz es fz hl
    obtain ⟨L',hL',hat⟩:=H.at_ id _ hl
    rw [hL] at hL'; cases hL'
    obtain ⟨h1,h2,h3,C,e,hC,hsz,hcell,_⟩:=hat
    have hmem:id ∈ r:=hids id _ (by simp [idsA]) hl
    split at hy
    ·rename_i e0 he
     split at hy
     ·rename_i hoff
      simp at hy; subst hy
      have hsh:∀ q,q < es.length * sz -> shown I m h r L.blk (L.base + q):=fun q hq=>.inr ⟨id,_,L,hmem,hl,hL,rfl,by omega,by simp only [known]; omega⟩
      have hA:At w (shown I m h r) (flat es) L.blk L.base:=Cells.at_ (fun i c hc=>by
       obtain ⟨u,hu,hk,hrel⟩:=hcell i c hc
       exact ⟨hk,u,by rw [qcb hC]; exact hu,qaA (Stays.refl w I) qa4 c (fun _ _ h=>h) hrel⟩) (fun i hi=>hsh i (by rw [qa5 h3] at hi; exact hi))
      simp only [Rel]
      refine ⟨L.blk,_,rfl,qbr.2 ?_⟩
      rw [h2]
      exact qjC (qzN h3 hA he) off
     ·cases hy
    ·cases hy
   ·cases hy
  case mref id=>cases hy
  case agg cs=>
   simp only [Option.map_eq_some_iff] at hy
   obtain ⟨cs',hcs',rfl⟩:=hy
   simp only [Rel] at hr ⊢
   obtain ⟨us,rfl,hr⟩:=hr
   exact ⟨us,rfl,qdg H hs n cs (fun i b hi hb=>hids i b (by simpa [idsA] using hi) hb) hcs' hr⟩
  case tup cs=>
   simp only [Option.map_eq_some_iff] at hy
   obtain ⟨cs',hcs',rfl⟩:=hy
   simp only [Rel] at hr ⊢
   obtain ⟨us,rfl,hr⟩:=hr
   exact ⟨us,rfl,qdg H hs n cs (fun i b hi hb=>hids i b (by simpa [idsA] using hi) hb) hcs' hr⟩
  case fn f cs=>
   simp only [Option.map_eq_some_iff] at hy
   obtain ⟨cs',hcs',rfl⟩:=hy
   simp only [Rel] at hr ⊢
   obtain ⟨us,rfl,hr⟩:=hr
   exact ⟨us,rfl,qdg H hs n cs (fun i b hi hb=>hids i b (by simpa [idsA] using hi) hb) hcs' hr⟩
  case iface t x=>
   simp only [Option.map_eq_some_iff] at hy
   obtain ⟨x',hx',rfl⟩:=hy
   simp only [Rel] at hr ⊢
   obtain ⟨u,rfl,hr⟩:=hr
   exact ⟨u,rfl,qfS H hs n x (fun i b hi hb=>hids i b (by simpa [idsA] using hi) hb) hx' hr⟩
  all_goals
   simp at hy; subst hy
   exact qde _ (by simp [idsA]) (qaA (Stays.refl w I) qa4 _ (fun _ _ h=>h) hr)
theorem qdg (H:HeapAt w I m h) {r:List Nat} (hs:Shut h r):∀ (n:Nat) (xs:List AV) {vs:List Value} {ys:List AV},(∀ i b,i ∈ idsA.idsL xs -> qad h i = some b -> i ∈ r) -> snap.snapL h n xs = some ys -> qaw w I xs m vs -> qaw w (shown I m h r) ys m0 vs
 | n,[],vs,ys,_,hy,hr=>by
  simp [qeX] at hy; subst hy
  simpa [qaw] using hr
 | n,x :: xs,vs,ys,hids,hy,hr=>by
  simp only [qeX] at hy
  split at hy
  ·rename_i y ys' h1 h2
   simp at hy; subst hy
   simp only [qaw] at hr ⊢
   obtain ⟨v,vs',rfl,hv,hr⟩:=hr
   exact ⟨v,vs',rfl,qfS H hs n x (fun i b hi hb=>hids i b (by simp [idsA.idsL,hi]) hb) h1 hv,
    qdg H hs n xs (fun i b hi hb=>hids i b (by simp [idsA.idsL,hi]) hb) h2 hr⟩
  ·cases hy
end
theorem After.showing (H:HeapAt w I m h) {r:List Nat}:After w w I (shown I m h r) m m h (freeze h r) nx where
 stays:=Stays.refl w I
 imm:=qa4
 names:=fun _ _ h=>h
 fresh:=fun i h1 h2=>absurd h1 h2
 heap:=by
  have hlookf:∀ i b,qad (freeze h r) i = some b -> ∃ a,qad h i = some a /\ (b = a /\ i ∉ r \/ b = qgy a /\ i ∈ r):=by
   intro i b hi
   rw [qbz] at hi
   by_cases hr:i ∈ r
   ·rw [if_pos hr] at hi
    simp only [Option.map_eq_some_iff] at hi
    obtain ⟨a,ha,rfl⟩:=hi
    exact ⟨a,ha,.inr ⟨rfl,hr⟩⟩
   ·rw [if_neg hr] at hi
    exact ⟨b,hi,.inl ⟨rfl,hr⟩⟩
  constructor
  ·intro i b hi
   obtain ⟨a,ha,hb⟩:=hlookf i b hi
   obtain ⟨L,hL,hat⟩:=H.at_ i a ha
   refine ⟨L,hL,?_⟩
   rcases hb with ⟨rfl,hr⟩ | ⟨rfl,hr⟩
   ·refine hat.keep (Stays.refl w I) qa4 (fun _ _ h=>h) rfl fun o ho=>?_
    rcases ho with ho | ⟨j,blk,L',hj,hlj,hLj,he,_⟩
    ·exact ho
    ·exact absurd (H.apart j i blk _ L' L hlj ha hLj hL he ▸ hj) hr
   ·have hsh:∀ q,q < known a -> shown I m h r L.blk (L.base + q):=fun q hq=>.inr ⟨i,a,L,hr,ha,hL,rfl,by omega,by omega⟩
    cases a with
    | box cs fz=>
     obtain ⟨h1,h2,C,e,hC,hsz,hcell,_⟩:=hat
     refine ⟨h1,h2,C,e,hC,hsz,fun i c hc=>?_,?_⟩
     ·obtain ⟨v,hv,hrel⟩:=hcell i c hc
      exact ⟨v,hv,qaA (Stays.refl w I) qa4 c (fun _ _ h=>h) hrel⟩
     ·simp only [if_true]; exact fun i hi=>hsh i hi
    | arr sz es fz=>
     obtain ⟨h1,h2,h3,C,e,hC,hsz,hcell,_⟩:=hat
     refine ⟨h1,h2,h3,C,e,hC,hsz,fun i c hc=>?_,?_⟩
     ·obtain ⟨v,hv,hk,hrel⟩:=hcell i c hc
      exact ⟨v,hv,hk,qaA (Stays.refl w I) qa4 c (fun _ _ h=>h) hrel⟩
     ·simp only [if_true]; exact fun i hi=>hsh i hi
    | mp kvs=>
     obtain ⟨es,clock,kvs0,hM,hC,hsz,hcell⟩:=hat
     refine ⟨es,clock,kvs0,hM,hC,hsz,fun i kv hkv=>?_⟩
     obtain ⟨x,hx,h1,h2⟩:=hcell i kv hkv
     exact ⟨x,hx,qaA (Stays.refl w I) qa4 _ (fun _ _ h=>h) h1,qaA (Stays.refl w I) qa4 _ (fun _ _ h=>h) h2⟩
  ·intro i j a b L L' hi hj hL hL' he
   obtain ⟨a',ha,_⟩:=hlookf i a hi
   obtain ⟨b',hb,_⟩:=hlookf j b hj
   exact H.apart i j a' b' L L' ha hb hL hL' he
  ·intro b o hi
   rcases hi with hi | ⟨i,blk,L,hr,hl,hL,rfl,_⟩
   ·exact H.old b o hi
   ·exact H.lt ⟨i,blk,L,hl,hL,rfl⟩
  ·exact H.glob.mono (Stays.refl w I) qa4
 frame:=fun _ _ _=>rfl
 newI:=fun b o hi=>by
  rcases hi with hi | ⟨i,blk,L,hr,hl,hL,rfl,_⟩
  ·exact .inl hi
  ·exact .inr (.inl ⟨i,blk,L,hl,hL,rfl⟩)
 owns:=fun b ho=>by
  obtain ⟨i,a,L,hi,hL,rfl⟩:=ho
  rw [qbz] at hi
  by_cases hr:i ∈ r
  ·rw [if_pos hr] at hi
   simp only [Option.map_eq_some_iff] at hi
   obtain ⟨a',ha,rfl⟩:=hi
   exact .inl ⟨i,a',L,ha,hL,rfl⟩
  ·rw [if_neg hr] at hi
   exact .inl ⟨i,a,L,hi,hL,rfl⟩
 dom:=fun i b hi=>by
  rw [qbz] at hi
  by_cases hr:i ∈ r
  ·rw [if_pos hr] at hi
   simp only [Option.map_eq_some_iff] at hi
   obtain ⟨a',ha,rfl⟩:=hi
   exact .inl ⟨a',ha⟩
  ·rw [if_neg hr] at hi
   exact .inl ⟨b,hi⟩
theorem qgL (H:HeapAt w I m h) {x:AV} {v:Value} (hr:Rel w I x m v) {y:AV} {h':Heap} (hs:still h x = some (y,h')) :
  ∃ I',After w w I I' m m h h' nx /\ Rel w I' y m0 v /\ ∀ i,qad h' i = qad h i \/ qad h' i = (qad h i).map qgy:=by
 simp only [still] at hs
 split at hs
 ·rename_i hi
  simp at hs
  obtain ⟨rfl,rfl⟩:=hs
  exact ⟨I,After.same H,qde _ (by rw [qrf]; exact hi) (qfs _ hr),fun i=>.inl rfl⟩
 ·split at hs
  ·rename_i y' r h1 h2
   simp at hs
   obtain ⟨rfl,rfl⟩:=hs
   obtain ⟨hsh,htodo,_⟩:=qfN h2
   refine ⟨shown I m h r,After.showing H,qfS H hsh _ x htodo h1 hr,fun i=>?_⟩
   rw [qbz]
   split
   ·exact .inr rfl
   ·exact .inl rfl
  ·cases hs
theorem qiB:∀ {xs:List AV} {w:World} {I:Imm} {m:Names} {h:Heap} {nx:Nat} (_:HeapAt w I m h) {vs:List Value},qaw w I xs m vs -> ∀ {ys:List AV} {h':Heap},qmZ h xs = some (ys,h') ->
  ∃ I',After w w I I' m m h h' nx /\ qaw w I' ys m0 vs
 | [],w,I,m,h,nx,H,vs,hr,ys,h',hs=>by
  simp [qmZ] at hs
  obtain ⟨rfl,rfl⟩:=hs
  exact ⟨I,After.same H,by simpa [qaw] using hr⟩
 | x :: xs,w,I,m,h,nx,H,vs,hr,ys,h',hs=>by
  simp only [qmZ] at hs
  split at hs
  ·rename_i y h1 hy
   split at hs
   ·rename_i ys' h2 hys
    simp at hs
    obtain ⟨rfl,rfl⟩:=hs
    simp only [qaw] at hr
    obtain ⟨v,vs',rfl,hv,hr⟩:=hr
    obtain ⟨I1,a1,r1,_⟩:=qgL (nx:=nx) H hv hy
    obtain ⟨I2,a2,r2⟩:=qiB (nx:=nx) a1.heap (qd9 a1.stays a1.imm xs (fun _ _ h=>h) hr) hys
    refine ⟨I2,a1.trans a2,?_⟩
    simp only [qaw]
    exact ⟨v,vs',rfl,qaA a2.stays a2.imm y (fun _ _ h=>h) r1,r2⟩
   ·cases hs
  ·cases hs
end
end Go.Eng
namespace Go.Eng
set_option linter.unusedSectionVars false
variable [Globs]
section
variable {P:Program} {w:World} {I:Imm} {m:Names} {h:Heap} {nx:Nat}
theorem quP {sz:Nat} {es:List AV} (hs:∀ e ∈ es,(qac e).length = sz) {i:Nat} {e e':AV} (he:es[i]? = some e) :
  ∃ A B,flat es = A ++ qac e ++ B /\ A.length = i * sz /\ flat (es.set i e') = A ++ qac e' ++ B:=by
 induction es generalizing i with
 | nil=>simp at he
 | cons x es ih=>
  have hx:(qac x).length = sz:=hs x (by simp)
  cases i with
  | zero=>
   simp at he; subst he
   exact ⟨[],flat es,rfl,by simp,rfl⟩
  | succ i=>
   obtain ⟨A,B,h1,h2,h3⟩:=ih (fun e he=>hs e (by simp [he])) (by simpa using he)
   refine ⟨qac x ++ A,B,?_,?_,?_⟩
   ·show qac x ++ flat es = _
    rw [h1]; simp
   ·simp [h2,hx,Nat.add_mul]; omega
   ·show qac x ++ flat (es.set i e') = _
    rw [h3]; simp
theorem qmR (A X B V:List AV) (off:Nat) (hle:off + V.length <= X.length):splice (A ++ X ++ B) (A.length + off) V = A ++ splice X off V ++ B:=by
 unfold splice
 have h1:(A ++ X ++ B).take (A.length + off) = A ++ X.take off:=by
  rw [List.append_assoc,List.take_append,List.take_of_length_le (by omega),show A.length + off - A.length = off by omega,List.take_append_of_le_length (by omega)]
 have h2:(A ++ X ++ B).drop (A.length + off + V.length) = X.drop (off + V.length) ++ B:=by
  rw [List.append_assoc,List.drop_append,List.drop_eq_nil_of_le (by omega),List.nil_append,show A.length + off + V.length - A.length = off + V.length by omega,List.drop_append_of_le_length (by omega)]
 rw [h1,h2]; simp
theorem qpv {e:AV} {cs:List AV} (hl:cs.length = (qac e).length) (hok:isAgg e = true \/ ∀ c ∈ cs,isAgg c = false):qac (elemOf e cs) = cs:=by
 cases e
 case agg=>rfl
 all_goals
  simp only [qac,List.length_singleton] at hl
  simp only [isAgg,Bool.false_eq_true,false_or] at hok
  match cs,hl,hok with
  | [v],_,hok=>
   have:=hok v (by simp)
   cases v <;> first | rfl | exact absurd this (by simp)
theorem qey {c:AV} (h:qaR c = true):isAgg c = false:=by cases c <;> first | rfl | simp [qaR] at h
theorem qlK {cs:List AV} (h:∀ c ∈ cs,qaR c = true):qaB cs = true:=by
 induction cs with
 | nil=>rfl
 | cons c cs ih=>simp only [qaB,Bool.and_eq_true]; exact ⟨h c (by simp),ih fun x hx=>h x (by simp [hx])⟩
theorem qJE {L:Loc} {sz:Nat} {es:List AV} {fz:Bool} (hat:BlkAt w I m L (.arr sz es fz)):∀ c ∈ flat es,qaR c = true:=by
 obtain ⟨_,_,_,C,e,_,_,hcell,_⟩:=hat
 intro c hc
 obtain ⟨i,hi⟩:=List.mem_iff_getElem?.1 hc
 exact (hcell i c hi).choose_spec.2.1
theorem qnz {es:List AV} {e c:AV} (he:e ∈ es) (hc:c ∈ qac e):c ∈ flat es:=by
 simp only [flat,List.mem_flatMap]; exact ⟨e,he,hc⟩
theorem qsp (H:HeapAt w I m h) {t:TypeId} {n:Nat} (hn:qb9 P t = some n) {id idx off sz:Nat} {es:List AV} (hid:qad h id = some (.arr sz es false)) {u v:Value} {x y:AV} (hu:Rel w I (.ref id idx off) m u) (hx:Rel w I x m v)
  {h1:Heap} (hst:still h x = some (y,h1)) {sz1:Nat} {es1:List AV} (hid1:qad h1 id = some (.arr sz1 es1 false)) {e:AV} (he:es[idx]? = some e)
  (hlen:(qac y).length = n) (hoff:off + n <= (qac e).length) (hok:qaB (qac y) = true) :
  Does P w I m h nx (do Instr.storeAt t u v; pure .skip) unit (qbu h1 id (.arr sz (es.set idx (elemOf e (splice (qac e) off (qac y)))) false)):=by
 obtain ⟨I1,a1,hy,hfr⟩:=qgL (nx:=nx) H hx hst
 have hsame:sz1 = sz /\ es1 = es:=by
  rcases hfr id with h | h <;> rw [h,hid] at hid1 <;> simp [qgy] at hid1
  exact ⟨hid1.1.symm,hid1.2.symm⟩
 obtain ⟨rfl,rfl⟩:=hsame
 simp only [Rel] at hu
 obtain ⟨L,hL,rfl⟩:=hu
 obtain ⟨L',hL',hat⟩:=a1.heap.at_ id _ hid1
 rw [hL] at hL'; cases hL'
 have hokf:=qJE hat
 obtain ⟨g1,g2,g3,C,et,hC,hsz,hcell,hlive⟩:=hat
 simp only [Bool.false_eq_true,if_false] at hlive
 have hc:=qbC hy hok
 have hcl:=qaH hc
 have hvs:v.cells.size = n:=by rw [<- hlen,<- hcl]; simp
 have hln:v.cells.toList.length = n:=by simpa using hvs
 have hidx:idx < es1.length:=(List.getElem?_eq_some_iff.1 he).1
 have hez:(qac e).length = sz1:=g3 e (List.mem_of_getElem? he)
 have hmul:idx * sz1 + sz1 <= es1.length * sz1:=by rw [<- Nat.succ_mul]; exact Nat.mul_le_mul_right _ hidx
 have hrun:=qkM (P:=P) hn (o:=L.base + idx * L.sz + off) hC hvs (qdy hc hok) (by rw [g2]; omega)
 have hspl:(splice (qac e) off (qac y)).length = (qac e).length:=qie (by omega)
 have hokspl:isAgg e = true \/ ∀ c ∈ splice (qac e) off (qac y),isAgg c = false:=by
  right
  intro c hc'
  unfold splice at hc'
  rcases List.mem_append.1 hc' with hc' | hc'
  ·rcases List.mem_append.1 hc' with hc' | hc'
   ·exact qey (hokf c (qnz (List.mem_of_getElem? he) (List.mem_of_mem_take hc')))
   ·exact qey (qba hok c hc')
  ·exact qey (hokf c (qnz (List.mem_of_getElem? he) (List.mem_of_mem_drop hc')))
 have hel:=qpv hspl hokspl
 obtain ⟨A,B,f1,f2,f3⟩:=quP (e':=elemOf e (splice (qac e) off (qac y))) g3 he
 have hflat:flat (es1.set idx (elemOf e (splice (qac e) off (qac y)))) = splice (flat es1) (idx * sz1 + off) (qac y):=by
  rw [f3,hel,f1,<- f2,qmR _ _ _ _ _ (by omega)]
 have hs3:∀ x ∈ es1.set idx (elemOf e (splice (qac e) off (qac y))),(qac x).length = sz1:=by
  intro x hx
  rcases List.mem_or_eq_of_mem_set hx with hx | rfl
  ·exact g3 x hx
  ·rw [hel,hspl,hez]
 have hfl:=qa5 g3
 have hst:Stays w (w.setRow L.blk (C.toList.take (L.base + idx * L.sz + off) ++ v.cells.toList ++ C.toList.drop (L.base + idx * L.sz + off + n)).toArray) I1:=qaW a1.heap hC (by simp [hvs]; rw [g2]; omega) hlive
 have a2:After w (w.setRow L.blk (C.toList.take (L.base + idx * L.sz + off) ++ v.cells.toList ++ C.toList.drop (L.base + idx * L.sz + off + n)).toArray) I1 I1 m m h1
   (qbu h1 id (.arr sz1 (es1.set idx (elemOf e (splice (qac e) off (qac y)))) false)) nx:=by
  refine After.write a1.heap hid1 hL hlive hC (by simp [hvs]; rw [g2]; omega) ⟨by simpa using g1,g2,hs3,_,et,setRow_heap w L.blk _ _ _ _ hC,?_,fun i c hc'=>?_,by simpa using hlive⟩
  ·simp [hvs]; rw [g2]; omega
  ·rw [hflat] at hc'
   have hg:=qfT (C:=C.toList) (us:=v.cells.toList) (base:=L.base) (off:=idx * sz1 + off) (cs:=flat es1) (vs:=qac y) (by simp [hvs,hlen]) (by rw [hfl]; omega) (by rw [hfl]; simp; omega)
    (Q:=fun c v=>qaR c = true /\ Rel w I1 c m0 v) (fun i c hc=>by simpa using hcell i c hc) (fun i c hc=>by
     obtain ⟨q,hq,hr⟩:=qbf (qbC (m:=m0) hy hok) i c hc
     exact ⟨q,hq,qba hok c (List.mem_of_getElem? hc),hr⟩) i c hc'
   obtain ⟨q,hq,hk,hr⟩:=hg
   refine ⟨q,?_,hk,qaA hst (fun _ _ h=>h) c (fun _ _ h=>h) hr⟩
   rw [hln] at hq
   rw [g2]
   simpa [Nat.add_assoc] using hq
 exact ⟨.skip,_,I1,m,by rw [Sem.run_bind,hrun]; rfl,a1.trans a2,.inr ⟨rfl,rfl⟩⟩
theorem qlo {z:AV} {v:Value} (hr:qaw w I (qac z) m v.cells.toList) (n:Nat) :
  qaw w I (flat (List.replicate n z)) m ((List.range (n * (qac z).length)).map fun i=>v.cells[i % v.cells.size]!):=by
 have hl:=qaH hr
 have hvs:v.cells.size = (qac z).length:=by rw [<- hl]; simp
 have hfl:(flat (List.replicate n z)).length = n * (qac z).length:=by
  rw [qa5 (sz:=(qac z).length) (fun e he=>by rw [List.eq_of_mem_replicate he])]; simp
 refine qnS (by simp [hfl]) fun i c u hc hu=>?_
 have hi:i < n * (qac z).length:=by rw [<- hfl]; exact (List.getElem?_eq_some_iff.1 hc).1
 have hpos:0 < (qac z).length:=Nat.pos_of_ne_zero fun h=>by rw [h] at hi; omega
 have hget:(qac z)[i % (qac z).length]? = some c:=by
  have key:∀ (n i:Nat),i < n * (qac z).length -> (flat (List.replicate n z))[i]? = (qac z)[i % (qac z).length]?:=by
   intro n
   induction n with
   | zero=>intro i hi; omega
   | succ n ih=>
    intro i hi
    have:flat (List.replicate (n + 1) z) = qac z ++ flat (List.replicate n z):=rfl
    rw [this]
    by_cases hlt:i < (qac z).length
    ·rw [List.getElem?_append_left hlt,Nat.mod_eq_of_lt hlt]
    ·have hm:=Nat.succ_mul n (qac z).length
     have hi':i - (qac z).length < n * (qac z).length:=by rw [Nat.succ_eq_add_one] at hm; omega
     rw [List.getElem?_append_right (by omega),ih _ hi',<- Nat.mod_eq_sub_mod (by omega)]
  rw [<- key n i hi]; exact hc
 obtain ⟨q,hq,hrel⟩:=qbf hr _ c hget
 have hu':u = v.cells[i % v.cells.size]!:=by
  simp only [List.getElem?_map,List.getElem?_range hi,Option.map_some,Option.some.injEq] at hu
  exact hu.symm
 have hlt:i % v.cells.size < v.cells.size:=Nat.mod_lt _ (by omega)
 rw [hu',getElem!_pos v.cells _ hlt]
 have:v.cells[i % v.cells.size]'hlt = q:=by
  have:=(List.getElem?_eq_some_iff.1 hq).2
  simp only [hvs]
  simpa using this
 rw [this]; exact hrel
theorem qnd (H:HeapAt w I m h) (hnx:m nx = none) {sz:Nat} {es:List AV} {us rest:List Value} (hs:∀ e ∈ es,(qac e).length = sz) (hr:qaw w I (flat es) m0 us) (hok:∀ c ∈ flat es,qaR c = true) (t:TypeId) {A:Array Value} (hA:A.toList = us ++ rest) :
  BlkAt (w.alloc (.cells A t)) I (named m nx ⟨w.heap.size,0,sz,es.length⟩) ⟨w.heap.size,0,sz,es.length⟩ (.arr sz es false):=by
 have hlen:=qaH hr
 have hfl:=qa5 hs
 have hAs:A.size = us.length + rest.length:=by rw [<- Array.length_toList,hA]; simp
 refine ⟨rfl,rfl,hs,A,t,heap_alloc_new w _,by simp only [Nat.zero_add]; omega,fun i c hc=>?_,?_⟩
 ·obtain ⟨v,hv,hrel⟩:=qbf hr i c hc
  have hi:i < us.length:=(List.getElem?_eq_some_iff.1 hv).1
  refine ⟨v,?_,hok c (List.mem_of_getElem? hc),qaA (qdh H _) (fun _ _ h=>h) c (fun _ _ h=>h) hrel⟩
  simp only [Nat.zero_add]
  rw [<- Array.getElem?_toList,hA,List.getElem?_append_left hi]; exact hv
 ·simp only [Bool.false_eq_true,if_false]
  intro o ho
  exact Nat.lt_irrefl _ (H.old _ o ho)
theorem qgD {w':World} {sz num len cap:Nat} {A:Array Value} {e:TypeId} {b:Nat} (hA:w'.heap[b]? = some (.cells A e (0,0))) (hle:len <= cap) (hnum:num <= cap) (hcap:cap * sz <= A.size) {lo:Option Nat} (hlo:qa9 num 0 lo = len) :
  Rel w' I (.own nx 0 lo) (named m nx ⟨b,0,sz,num⟩) (.slice (some ⟨b,0,none⟩) len cap):=by
 simp only [Rel]
 refine ⟨_,by simp [named]; rfl,0,cap,A,e,by rw [hlo]; rfl,by rw [hlo]; exact hle,fun _=>by simp,by simpa using hnum,hA,by simpa using hcap⟩
theorem qWz (H:HeapAt w I m h) (hnx:m nx = none) {t et:TypeId} {sz by_:Nat} {z:AV} (ht:P.underlying t = some (.slice et)) (hsz:qb9 P et = some sz) (hby:bytesOf P et = some by_) (hz:zeroOf P et = some z) (hpos:0 < sz) (hzl:(qac z).length = sz)
  (hok:qaB (qac z) = true) {k k':IntKind} {l c:Int} (h0:0 <= l) (h1:l <= c) (h2:c.toNat * by_ <= lim) (h3:c <= 4611686018427387904) {lo:Option Nat} (hlo:lo = some l.toNat \/ lo = none /\ l = c) :
  Does P w I m h nx (do pure (.value (<- Instr.makeSlice t (.int k l) (.int k' c)))) (.own nx 0 lo) (qbu h nx (.arr sz (List.replicate c.toNat (nz z)) false)):=by
 obtain ⟨i,hi,hisz⟩:=qk4 hsz
 obtain ⟨zv,hzv,hav⟩:=qr6 hi hz
 simp only [bytesOf,hi,Option.map_some,Option.some.injEq] at hby
 have hr:Rel w I (nz z) m0 zv:=qfs _ (hav _ _ _)
 rw [<- qCC] at hzl
 rw [<- qN6] at hok
 have hc:=qbC hr hok
 have hcl:=qaH hc
 have hzs:zv.cells.size = sz:=by rw [<- hzl,<- hcl]; simp
 have hb:(i.bytes:Int) * c <= 281474976710656:=by
  have:((c.toNat * by_:Nat):Int) <= 17592186044416:=by unfold lim at h2; omega
  have e:((c.toNat * by_:Nat):Int) = (i.bytes:Int) * c:=by rw [Int.natCast_mul,hby,Int.toNat_of_nonneg (by omega),Int.mul_comm]
  omega
 have hrun:=run_make (P:=P) w t et i zv ht hi hzv k k' l c h0 h1 hb (by omega)
 have hz2:=qlo hc c.toNat
 rw [hzl,hzs] at hz2
 have hA:(madeCells zv.cells (c.toNat * i.size)).toList = ((List.range (c.toNat * sz)).map fun i=>zv.cells[i % sz]!) ++ []:=by
  simp [madeCells,hisz,hzs]
 have hfl:=qaH hz2
 have hbk:=qnd H hnx (sz:=sz) (es:=List.replicate c.toNat (nz z)) (rest:=[]) (fun e he=>by rw [List.eq_of_mem_replicate he]; exact hzl) hz2 (fun q hq=>by
  simp only [flat,List.mem_flatMap] at hq
  obtain ⟨e,he,hq⟩:=hq
  rw [List.eq_of_mem_replicate he] at hq
  exact qba hok q hq) et hA
 have hAs:(madeCells zv.cells (c.toNat * i.size)).size = c.toNat * sz:=by rw [<- Array.length_toList,hA]; simp
 refine ⟨_,_,I,_,by rw [Sem.run_bind,hrun]; rfl,After.alloc H hnx _ _ rfl _ hbk,.inl ⟨_,rfl,?_⟩⟩
 exact qgD (heap_alloc_new w _) (by omega) (by simp) (by omega) (by rcases hlo with rfl | ⟨rfl,rfl⟩ <;> simp [qa9])
theorem qj8 {sz:Nat}:∀ {ps:List (Nat × Value)} {xs:List AV} {es:List AV} {us:List Value},qaw w I xs m0 (ps.map (·.2)) -> (∀ e ∈ es,(qac e).length = sz) -> qaw w I (flat es) m0 us ->
  ∀ {es':List AV},qwW sz es ((ps.map (·.1)).zip xs) = some es' ->
   ∃ us':List Value,Instr.fill (fun i=>some (i * sz,sz)) us.toArray ps = some us'.toArray /\ qaw w I (flat es') m0 us' /\ es'.length = es.length /\ (∀ e ∈ es',(qac e).length = sz) /\
    ((∀ c ∈ flat es,qaR c = true) -> ∀ c ∈ flat es',qaR c = true)
 | [],xs,es,us,hx,hs,hr,es',hf=>by
  simp [qwW] at hf; subst hf
  exact ⟨us,rfl,hr,rfl,hs,fun h=>h⟩
 | (i,v) :: ps,xs,es,us,hx,hs,hr,es',hf=>by
  simp only [List.map_cons,qaw] at hx
  match xs,hx,hf with
  | x :: xs,hx,hf=>
   simp only [qaw] at hx
   obtain ⟨v',vs',he,hxv,hx⟩:=hx
   simp at he; obtain ⟨rfl,rfl⟩:=he
   simp only [List.map_cons,List.zip_cons_cons,qwW] at hf
   split at hf
   ·rename_i hc
    obtain ⟨hc1,hc2,hc3⟩:=hc
    have hcells:=qbC hxv hc3
    have hl1:=qaH hcells
    have hvs:v.cells.size = sz:=by rw [<- hc1,<- hl1]; simp
    have hl2:=qaH hr
    have hfl:=qa5 hs
    have hmul:i * sz + sz <= es.length * sz:=by rw [<- Nat.succ_mul]; exact Nat.mul_le_mul_right _ hc2
    obtain ⟨A,B,f1,f2,f3⟩:=quP (e':=x) hs (List.getElem?_eq_getElem hc2)
    have hflat:flat (es.set i x) = splice (flat es) (i * sz) (qac x):=by
     have hE:(qac es[i]).length = sz:=hs _ (by simp)
     rw [f3,f1,<- f2]
     have:=qmR A (qac es[i]) B (qac x) 0 (by omega)
     rw [Nat.add_zero] at this
     rw [this]
     congr 2
     unfold splice
     simp only [List.take_zero,List.nil_append,Nat.zero_add]
     rw [List.drop_eq_nil_of_le (by omega)]; simp
    have hnew:=qmS hr hcells (i * sz)
    rw [<- hflat] at hnew
    have hs':∀ e ∈ es.set i x,(qac e).length = sz:=by
     intro e he
     rcases List.mem_or_eq_of_mem_set he with he | rfl
     ·exact hs e he
     ·exact hc1
    obtain ⟨us',hfill,hrel,hlen,hss,hok⟩:=qj8 hx hs' hnew hf
    refine ⟨us',?_,hrel,by rw [hlen]; simp,hss,fun ho=>hok fun c hc=>?_⟩
    ·simp only [Instr.fill]
     rw [if_neg (by simp [hvs]; omega)]
     have hfs:=foldl_set us.toArray v.cells.toList (i * sz) 0 us.toArray (by simp [hvs]; omega)
     have hz:v.cells.zipIdx = (v.cells.toList.zipIdx 0).toArray:=by
      rw [<- Array.toArray_toList (xs:=v.cells.zipIdx)]; simp
     rw [hz]
     simp only [List.foldl_toArray']
     rw [hfs]
     simpa using hfill
    ·rw [hflat] at hc
     unfold splice at hc
     rcases List.mem_append.1 hc with hc | hc
     ·rcases List.mem_append.1 hc with hc | hc
      ·exact ho c (List.mem_of_mem_take hc)
      ·exact qba hc3 c hc
     ·exact ho c (List.mem_of_mem_drop hc)
   ·cases hf
  | [],hx,hf=>simp [qaw] at hx
theorem qFs (H:HeapAt w I m h) (hnx:m nx = none) {t et:TypeId} {sz n:Nat} {z:AV} (ht:P.underlying t = some (.slice et)) (hsz:qb9 P et = some sz) (hz:zeroOf P et = some z) (hpos:0 < sz) (hzl:(qac z).length = sz) (hzok:qaB (qac z) = true) (hbig:n * sz <= 16777216)
  {ps:Array (Nat × Value)} {xs ys:List AV} (hx:qaw w I xs m (ps.toList.map (·.2))) {h1:Heap} (hst:qmZ h xs = some (ys,h1)) {es:List AV} (hf:qwW sz (List.replicate n (nz z)) ((ps.toList.map (·.1)).zip ys) = some es) :
  Does P w I m h nx (do pure (.value (<- Instr.buildSlice t n ps))) (.own nx 0 none) (qbu h1 nx (.arr sz es false)):=by
 obtain ⟨I1,a1,hy⟩:=qiB (nx:=nx) H hx hst
 obtain ⟨zv,hzv,hav⟩:=qcx hz w
 have hr:Rel w I1 (nz z) m0 zv:=qfs _ (hav _ _ _)
 rw [<- qCC] at hzl
 rw [<- qN6] at hzok
 have hc:=qbC hr hzok
 have hcl:=qaH hc
 have hzs:zv.cells.size = sz:=by rw [<- hzl,<- hcl]; simp
 have hz2:=qlo hc n
 rw [hzl,hzs] at hz2
 obtain ⟨us',hfill,hrel,hlen,hss,hok⟩:=qj8 hy (fun e he=>by rw [List.eq_of_mem_replicate he]; exact hzl) hz2 hf
 have hokE:=hok fun q hq=>by
  simp only [flat,List.mem_flatMap] at hq
  obtain ⟨e,he,hq⟩:=hq
  rw [List.eq_of_mem_replicate he] at hq
  exact qba hzok q hq
 have hlen':es.length = n:=by rw [hlen]; simp
 have hul:=qaH hrel
 have hfl:=qa5 hss
 have hrun:(Instr.buildSlice t n ps).run P w = .ok (.slice (some ⟨w.heap.size,0,none⟩) n n) (w.alloc (.cells us'.toArray et)):=by
  have hbig':¬ 16777216 < n * sz:=by omega
  have hcells:((Array.range (n * sz)).map fun i=>zv.cells[i % sz]!) = ((List.range (n * sz)).map fun i=>zv.cells[i % sz]!).toArray:=by
   apply Array.ext'; simp
  by_cases hn0:n * sz = 0
  ·have hn:n = 0:=(Nat.mul_eq_zero.1 hn0).resolve_right (by omega)
   subst hn
   have hfill':Instr.fill (fun i=>some (i * sz,sz)) #[] ps.toList = some us'.toArray:=by simpa using hfill
   simp [Instr.buildSlice,run_underlying ht,run_sizeOf hsz,Array.range_zero',hfill',newRow]
  ·simp only [Instr.buildSlice,Sem.run_bind,run_underlying ht,Result.andThen_ok,run_sizeOf hsz]
   rw [if_neg (by simpa using hbig')]
   simp only [hn0,if_false,Sem.run_bind,hzv,Result.andThen_ok,Sem.run_pure,hzs,hcells,hfill]
   simp [newRow]
 have hbk:=qnd a1.heap (by exact hnx) (nx:=nx) (sz:=sz) (es:=es) (us:=us') (rest:=[]) hss hrel hokE et (A:=us'.toArray) (by simp)
 refine ⟨_,_,I1,_,by rw [Sem.run_bind,hrun]; rfl,a1.trans (After.alloc a1.heap hnx _ _ rfl _ hbk),.inl ⟨_,rfl,?_⟩⟩
 exact qgD (heap_alloc_new w _) (Nat.le_refl _) (by simp [hlen']) (by simp only [List.size_toArray]; rw [hul,hfl,hlen']; exact Nat.le_refl _) (by rw [hlen']; rfl)
end
end Go.Eng
namespace Go.Eng
set_option linter.unusedSectionVars false
variable [Globs]
section
variable {P:Program} {w:World} {I:Imm} {m:Names} {h:Heap} {nx:Nat}
theorem HeapAt.sub' {h':Heap} (H:HeapAt w I m h) (hs:∀ i b,qad h' i = some b -> qad h i = some b):HeapAt w I m h':=
 ⟨fun i b hi=>H.at_ i b (hs i b hi),fun i j a b L L' hi hj=>H.apart i j a b L L' (hs i a hi) (hs j b hj),H.old,H.glob⟩
theorem After.less {w':World} {I':Imm} {m':Names} {h' h'':Heap} (a:After w w' I I' m m' h h' nx) (hs:∀ i b,qad h'' i = some b -> qad h' i = some b):After w w' I I' m m' h h'' nx:=
 ⟨a.stays,a.imm,a.names,a.fresh,a.heap.sub' hs,a.frame,a.newI,fun b ho=>by
  obtain ⟨i,x,L,hi,hL,rfl⟩:=ho
  exact a.owns _ ⟨i,x,L,hs i x hi,hL,rfl⟩,fun i b hi=>a.dom i b (hs i b hi)⟩
theorem After.less' {w':World} {I':Imm} {m':Names} {h' h'':Heap} (a:After w w' I I' m m' h h' nx) (_:Nat) (hs:∀ i,qad h'' i = qad h' i):After w w' I I' m m' h h'' nx:=
 a.less fun i b hi=>by rw [<- hs i]; exact hi
theorem qzG (H:HeapAt w I m h) (hnx:m nx = none) {t et:TypeId} {sz:Nat} (ht:P.underlying t = some (.slice et)) (hsz:qb9 P et = some sz) {ps:Array (Nat × Value)} (hps:ps.toList = []) :
  Does P w I m h nx (do pure (.value (<- Instr.buildSlice t 0 ps))) (.nils ⟨sz,.any⟩) h:=by
 have hps':ps = #[]:=Array.ext' hps
 subst hps'
 have hrun:(Instr.buildSlice t 0 #[]).run P w = .ok (.slice (some ⟨w.heap.size,0,none⟩) 0 0) (w.alloc (.cells #[] et)):=by
  simp [Instr.buildSlice,run_underlying ht,run_sizeOf hsz,Array.range_zero',Instr.fill,newRow]
 have hbk:=qnd H hnx (nx:=nx) (sz:=sz) (es:=[]) (us:=[]) (rest:=[]) (by simp) (by simp [qaw,flat]) (by simp [flat]) et (A:=#[]) (by simp)
 have ha:=(After.alloc H hnx _ _ rfl _ hbk).less (h'':=h) (fun i b hi=>by
  by_cases hq:i = nx
  ·subst hq
   obtain ⟨L,hL,_⟩:=H.at_ _ _ hi
   rw [hnx] at hL; cases hL
  ·rw [qaP,if_neg hq]; exact hi)
 exact ⟨_,_,I,_,by rw [Sem.run_bind,hrun]; rfl,ha,.inl ⟨_,rfl,by simp only [Rel]; exact ⟨_,_,rfl,by simp,by simp,by simp⟩⟩⟩
theorem qrA (H:HeapAt w I m h) {sz:Nat} {x:AV} {v:Value} (hr:Rel w I x m v) {src:List AV} (hs:qn0 h sz x = some src) :
  ∃ news:List Value,qaw w I (flat src) m0 news /\ (∀ u ∈ news,u.oneCell' = true) /\ (∀ e ∈ src,(qac e).length = sz) /\ (∀ c ∈ flat src,qaR c = true) /\
   ∀ w':World,w'.heap = w.heap -> (Builtin.lenOf v).run P w' = .ok src.length w' /\ (Builtin.firstCells sz src.length v).run P w' = .ok news.toArray w':=by
 have mem:∀ (es:List AV) (b o len cap:Nat),len <= cap -> es.length = len -> (∀ e ∈ es,(qac e).length = sz) -> (∀ (i:Nat) (c:AV),(flat es)[i]? = some c -> qaR c = true /\ ∃ u,w.cell? (ad b (o + i)) = some u /\ Rel w I c m0 u) ->
   ∃ news:List Value,qaw w I (flat es) m0 news /\ (∀ u ∈ news,u.oneCell' = true) /\ (∀ e ∈ es,(qac e).length = sz) /\ (∀ c ∈ flat es,qaR c = true) /\
    ∀ w':World,w'.heap = w.heap -> (Builtin.lenOf (.slice (some (ad b o)) len cap)).run P w' = .ok es.length w' /\ (Builtin.firstCells sz es.length (.slice (some (ad b o)) len cap)).run P w' = .ok news.toArray w':=by
  intro es b o len cap hle hlen hsz hc
  have hcells:Cells w I m0 (flat es) b o:=fun i c h=>(hc i c h).2
  obtain ⟨us,hl,hcell,hrel⟩:=hcells.list
  have hok:∀ c ∈ flat es,qaR c = true:=fun c h=>by
   obtain ⟨i,hi⟩:=List.mem_iff_getElem?.1 h
   exact (hc i c hi).1
  refine ⟨us,hrel,qdy hrel (qlK hok),hsz,hok,fun w' hw=>⟨by simp [Builtin.lenOf,hlen],?_⟩⟩
  have hcell':∀ j u,us[j]? = some u -> w'.cell? ((ad b o).add j) = some u:=fun j u hu=>by
   have:=hcell j u hu
   simpa [World.cell?,hw] using this
  exact run_firstCells_some w' sz es.length (ad b o) len cap us (by rw [hl,qa5 hsz]) hcell'
 cases x <;> simp only [qn0,reduceCtorEq] at hs
 case nils=>
  simp at hs; subst hs
  simp only [Rel] at hr
  obtain ⟨ar,cap,rfl,_⟩:=qd6 hr
  refine ⟨[],by simp [qaw,flat],by simp,by simp,by simp [flat],fun w' _=>⟨by simp [Builtin.lenOf],?_⟩⟩
  cases ar with
  | none=>simp [Builtin.firstCells]
  | some ar=>exact run_firstCells_some w' sz 0 ar 0 cap [] (by simp) (by simp)
 case view sz' es=>
  split at hs
  ·rename_i he
   subst he
   simp at hs; subst hs
   simp only [Rel] at hr
   obtain ⟨ar,cap,rfl,hcap,hE,_⟩:=hr
   rcases hE with he | ⟨b,o,rfl,hE⟩
   ·have he':es = []:=List.length_eq_zero_iff.1 he
    subst he'
    refine ⟨[],by simp [qaw,flat],by simp,by simp,by simp [flat],fun w' _=>⟨by simp [Builtin.lenOf],?_⟩⟩
    cases ar with
    | none=>simp [Builtin.firstCells]
    | some ar=>exact run_firstCells_some w' sz' 0 ar 0 cap [] (by simp) (by simp)
   ·obtain ⟨h1,h2⟩:=qdx.1 hE
    exact mem es b o es.length cap hcap rfl h1 fun i c hc=>⟨(h2 i c hc).2.1,(h2 i c hc).2.2⟩
  ·cases hs
 case own id off lo=>
  split at hs
  ·rename_i sz' es fz hl
   have hs2:∃ len,sz' = sz /\ src = (es.drop off).take len /\ ((lo = some len /\ off + len <= es.length) \/ (lo = none /\ len = es.length - off)):=by
    split at hs
    ·rename_i len
     split at hs
     ·rename_i hc
      simp at hs; exact ⟨len,hc.1,by rw [<- hs,qfV],.inl ⟨rfl,hc.2⟩⟩
     ·cases hs
    ·split at hs
     ·rename_i hc
      simp at hs
      exact ⟨_,hc,by rw [<- hs,qfH,List.take_of_length_le (by simp)],.inr ⟨rfl,rfl⟩⟩
     ·cases hs
   obtain ⟨len,hszz,rfl,hlo⟩:=hs2
   subst hszz
   simp only [Rel] at hr
   obtain ⟨L,hL,o,cap,C,e,rfl,hcap,ho,hnum,hC,hsize⟩:=hr
   obtain ⟨L',hL',hat⟩:=H.at_ id _ hl
   rw [hL] at hL'; cases hL'
   obtain ⟨h1,h2,h3,C',e',hC',hsz,hcell,_⟩:=hat
   rw [hC] at hC'; cases hC'
   have hlen:qa9 L.num off lo = len:=by
    rcases hlo with ⟨rfl,_⟩ | ⟨rfl,rfl⟩
    ·rfl
    ·rw [qcD,h1]
   have hll:((es.drop off).take len).length = len:=by rcases hlo with ⟨_,hle⟩ | ⟨_,hle⟩ <;> simp <;> omega
   rw [hlen] at hcap ⊢
   have h3':∀ e ∈ es.drop off,(qac e).length = sz':=fun e he=>h3 e (List.mem_of_mem_drop he)
   have h3'':∀ e ∈ (es.drop off).take len,(qac e).length = sz':=fun e he=>h3' e (List.mem_of_mem_take he)
   by_cases hc0:cap = 0
   ·have:len = 0:=by omega
    subst this
    simp only [List.take_zero]
    exact ⟨[],by simp [qaw,flat],by simp,by simp,by simp [flat],fun w' _=>⟨by simp [Builtin.lenOf],by simp [Builtin.firstCells,loadCells,loadCellsFrom]⟩⟩
   ·refine mem _ L.blk o len cap hcap hll h3'' fun i c hc=>?_
    rw [qd2 h3',qd1 h3,List.getElem?_take] at hc
    split at hc
    ·rw [List.getElem?_drop] at hc
     obtain ⟨u,hu,hk,hrel⟩:=hcell _ c hc
     refine ⟨hk,u,?_,hrel⟩
     rw [ho hc0,qcb hC,h2,Nat.add_assoc]; exact hu
    ·cases hc
  ·cases hs
section runs
variable {t u ty e e':TypeId} {sz by_:Nat} {v:Value} {n:Nat} {news:List Value}
theorem qrx (ht:P.underlying t = some (.slice e)) (hu:P.underlying u = some (.slice e')) (hsz:qb9 P e = some sz) {base:Option Addr} {len cap:Nat} (hle:len <= cap)
  (hv:(Builtin.lenOf v).run P w = .ok 0 w) (hf:(Builtin.firstCells sz 0 v).run P w = .ok (#[]:Array Value) w) :
  (Builtin.append_ #[t,u] ty #[.slice base len cap,v]).run P w = .ok (.slice base len cap) w:=by
 cases base <;> simp [Builtin.append_,run_underlying ht,run_underlying hu,run_sizeOf hsz,hv,hle,hf,storeCells]
theorem qnY (ht:P.underlying t = some (.slice e)) (hu:P.underlying u = some (.slice e')) (hsz:qb9 P e = some sz) {g o len cap:Nat} {C:Array Value} {et:TypeId} (hC:w.heap[g]? = some (.cells C et (0,0)))
  (hv:(Builtin.lenOf v).run P w = .ok n w) (hf:(Builtin.firstCells sz n v).run P w = .ok news.toArray w) (h1:∀ u ∈ news,u.oneCell' = true) (hroom:len + n <= cap) (hfit:o + len * sz + news.length <= C.size) :
  (Builtin.append_ #[t,u] ty #[.slice (some (ad g o)) len cap,v]).run P w =
   .ok (.slice (some (ad g o)) (len + n) cap) (w.setRow g (C.toList.take (o + len * sz) ++ news ++ C.toList.drop (o + len * sz + news.length)).toArray):=by
 have hst:=run_storeCells_at P g (o + len * sz) et news 0 C w hC (by simpa using hfit) h1
 simp only [Nat.add_zero] at hst
 rw [<- ad] at hst
 simp only [Builtin.append_,List.getElem?_toArray,List.getElem?_cons_zero,List.getElem?_cons_succ,Sem.run_bind,run_underlying ht,run_underlying hu,Result.andThen_ok,run_sizeOf hsz,hv,hroom,if_true,Sem.run_pure,Bool.false_eq_true,if_false,Bool.not_false,hf,qdV,hst]
theorem qrw (ht:P.underlying t = some (.slice e)) (hu:P.underlying u = some (.slice e')) {i:TypeInfo} {z:Value} (hi:P.info? e = some i) (hz:i.zero = some z) {base:Option Addr} {len cap:Nat} {olds:List Value}
  (ho:(Builtin.firstCells i.size len (.slice base len cap)).run P w.drew = .ok olds.toArray w.drew)
  (hv:(Builtin.lenOf v).run P w = .ok n w) (hf:(Builtin.firstCells i.size n v).run P w.drew = .ok news.toArray w.drew) (hgrow:cap < len + n) (h63:len + n <= 4611686018427387904) (hfit:Builtin.nextslicecap (len + n) cap * i.bytes <= 281474976710656) :
  (Builtin.append_ #[t,u] ty #[.slice base len cap,v]).run P w =
   .ok (.slice (some ⟨w.heap.size,0,none⟩) (len + n) (grownCap w (len + n) cap e))
    (w.drew.alloc (.cells (olds.toArray ++ news.toArray ++ Builtin.zeroCells z.cells (grownCap w (len + n) cap e - (len + n))) e)):=by
 have hn:¬ (len + n <= cap):=by omega
 have h63':¬ (9223372036854775807 < ((len:Int) + (n:Int))):=by omega
 have h48':¬ (281474976710656 < Builtin.nextslicecap (len + n) cap * i.bytes):=by omega
 simp [Builtin.append_,run_underlying ht,run_underlying hu,Go.sizeOf,typeInfo,zeroValue,hi,hz,hv,hn,h63',h48',Question.forced,hf,ho,newRow,grownCap]
 congr 2
 apply Array.ext'
 simp [List.append_assoc]
end runs
theorem After.over (H:HeapAt w I m h) (hnx:m nx = none) {id:Nat} {old new:Blk} (hid:qad h id = some old) {L L':Loc} (hL:m id = some L) (hLL:L'.blk = L.blk) (hlive:∀ o,¬ I L.blk o) {C C':Array Value} {e:TypeId}
  (hC:w.heap[L.blk]? = some (.cells C e (0,0))) (hs:C'.size = C.size) (hnew:BlkAt (w.setRow L.blk C') I (named m nx L') L' new) :
  After w (w.setRow L.blk C') I I m (named m nx L') h (qbu (qqk h id) nx new) nx where
 stays:=qaW H hC hs hlive
 imm:=fun _ _ h=>h
 names:=qeG hnx L'
 fresh:=fun i h1 h2=>by
  unfold named at h2
  split at h2
  ·omega
  ·exact absurd h1 h2
 heap:=by
  have look:∀ i a,qad (qbu (qqk h id) nx new) i = some a -> (i = nx /\ a = new) \/ (i ≠ nx /\ i ≠ id /\ qad h i = some a):=by
   intro i a hi
   rw [qaP] at hi
   by_cases e:i = nx
   ·rw [if_pos e] at hi; simp at hi; exact .inl ⟨e,hi.symm⟩
   ·rw [if_neg e,qd3] at hi
    by_cases e':i = id
    ·rw [if_pos e'] at hi; cases hi
    ·rw [if_neg e'] at hi; exact .inr ⟨e,e',hi⟩
  constructor
  ·intro i a hi
   rcases look i a hi with ⟨rfl,rfl⟩ | ⟨h1,h2,h3⟩
   ·exact ⟨L',by simp [named],hnew⟩
   ·obtain ⟨L1,hL1,hat⟩:=H.at_ i a h3
    have hne:L1.blk ≠ L.blk:=fun he=>h2 (H.apart i id a old L1 L h3 hid hL1 hL he)
    exact ⟨L1,qeG hnx L' i L1 hL1,hat.keep (qaW H hC hs hlive) (fun _ _ h=>h) (qeG hnx L') (setRow_other w _ _ _ hne) fun _ h=>h⟩
  ·intro i j a b L1 L2 hi hj hL1 hL2 he
   rcases look i a hi with ⟨rfl,rfl⟩ | ⟨h1,h2,h3⟩ <;> rcases look j b hj with ⟨rfl,rfl⟩ | ⟨g1,g2,g3⟩
   ·rfl
   ·simp only [named,if_true,Option.some.injEq] at hL1; subst hL1
    simp only [named,if_neg g1] at hL2
    exact absurd (H.apart j id b old L2 L g3 hid hL2 hL (by rw [<- he,hLL])) g2
   ·simp only [named,if_true,Option.some.injEq] at hL2; subst hL2
    simp only [named,if_neg h1] at hL1
    exact absurd (H.apart i id a old L1 L h3 hid hL1 hL (by rw [he,hLL])) h2
   ·simp only [named,if_neg h1] at hL1
    simp only [named,if_neg g1] at hL2
    exact H.apart i j a b L1 L2 h3 g3 hL1 hL2 he
  ·intro b o hi; simpa using H.old b o hi
  ·exact H.glob.mono (qaW H hC hs hlive) fun _ _ h=>h
 frame:=fun k hk hno=>setRow_other w _ k _ fun e=>hno ⟨id,old,L,hid,hL,e.symm⟩
 newI:=fun _ _ h=>.inl h
 owns:=fun k ho=>by
  obtain ⟨i,a,L1,hi,hL1,rfl⟩:=ho
  rw [qaP] at hi
  by_cases e:i = nx
  ·simp only [named,if_pos e,Option.some.injEq] at hL1; subst hL1
   exact .inl ⟨id,old,L,hid,hL,hLL.symm⟩
  ·rw [if_neg e,qd3] at hi
   simp only [named,if_neg e] at hL1
   by_cases e':i = id
   ·rw [if_pos e'] at hi; cases hi
   ·rw [if_neg e'] at hi; exact .inl ⟨i,a,L1,hi,hL1,rfl⟩
 dom:=fun i a hi=>by
  rw [qaP] at hi
  by_cases e:i = nx
  ·subst e; exact .inr hnx
  ·rw [if_neg e,qd3] at hi
   by_cases e':i = id
   ·rw [if_pos e'] at hi; cases hi
   ·rw [if_neg e'] at hi; exact .inl ⟨a,hi⟩
theorem qhG (sz:Nat):∀ (n:Nat) (cs:List AV),(chunks sz n cs).length = n
 | 0,_=>rfl
 | n + 1,cs=>by simp [chunks,qhG sz n]
theorem qjK (sz:Nat):∀ (n:Nat) (cs:List AV),cs.length = n * sz -> flat (chunks sz n cs) = cs
 | 0,cs,h=>by
  have:cs = []:=List.eq_nil_of_length_eq_zero (by simpa using h)
  subst this; rfl
 | n + 1,cs,h=>by
  have e:flat (chunks sz (n + 1) cs) = cs.take sz ++ flat (chunks sz n (cs.drop sz)):=rfl
  rw [e,qjK sz n (cs.drop sz) (by rw [List.length_drop,h,Nat.add_mul]; omega)]
  exact List.take_append_drop sz cs
theorem qpy (sz:Nat):∀ (n:Nat) (cs:List AV),cs.length = n * sz -> ∀ e ∈ chunks sz n cs,(qac e).length = sz
 | 0,_,_,e,he=>by cases he
 | n + 1,cs,h,e,he=>by
  rw [Nat.add_mul] at h
  rcases List.mem_cons.1 he with rfl | he
  ·show (cs.take sz).length = sz
   rw [List.length_take]; omega
  ·exact qpy sz n (cs.drop sz) (by rw [List.length_drop]; omega) e he
theorem quZ:∀ {cs:List AV},(idsA.idsL cs).length = 0 -> ∀ c ∈ cs,idsA c = []
 | [],_,c,hc=>by cases hc
 | d :: cs,h,c,hc=>by
  simp only [idsA.idsL,List.length_append] at h
  rcases List.mem_cons.1 hc with rfl | hc
  ·exact List.eq_nil_of_length_eq_zero (by omega)
  ·exact quZ (by omega) c hc
theorem qRZ (H:HeapAt w I m h) (hnx:m nx = none) {t et:TypeId} {n sz:Nat} (hu:P.underlying t = some (.array n et)) (hsz:qb9 P et = some sz) {id:Nat} {cs:List AV} (hid:qad h id = some (.box cs false)) {v:Value} (hr:Rel w I (.ref id 0 0) m v)
  (hn:cs.length = n * sz) (hok:qaB cs = true) (hids:(idsA.idsL cs).length = 0) :
  Does P w I m h nx (do pure (.value (<- Instr.sliceAt t v none none none))) (.own nx 0 none) (qbu (qqk h id) nx (.arr sz (chunks sz n cs) false)):=by
 simp only [Rel] at hr
 obtain ⟨L,hL,rfl⟩:=hr
 obtain ⟨L',hL',hat⟩:=H.at_ id _ hid
 rw [hL] at hL'; cases hL'
 obtain ⟨h1,h2,C,e,hC,hfit,hcell,hlive⟩:=hat
 simp only [Bool.false_eq_true,if_false] at hlive
 have hs:=setRow_self w L.blk C e _ hC
 have hb:BlkAt (w.setRow L.blk C) I (named m nx ⟨L.blk,L.base,sz,n⟩) ⟨L.blk,L.base,sz,n⟩ (.arr sz (chunks sz n cs) false):=by
  rw [hs]
  refine ⟨by rw [qhG],rfl,qpy sz n cs hn,C,e,hC,by rw [qhG,<- hn]; exact hfit,fun i c hc=>?_,?_⟩
  ·rw [qjK sz n cs hn] at hc
   obtain ⟨v,hv,hr⟩:=hcell i c hc
   have hm:=List.mem_of_getElem? hc
   exact ⟨v,hv,qba hok c hm,qde _ (quZ hids c hm) hr⟩
  ·simp only [Bool.false_eq_true,if_false]; exact hlive
 have a:=After.over H hnx hid hL (L':=⟨L.blk,L.base,sz,n⟩) rfl hlive hC rfl hb
 rw [hs] at a
 refine ⟨.value (.slice (some (ad L.blk L.base)) n n),w,I,_,?_,a,.inl ⟨_,rfl,?_⟩⟩
 ·by_cases h0:n = 0
  ·simp [Instr.sliceAt,run_underlying hu,Instr.sliceBounds,run_sizeOf hsz,Instr.sureAddr,h0]
  ·simp [Instr.sliceAt,run_underlying hu,Instr.sliceBounds,run_sizeOf hsz,Instr.sureAddr,h0,qdV]
 ·simp only [Rel]
  refine ⟨⟨L.blk,L.base,sz,n⟩,by simp [named],L.base,n,C,e,?_,Nat.le_refl _,fun _=>by simp,by simp,hC,?_⟩
  ·simp [qa9]
  ·simp only [Nat.zero_add]; rw [<- hn]; exact hfit
theorem qWN {t e:TypeId} {sz:Nat} (ht:P.underlying t = some (.slice e)) (hsz:qb9 P e = some sz) {x y:AV} {u v:Value} (hx:Rel w I x m u) (hy:Rel w I y m v) (h1:qWW x = true) (h2:qWV y = true) (ts:List TypeId) (ty:TypeId) :
  Gives P w I m (do pure (.value (<- Builtin.copy_ (t :: ts).toArray ty #[u,v]))) (.int .i64 0):=by
 obtain ⟨a,cap,rfl⟩:∃ a cap,v = .slice a 0 cap:=by
  cases y <;> simp only [qWV,Bool.false_eq_true] at h2
  ·simp only [Rel] at hy
   obtain ⟨b,c,rfl,_⟩:=hy
   exact ⟨_,_,rfl⟩
  ·rename_i s es
   cases es with
   | nil=>
    simp only [Rel] at hy
    obtain ⟨b,c,rfl,_⟩:=hy
    exact ⟨_,_,rfl⟩
   | cons _ _=>simp at h2
 obtain ⟨b,l,c,rfl⟩:∃ b l c,u = .slice b l c:=by
  cases x <;> simp only [qWW,Bool.false_eq_true] at h1 <;> simp only [Rel] at hx
  ·obtain ⟨b,c,rfl,_⟩:=hx
   exact ⟨_,_,_,rfl⟩
  ·obtain ⟨b,c,rfl,_⟩:=hx
   exact ⟨_,_,_,rfl⟩
  ·obtain ⟨L,_,o,c,_,_,rfl,_⟩:=hx
   exact ⟨_,_,_,rfl⟩
 have hf:(Builtin.firstCells sz 0 (.slice a 0 cap)).run P w = .ok (#[]:Array Value) w:=by
  cases a with
  | none=>simp [Builtin.firstCells]
  | some ar=>exact run_firstCells_some w sz 0 ar 0 cap [] (by simp) (by simp)
 refine qar (u:=.int .i64 0) ?_ (by simp [Rel])
 cases b <;> simp [Builtin.copy_,run_underlying ht,Builtin.lenOf,run_sizeOf hsz,hf,storeCells,goInt]
theorem qF5 {need old by_:Nat} (hold:old < need) (hb:need * by_ <= lim):Builtin.nextslicecap need old * by_ <= 281474976710656:=
 growslice_fits hold (by unfold lim at hb; omega)
theorem qNZ {n by_:Nat} (hpos:0 < by_) (hb:n * by_ <= lim):n <= 17592186044416:=by
 unfold lim at hb
 have:n * 1 <= n * by_:=Nat.mul_le_mul_left _ hpos
 omega
theorem qzH (H:HeapAt w I m h) (hnx:m nx = none) {t u e e':TypeId} {sz by_:Nat} {z:AV} (ht:P.underlying t = some (.slice e)) (hu:P.underlying u = some (.slice e')) (hsz:qb9 P e = some sz) (hby:bytesOf P e = some by_) (hz:zeroOf P e = some z)
  (hpos:0 < sz) (hbp:0 < by_) (hzl:(qac z).length = sz) (hzok:qaB (qac z) = true) {base:Option Addr} {len cap:Nat} {old src:List AV} {olds news:List Value} {v:Value}
  (ho:(Builtin.firstCells sz len (.slice base len cap)).run P w.drew = .ok olds.toArray w.drew) (hor:qaw w I (flat old) m0 olds) (hos:∀ x ∈ old,(qac x).length = sz) (hol:old.length = len) (hok:∀ c ∈ flat old,qaR c = true)
  (hv:(Builtin.lenOf v).run P w = .ok src.length w) (hf:(Builtin.firstCells sz src.length v).run P w.drew = .ok news.toArray w.drew) (hnr:qaw w I (flat src) m0 news) (hns:∀ x ∈ src,(qac x).length = sz) (hnk:∀ c ∈ flat src,qaR c = true)
  (hgrow:cap < len + src.length) (hb:(len + src.length) * by_ <= lim) (ty:TypeId) :
  Does P w I m h nx (do pure (.value (<- Builtin.append_ #[t,u] ty #[.slice base len cap,v]))) (.own nx 0 none) (qbu h nx (.arr sz (old ++ src) false)):=by
 obtain ⟨i,hi,hisz⟩:=qk4 hsz
 obtain ⟨zv,hzv,hav⟩:=qr6 hi hz
 simp only [bytesOf,hi,Option.map_some,Option.some.injEq] at hby
 have hzr:Rel w I z m0 zv:=hav _ _ _
 have hzc:=qbC hzr hzok
 have hzs:zv.cells.size = sz:=by rw [<- hzl,<- qaH hzc]; simp
 subst hisz; subst hby
 have hn:=qNZ hbp hb
 have hrun:=qrw (P:=P) (ty:=ty) ht hu hi hzv ho hv hf hgrow (by omega) (qF5 hgrow hb)
 have hcap:len + src.length <= grownCap w (len + src.length) cap e:=grownCap_ge w _ _ _
 have hall:∀ x ∈ old ++ src,(qac x).length = i.size:=fun x hx=>by
  rcases List.mem_append.1 hx with hx | hx
  ·exact hos x hx
  ·exact hns x hx
 have hrel:qaw w I (flat (old ++ src)) m0 (olds ++ news):=by rw [qby]; exact qcv hor hnr
 have hl1:=qaH hor
 have hl2:=qaH hnr
 have hfo:=qa5 hos
 have hfn:=qa5 hns
 have hA:(olds.toArray ++ news.toArray ++ Builtin.zeroCells zv.cells (grownCap w (len + src.length) cap e - (len + src.length))).toList = (olds ++ news) ++ (Builtin.zeroCells zv.cells (grownCap w (len + src.length) cap e - (len + src.length))).toList:=by
  simp
 have hbk:=qnd (w:=w.drew) H.drew hnx (nx:=nx) (sz:=i.size) (es:=old ++ src) hall (qd9 (show Stays w w.drew I from ⟨Nat.le_refl _,fun _ C _ h=>⟨C,h,rfl⟩,fun _ _ _=>rfl,⟨rfl,rfl,rfl⟩⟩) (fun _ _ h=>h) _ (fun _ _ h=>h) hrel) (fun c hc=>by
  rw [qby] at hc
  rcases List.mem_append.1 hc with hc | hc
  ·exact hok c hc
  ·exact hnk c hc) e hA
 have hsize:(olds.toArray ++ news.toArray ++ Builtin.zeroCells zv.cells (grownCap w (len + src.length) cap e - (len + src.length))).size = grownCap w (len + src.length) cap e * i.size:=by
  simp only [Array.size_append,List.size_toArray,size_zeroCells,hzs,hl1,hl2,hfo,hfn,hol,<- Nat.add_mul]
  congr 1; omega
 refine ⟨_,_,I,_,by rw [Sem.run_bind,hrun]; rfl,(After.alloc H.drew hnx _ _ rfl _ hbk).drew,.inl ⟨_,rfl,?_⟩⟩
 exact qgD (heap_alloc_new w.drew _) hcap (by simpa [hol] using hcap) (by rw [hsize]; exact Nat.le_refl _) (by simp [qa9,hol])
theorem qrq {L:Loc} {sz:Nat} {es:List AV} {fz:Bool} (hat:BlkAt w I m L (.arr sz es fz)) (off n:Nat) :
  ∃ us:List Value,qaw w I (flat ((es.drop off).take n)) m0 us /\ (∀ x ∈ (es.drop off).take n,(qac x).length = sz) /\ (∀ c ∈ flat ((es.drop off).take n),qaR c = true):=by
 have hok:=qJE hat
 obtain ⟨_,_,h3,C,e,hC,_,hcell,_⟩:=hat
 have h3':∀ x ∈ (es.drop off).take n,(qac x).length = sz:=fun x hx=>h3 x (List.mem_of_mem_drop (List.mem_of_mem_take hx))
 obtain ⟨us,hl,hq⟩:=qjJ (Q:=fun i c u=>Rel w I c m0 u) (flat es) fun i c hc=>by
  obtain ⟨u,_,_,hr⟩:=hcell i c hc; exact ⟨u,hr⟩
 have hr:qaw w I (flat es) m0 us:=qnS hl hq
 have h3d:∀ x ∈ es.drop off,(qac x).length = sz:=fun x hx=>h3 x (List.mem_of_mem_drop hx)
 refine ⟨(us.drop (off * sz)).take (n * sz),?_,h3',fun c hc=>?_⟩
 ·rw [qd2 h3d,qd1 h3]; exact qdd _ (qdb _ hr)
 ·simp only [flat,List.mem_flatMap] at hc
  obtain ⟨x,hx,hc⟩:=hc
  exact hok c (qnz (List.mem_of_mem_drop (List.mem_of_mem_take hx)) hc)
theorem qWv (H:HeapAt w I m h) (hnx:m nx = none) {t u e e':TypeId} {sz by_:Nat} {z:AV} (ht:P.underlying t = some (.slice e)) (hu:P.underlying u = some (.slice e')) (hsz:qb9 P e = some sz) (hby:bytesOf P e = some by_) (hz:zeroOf P e = some z)
  (hpos:0 < sz) (hbp:0 < by_) (hzl:(qac z).length = sz) (hzok:qaB (qac z) = true) {s x:AV} {sv v:Value} (hsr:Rel w I s m sv) (hxr:Rel w I x m v) {src:List AV} (hs:qn0 h sz x = some src) {r:AV} {h':Heap}
  (ha:qwg h nx sz by_ s src = some (r,h')) (ty:TypeId) :
  Does P w I m h nx (do pure (.value (<- Builtin.append_ #[t,u] ty #[sv,v]))) r h':=by
 obtain ⟨news,hnr,hn1,hns,hnk,hrun⟩:=qrA (P:=P) H hxr hs
 obtain ⟨hv,hf⟩:=hrun w rfl
 obtain ⟨_,hfd⟩:=hrun w.drew rfl
 have hnl:=qaH hnr
 have hfn:=qa5 hns
 have none_case:∀ {base:Option Addr} {len cap:Nat},len <= cap -> src.length = 0 -> sv = .slice base len cap -> Does P w I m h nx (do pure (.value (<- Builtin.append_ #[t,u] ty #[sv,v]))) s h:=by
  intro base len cap hle hz0 he
  have hn0:news = []:=List.eq_nil_of_length_eq_zero (by rw [hnl,hfn,hz0]; simp)
  rw [hz0] at hv hf
  rw [hn0] at hf
  subst he
  exact (qar (qrx (P:=P) ht hu hsz hle hv hf) hsr).does H
 cases s <;> simp only [qwg,reduceCtorEq] at ha
 case nils=>
  simp only [Rel] at hsr
  split at ha
  ·rename_i h0
   simp only [Option.some.injEq,Prod.mk.injEq] at ha; obtain ⟨rfl,rfl⟩:=ha
   obtain ⟨b,cap,he,_⟩:=qd6 hsr
   exact none_case (Nat.zero_le cap) h0 he
  ·rename_i h0
   split at ha
   ·cases ha
   ·rename_i hk
    split at ha
    ·rename_i hl
     simp only [Option.some.injEq,Prod.mk.injEq] at ha; obtain ⟨rfl,rfl⟩:=ha
     obtain ⟨b,cap,rfl,hc,_⟩:=hsr
     have hc0:=hc (fun h=>hk h)
     subst hc0
     have:=qzH H hnx (u:=u) ht hu hsz hby hz hpos hbp hzl hzok (base:=b) (len:=0) (cap:=0) (old:=[]) (src:=src) (olds:=[]) (v:=v) (by
      cases b with
      | none=>simp [Builtin.firstCells]
      | some ar=>exact run_firstCells_some w.drew sz 0 ar 0 0 [] (by simp) (by simp)) (by simp [qaw,flat]) (by simp) rfl (by simp [flat]) hv hfd hnr hns hnk (by omega) (by simpa using hl) ty
     simpa using this
    ·cases ha
 case view sz' es=>
  split at ha
  ·rename_i h0
   simp only [Option.some.injEq,Prod.mk.injEq] at ha; obtain ⟨rfl,rfl⟩:=ha
   have:=hsr
   simp only [Rel] at this
   obtain ⟨ar,cap,he,hcap,_⟩:=this
   exact none_case hcap h0 he
  ·cases ha
 case own id off lo=>
  split at ha
  ·rename_i sz' es hl
   split at ha
   ·rename_i hc
    subst hc
    have hsr':=hsr
    simp only [Rel] at hsr'
    obtain ⟨L,hL,o,cap,C,et,he,hcap,ho,hnum,hC,hsize⟩:=hsr'
    obtain ⟨L',hL',hat⟩:=H.at_ id _ hl
    rw [hL] at hL'; cases hL'
    have hat':=hat
    obtain ⟨g1,g2,g3,C',et',hC',hsz',hcell,hlive⟩:=hat'
    rw [hC] at hC'; cases hC'
    simp only [Bool.false_eq_true,if_false] at hlive
    have hfl:=qa5 g3
    split at ha
    ·rename_i h0
     simp only [Option.some.injEq,Prod.mk.injEq] at ha; obtain ⟨rfl,rfl⟩:=ha
     exact none_case hcap h0 he
    ·rename_i h0
     have gen:∀ len,qa9 L.num off lo = len ->
       (∀ _:len + src.length <= cap,o = L.base + off * sz' /\ o + len * sz' + news.length <= C.size) /\
       (∀ _:len + src.length <= cap,(Builtin.append_ #[t,u] ty #[sv,v]).run P w = .ok (.slice (some (ad L.blk o)) (len + src.length) cap) (w.setRow L.blk (C.toList.take (o + len * sz') ++ news ++ C.toList.drop (o + len * sz' + news.length)).toArray)) /\
       (∀ _:len + src.length <= cap,(C.toList.take (o + len * sz') ++ news ++ C.toList.drop (o + len * sz' + news.length)).toArray.size = C.size):=by
      intro len hlen
      rw [hlen] at he hcap
      have hpl:len + src.length <= cap -> o = L.base + off * sz' /\ o + len * sz' + news.length <= C.size:=fun hroom=>by
       have ho':=ho (by omega)
       rw [g2] at ho'
       refine ⟨ho',?_⟩
       have h1:(off + cap) * sz' <= C.size - L.base:=by rw [g2] at hsize; omega
       have h2:(off + (len + src.length)) * sz' <= (off + cap) * sz':=Nat.mul_le_mul_right _ (by omega)
       have h3:(off + (len + src.length)) * sz' = off * sz' + len * sz' + src.length * sz':=by rw [Nat.add_mul,Nat.add_mul]; omega
       have h4:L.base <= C.size:=by rw [g2] at hsize; omega
       rw [hnl,hfn]; omega
      have hplace:∀ hroom:len + src.length <= cap,(Builtin.append_ #[t,u] ty #[sv,v]).run P w = .ok (.slice (some (ad L.blk o)) (len + src.length) cap) (w.setRow L.blk (C.toList.take (o + len * sz') ++ news ++ C.toList.drop (o + len * sz' + news.length)).toArray):=fun hroom=>by
       rw [he]; exact qnY (P:=P) ht hu hsz hC hv hf hn1 hroom (hpl hroom).2
      have hsz2:∀ hroom:len + src.length <= cap,(C.toList.take (o + len * sz') ++ news ++ C.toList.drop (o + len * sz' + news.length)).toArray.size = C.size:=fun hroom=>by
       have:=(hpl hroom).2
       simp; omega
      exact ⟨hpl,hplace,hsz2⟩
     have hmain:∀ len,qa9 L.num off lo = len -> off + len <= es.length -> (len + src.length) * by_ <= lim -> Does P w I m h nx (do pure (.value (<- Builtin.append_ #[t,u] ty #[sv,v]))) (.own nx 0 none) (qbu (qqk h id) nx (.arr sz' ((es.drop off).take len ++ src) false)):=by
      intro len hlen hle hl2
      obtain ⟨hpl,hplace,hsz2⟩:=gen len hlen
      rw [hlen] at he hcap
      obtain ⟨olds,hor,hos,hok⟩:=qrq hat off len
      have hol:((es.drop off).take len).length = len:=by simp; omega
      have hids:id ≠ nx:=fun e=>by rw [e,hnx] at hL; cases hL
      by_cases hroom:len + src.length <= cap
      ·have ho':=(hpl hroom).1
       have hfit:=(hpl hroom).2
       have hc0:cap ≠ 0:=by omega
       have hst:Stays w (w.setRow L.blk (C.toList.take (o + len * sz') ++ news ++ C.toList.drop (o + len * sz' + news.length)).toArray) I:=qaW H hC (hsz2 hroom) hlive
       have hT:∀ x ∈ (es.drop off).take len ++ src,(qac x).length = sz':=fun x hx=>by
        rcases List.mem_append.1 hx with hx | hx
        ·exact hos x hx
        ·exact hns x hx
       have hle2:(off + len) * sz' <= es.length * sz':=Nat.mul_le_mul_right _ hle
       have hlo:(flat ((es.drop off).take len)).length = len * sz':=by rw [qa5 hos,hol]
       have hon:o + len * sz' <= C.size:=by omega
       refine ⟨_,_,I,_,by rw [Sem.run_bind,hplace hroom]; rfl,After.over H hnx hl hL (L':=⟨L.blk,o,sz',len + src.length⟩) rfl hlive hC (hsz2 hroom) ⟨by simp [hol],rfl,hT,_,et,setRow_heap w L.blk _ _ _ _ hC,?_,fun i c hc'=>?_,by simpa using hlive⟩,.inl ⟨_,rfl,?_⟩⟩
       ·rw [hsz2 hroom]
        simp only [List.length_append,hol,Nat.add_mul]
        rw [hnl,hfn] at hfit; omega
       ·rw [qby] at hc'
        by_cases hi:i < len * sz'
        ·rw [List.getElem?_append_left (by omega)] at hc'
         have h3d:∀ x ∈ es.drop off,(qac x).length = sz':=fun x hx=>g3 x (List.mem_of_mem_drop hx)
         rw [qd2 h3d,qd1 g3,List.getElem?_take,if_pos hi,List.getElem?_drop] at hc'
         obtain ⟨q,hq,hk,hr⟩:=hcell _ c hc'
         refine ⟨q,?_,hk,qaA hst (fun _ _ h=>h) c (fun _ _ h=>h) hr⟩
         show (C.toList.take (o + len * sz') ++ news ++ C.toList.drop (o + len * sz' + news.length)).toArray[o + i]? = some q
         rw [List.getElem?_toArray,List.append_assoc,List.getElem?_append_left (by simp; omega),List.getElem?_take,if_pos (by omega)]
         rw [ho',Nat.add_assoc]; simpa using hq
        ·rw [List.getElem?_append_right (by omega),hlo] at hc'
         obtain ⟨q,hq,hr⟩:=qbf hnr _ c hc'
         refine ⟨q,?_,hnk c (List.mem_of_getElem? hc'),qaA hst (fun _ _ h=>h) c (fun _ _ h=>h) hr⟩
         have hqi:i - len * sz' < news.length:=(List.getElem?_eq_some_iff.1 hq).1
         show (C.toList.take (o + len * sz') ++ news ++ C.toList.drop (o + len * sz' + news.length)).toArray[o + i]? = some q
         have hTk:(C.toList.take (o + len * sz')).length = o + len * sz':=by simp; omega
         rw [List.getElem?_toArray,List.append_assoc,List.getElem?_append_right (by omega),hTk,List.getElem?_append_left (by omega)]
         rw [show o + i - (o + len * sz') = i - len * sz' by omega]; exact hq
       ·simp only [Rel]
        refine ⟨⟨L.blk,o,sz',len + src.length⟩,by simp [named],o,cap,_,et,rfl,hroom,fun _=>by simp,by simpa using hroom,setRow_heap w L.blk _ _ _ _ hC,?_⟩
        rw [hsz2 hroom]
        simp only [Nat.zero_add]
        rw [ho']
        rw [g2,Nat.add_mul] at hsize; omega
      ·have hfo:(Builtin.firstCells sz' len (.slice (some (ad L.blk o)) len cap)).run P w.drew = .ok olds.toArray w.drew -> True:=fun _=>trivial
       have hsrc:=qrA (P:=P) H hsr (show qn0 h sz' (.own id off lo) = some ((es.drop off).take len) by
        cases lo with
        | none=>
         rw [qcD,g1] at hlen
         simp only [qn0,hl,if_true,qfH]
         rw [List.take_of_length_le (by simp; omega)]
        | some n=>
         rw [qq1] at hlen
         subst hlen
         simp [qn0,hl,hle,qfV])
       obtain ⟨olds2,hor2,_,hos2,hok2,hrun2⟩:=hsrc
       obtain ⟨_,hfo2⟩:=hrun2 w.drew rfl
       rw [hol,he] at hfo2
       rw [he]
       have hD:=qzH H hnx (u:=u) ht hu hsz hby hz hpos hbp hzl hzok hfo2 hor2 hos2 hol hok2 hv hfd hnr hns hnk (by omega) hl2 ty
       obtain ⟨nn,w',I',m',h1,h2,h3⟩:=hD
       refine ⟨nn,w',I',m',h1,h2.less fun i b hi=>?_,h3⟩
       rw [qaP] at hi ⊢
       by_cases ei:i = nx
       ·rw [if_pos ei] at hi ⊢; exact hi
       ·rw [if_neg ei] at hi ⊢
        rw [qd3] at hi
        by_cases e2:i = id
        ·rw [if_pos e2] at hi; cases hi
        ·rw [if_neg e2] at hi; exact hi
     split at ha
     ·split at ha
      ·rename_i hc2
       simp only [Option.some.injEq,Prod.mk.injEq] at ha; obtain ⟨rfl,rfl⟩:=ha
       have:=hmain (es.length - off) (by rw [qcD,g1]) (by omega) (by simpa [qcD] using hc2.2)
       rw [List.take_of_length_le (by simp)] at this
       rw [qfH]; exact this
      ·cases ha
     ·rename_i len
      obtain ⟨hpl,hplace,hsz2⟩:=gen len rfl
      split at ha
      ·rename_i hle
       split at ha
       ·rename_i hin
        simp only [Option.some.injEq,Prod.mk.injEq] at ha; obtain ⟨rfl,rfl⟩:=ha
        rw [qq1] at he hcap
        have hroom:len + src.length <= cap:=by omega
        have ho':=(hpl hroom).1
        have hfit:=(hpl hroom).2
        have hst:Stays w (w.setRow L.blk (C.toList.take (o + len * sz') ++ news ++ C.toList.drop (o + len * sz' + news.length)).toArray) I:=qaW H hC (hsz2 hroom) hlive
        have hsm:src.length * sz' + (off + len) * sz' <= es.length * sz':=by rw [<- Nat.add_mul]; exact Nat.mul_le_mul_right _ (by omega)
        have hT:∀ x ∈ es.take (off + len) ++ src ++ es.drop (off + len + src.length),(qac x).length = sz':=fun x hx=>by
         rcases List.mem_append.1 hx with hx | hx
         ·rcases List.mem_append.1 hx with hx | hx
          ·exact g3 x (List.mem_of_mem_take hx)
          ·exact hns x hx
         ·exact g3 x (List.mem_of_mem_drop hx)
        have hlen':(es.take (off + len) ++ src ++ es.drop (off + len + src.length)).length = es.length:=by simp; omega
        have hflat:flat (es.take (off + len) ++ src ++ es.drop (off + len + src.length)) = splice (flat es) ((off + len) * sz') (flat src):=by
         unfold splice
         rw [qby,qby,qd2 g3,qd1 g3,hfn,<- Nat.add_mul]
        refine ⟨_,_,I,m,by rw [Sem.run_bind,hplace hroom]; rfl,After.write H hl hL hlive hC (hsz2 hroom) ⟨by rw [hlen']; exact g1,g2,hT,_,et,setRow_heap w L.blk _ _ _ _ hC,?_,fun i c hc'=>?_,by simpa using hlive⟩,.inl ⟨_,rfl,?_⟩⟩
        ·rw [hsz2 hroom,hlen']; exact hsz'
        ·rw [hflat] at hc'
         have hg:=qfT (C:=C.toList) (us:=news) (base:=L.base) (off:=(off + len) * sz') (cs:=flat es) (vs:=flat src) hnl (by rw [hfl,hfn]; omega) (by rw [hfl]; simpa using hsz')
          (Q:=fun c v=>qaR c = true /\ Rel w I c m0 v) (fun i c hc=>by simpa using hcell i c hc) (fun i c hc=>by
           obtain ⟨q,hq,hr⟩:=qbf hnr i c hc
           exact ⟨q,hq,hnk c (List.mem_of_getElem? hc),hr⟩) i c hc'
         obtain ⟨q,hq,hk,hr⟩:=hg
         refine ⟨q,?_,hk,qaA hst (fun _ _ h=>h) c (fun _ _ h=>h) hr⟩
         rw [ho']
         rw [show L.base + (off + len) * sz' = L.base + off * sz' + len * sz' by rw [Nat.add_mul]; omega] at hq
         simpa using hq
        ·simp only [Rel]
         refine ⟨L,hL,o,cap,_,et,rfl,hroom,ho,hnum,setRow_heap w L.blk _ _ _ _ hC,?_⟩
         rw [hsz2 hroom]; exact hsize
       ·split at ha
        ·rename_i hl2
         simp only [Option.some.injEq,Prod.mk.injEq] at ha; obtain ⟨rfl,rfl⟩:=ha
         rw [qfV]
         exact hmain len rfl hle hl2
        ·cases ha
      ·cases ha
   ·cases ha
  ·cases ha
theorem qWx (H:HeapAt w I m h) {t e:TypeId} {sz:Nat} {z:AV} (ht:P.underlying t = some (.slice e)) (hsz:qb9 P e = some sz) (hz:zeroOf P e = some z) (hpos:0 < sz) (hzl:(qac z).length = sz) (hzok:qaB (qac z) = true)
  {id off len:Nat} {es:List AV} (hid:qad h id = some (.arr sz es false)) (hle:off + len <= es.length) {lo:Option Nat} (hlo:qa9 es.length off lo = len) {v:Value} (hr:Rel w I (.own id off lo) m v) (ty:TypeId) :
  Does P w I m h nx (do pure (.value (<- Builtin.clear_ #[t] ty #[v]))) unit (qbu h id (.arr sz (es.take off ++ List.replicate len (nz z) ++ es.drop (off + len)) false)):=by
 simp only [Rel] at hr
 obtain ⟨L,hL,o,cap,C,et,rfl,hcap,ho,hnum,hC,hsize⟩:=hr
 obtain ⟨L',hL',hat⟩:=H.at_ id _ hid
 rw [hL] at hL'; cases hL'
 obtain ⟨g1,g2,g3,C',et',hC',hsz',hcell,hlive⟩:=hat
 rw [hC] at hC'; cases hC'
 simp only [Bool.false_eq_true,if_false] at hlive
 have hlen:qa9 L.num off lo = len:=by rw [g1,hlo]
 rw [hlen] at hcap ⊢
 obtain ⟨zv,hzv,hav⟩:=qcx hz w
 have hzr:Rel w I (nz z) m0 zv:=qfs _ (hav _ _ _)
 rw [<- qCC] at hzl
 rw [<- qN6] at hzok
 generalize nz z = z at *
 have hzc:=qbC hzr hzok
 have hzs:zv.cells.size = sz:=by rw [<- hzl,<- qaH hzc]; simp
 have hz2:=qlo hzc len
 rw [hzl,hzs] at hz2
 have hfl:=qa5 g3
 have hzero:(Builtin.zeroCells zv.cells len).toList = (List.range (len * sz)).map fun i=>zv.cells[i % sz]!:=by
  simp [Builtin.zeroCells,hzs]
 have hzok2:∀ q ∈ flat (List.replicate len z),qaR q = true:=fun q hq=>by
  simp only [flat,List.mem_flatMap] at hq
  obtain ⟨e,he,hq⟩:=hq
  rw [List.eq_of_mem_replicate he] at hq
  exact qba hzok q hq
 by_cases hl0:len = 0
 ·subst hl0
  have hrun:(Builtin.clear_ #[t] ty #[.slice (some (ad L.blk o)) 0 cap]).run P w = .ok (.tuple #[]) w:=by
   simp [Builtin.clear_,run_underlying ht]
  refine ⟨_,w,I,m,by rw [Sem.run_bind,hrun]; rfl,(After.same H).less' id ?_,.inl ⟨_,rfl,by simp [unit,Rel,qaw]⟩⟩
  intro i
  rw [qaP]
  by_cases ei:i = id
  ·subst ei; simp [hid]
  ·simp [ei]
 ·have hc0:cap ≠ 0:=by omega
  have ho':=ho hc0
  rw [g2] at ho' hsize
  have hfit:o + len * sz <= C.size:=by
   have h1:(off + len) * sz <= (off + cap) * sz:=Nat.mul_le_mul_right _ (by omega)
   rw [Nat.add_mul] at h1; omega
  have hzl2:((List.range (len * sz)).map fun i=>zv.cells[i % sz]!).length = len * sz:=by simp
  have hst:=run_storeCells_at P L.blk o et ((List.range (len * sz)).map fun i=>zv.cells[i % sz]!) 0 C w hC (by rw [hzl2]; omega) (qdy hz2 (qlK hzok2))
  simp only [Nat.add_zero] at hst
  rw [<- ad] at hst
  have hrun:(Builtin.clear_ #[t] ty #[.slice (some (ad L.blk o)) len cap]).run P w = .ok (.tuple #[]) (w.setRow L.blk (C.toList.take o ++ ((List.range (len * sz)).map fun i=>zv.cells[i % sz]!) ++ C.toList.drop (o + ((List.range (len * sz)).map fun i=>zv.cells[i % sz]!).length)).toArray):=by
   obtain ⟨k,rfl⟩:∃ k,len = k + 1:=⟨len - 1,by omega⟩
   simp only [Builtin.clear_,List.getElem?_toArray,List.getElem?_cons_zero,Sem.run_bind,run_underlying ht,Result.andThen_ok,hzv,hzero,hst,Sem.run_pure]
  have hsz2:(C.toList.take o ++ ((List.range (len * sz)).map fun i=>zv.cells[i % sz]!) ++ C.toList.drop (o + ((List.range (len * sz)).map fun i=>zv.cells[i % sz]!).length)).toArray.size = C.size:=by
   simp; omega
  have hstay:=qaW H hC hsz2 hlive
  have hT:∀ x ∈ es.take off ++ List.replicate len z ++ es.drop (off + len),(qac x).length = sz:=fun x hx=>by
   rcases List.mem_append.1 hx with hx | hx
   ·rcases List.mem_append.1 hx with hx | hx
    ·exact g3 x (List.mem_of_mem_take hx)
    ·rw [List.eq_of_mem_replicate hx]; exact hzl
   ·exact g3 x (List.mem_of_mem_drop hx)
  have hlen':(es.take off ++ List.replicate len z ++ es.drop (off + len)).length = es.length:=by simp; omega
  have hflz:(flat (List.replicate len z)).length = len * sz:=by rw [qa5 (sz:=sz) (fun e he=>by rw [List.eq_of_mem_replicate he]; exact hzl)]; simp
  have hflat:flat (es.take off ++ List.replicate len z ++ es.drop (off + len)) = splice (flat es) (off * sz) (flat (List.replicate len z)):=by
   unfold splice
   rw [qby,qby,qd2 g3,qd1 g3,hflz,<- Nat.add_mul]
  have hsm:off * sz + len * sz <= es.length * sz:=by rw [<- Nat.add_mul]; exact Nat.mul_le_mul_right _ hle
  refine ⟨_,_,I,m,by rw [Sem.run_bind,hrun]; rfl,After.write H hid hL hlive hC hsz2 ⟨by rw [hlen']; exact g1,g2,hT,_,et,setRow_heap w L.blk _ _ _ _ hC,?_,fun i c hc'=>?_,by simpa using hlive⟩,.inl ⟨_,rfl,by simp [unit,Rel,qaw]⟩⟩
  ·rw [hsz2,hlen']; exact hsz'
  ·rw [hflat] at hc'
   have hg:=qfT (C:=C.toList) (us:=(List.range (len * sz)).map fun i=>zv.cells[i % sz]!) (base:=L.base) (off:=off * sz) (cs:=flat es) (vs:=flat (List.replicate len z)) (by rw [hzl2,hflz]) (by rw [hfl,hflz]; omega) (by rw [hfl]; simpa using hsz')
    (Q:=fun c v=>qaR c = true /\ Rel w I c m0 v) (fun i c hc=>by simpa using hcell i c hc) (fun i c hc=>by
     obtain ⟨q,hq,hr⟩:=qbf hz2 i c hc
     exact ⟨q,hq,hzok2 c (List.mem_of_getElem? hc),hr⟩) i c hc'
   obtain ⟨q,hq,hk,hr⟩:=hg
   refine ⟨q,?_,hk,qaA hstay (fun _ _ h=>h) c (fun _ _ h=>h) hr⟩
   rw [ho']; simpa using hq
end
end Go.Eng
namespace Go.Eng
def qfZ (ks:Key):List (AV × AV) -> AV -> Option (Option Nat)
 | [],_=>some none
 | (k,_) :: m,x=>match qa7 ks x k with
  | some true=>some (some 0)
  | some false=>(qfZ ks m x).map fun r=>r.map (· + 1)
  | none=>none
theorem qq4 {ks:Key}:∀ {m:List (AV × AV)} {x:AV} {r:Option AV},qkv ks m x = some r -> ∃ ri,qfZ ks m x = some ri /\ r = ri.bind fun i=>(m[i]?).map (·.2)
 | [],x,r,h=>by simp [qkv] at h; subst h; exact ⟨none,rfl,rfl⟩
 | (k,v) :: m,x,r,h=>by
  simp only [qkv] at h
  split at h
  ·rename_i hk
   simp at h; subst h
   exact ⟨some 0,by simp [qfZ,hk],by simp⟩
  ·rename_i hk
   obtain ⟨ri,h1,h2⟩:=qq4 h
   refine ⟨ri.map (· + 1),by simp [qfZ,hk,h1],?_⟩
   rw [h2]; cases ri <;> simp
  ·cases h
theorem qq8 {ks:Key}:∀ {m:List (AV × AV)} {x y:AV} {m':List (AV × AV)},qCi ks m x y = some m' -> ∃ ri,qfZ ks m x = some ri /\
  ((ri = none /\ m' = m ++ [(x,y)]) \/ ∃ i k v,ri = some i /\ m[i]? = some (k,v) /\ m' = m.set i (k,y))
 | [],x,y,m',h=>by simp [qCi] at h; subst h; exact ⟨none,rfl,.inl ⟨rfl,rfl⟩⟩
 | (k,v) :: m,x,y,m',h=>by
  simp only [qCi] at h
  split at h
  ·rename_i hk
   simp at h; subst h
   exact ⟨some 0,by simp [qfZ,hk],.inr ⟨0,k,v,rfl,rfl,rfl⟩⟩
  ·rename_i hk
   simp only [Option.map_eq_some_iff] at h
   obtain ⟨m1,h1,rfl⟩:=h
   obtain ⟨ri,h2,h3⟩:=qq8 h1
   refine ⟨ri.map (· + 1),by simp [qfZ,hk,h2],?_⟩
   rcases h3 with ⟨rfl,rfl⟩ | ⟨i,k',v',rfl,h4,rfl⟩
   ·exact .inl ⟨rfl,rfl⟩
   ·exact .inr ⟨i + 1,k',v',rfl,by simpa using h4,rfl⟩
  ·cases h
theorem qvv {ks:Key}:∀ {m:List (AV × AV)} {x:AV} {m':List (AV × AV)},qGa ks m x = some m' -> ∃ ri,qfZ ks m x = some ri /\
  ((ri = none /\ m' = m) \/ ∃ i,ri = some i /\ i < m.length /\ m' = m.eraseIdx i)
 | [],x,m',h=>by simp [qGa] at h; subst h; exact ⟨none,rfl,.inl ⟨rfl,rfl⟩⟩
 | (k,v) :: m,x,m',h=>by
  simp only [qGa] at h
  split at h
  ·rename_i hk
   simp at h; subst h
   exact ⟨some 0,by simp [qfZ,hk],.inr ⟨0,rfl,by simp,rfl⟩⟩
  ·rename_i hk
   simp only [Option.map_eq_some_iff] at h
   obtain ⟨m1,h1,rfl⟩:=h
   obtain ⟨ri,h2,h3⟩:=qvv h1
   refine ⟨ri.map (· + 1),by simp [qfZ,hk,h2],?_⟩
   rcases h3 with ⟨rfl,rfl⟩ | ⟨i,rfl,h4,rfl⟩
   ·exact .inl ⟨rfl,rfl⟩
   ·exact .inr ⟨i + 1,rfl,by simp; omega,rfl⟩
  ·cases h
section
variable {P:Program} {w:World} {I:Imm} {m:Names} {h:Heap} {nx:Nat}
def qgP (w:World) (I:Imm):List (AV × AV) -> List MapEntry -> Prop
 | [],es=>es = []
 | kv :: kvs,es=>∃ e es',es = e :: es' /\ Rel w I kv.1 m0 e.key /\ Rel w I kv.2 m0 e.val /\ qgP w I kvs es'
theorem qbQ:∀ {kvs:List (AV × AV)} {es:List MapEntry},qgP w I kvs es ↔ es.length = kvs.length /\ ∀ (i:Nat) (kv:AV × AV),kvs[i]? = some kv -> ∃ x,es[i]? = some x /\ Rel w I kv.1 m0 x.key /\ Rel w I kv.2 m0 x.val
 | [],es=>by simp [qgP]
 | kv :: kvs,es=>by
  simp only [qgP]
  constructor
  ·rintro ⟨e,es',rfl,h1,h2,h3⟩
   obtain ⟨h4,h5⟩:=qbQ.1 h3
   refine ⟨by simp [h4],fun i kv' hi=>?_⟩
   cases i with
   | zero=>simp at hi; subst hi; exact ⟨e,rfl,h1,h2⟩
   | succ i=>simpa using h5 i kv' (by simpa using hi)
  ·rintro ⟨h1,h2⟩
   cases es with
   | nil=>simp at h1
   | cons e es'=>
    obtain ⟨x,hx,h3,h4⟩:=h2 0 kv rfl
    simp at hx; subst hx
    exact ⟨e,es',rfl,h3,h4,qbQ.2 ⟨by simpa using h1,fun i kv' hi=>by simpa using h2 (i + 1) kv' (by simpa using hi)⟩⟩
theorem qmr {t:TypeId} {ks:Key} (hk:qr8 P t = some ks):∃ d,P.underlying t = some d /\ ((ks.1 = true /\ ∃ fs,d = .struct fs) \/ (ks.1 = false /\ ((ks.2 = [.b] /\ d = .bool) \/ (ks.2 = [.i] /\ ∃ k,d = .int k) \/ (ks.2 = [.s] /\ d = .string)))):=by
 simp only [qr8] at hk
 split at hk
 ·rename_i l hl
  simp only [Option.map_eq_some_iff] at hk
  obtain ⟨a,ha,rfl⟩:=hk
  simp only [leaves] at hl
  cases hu:P.underlying t with
  | none=>simp [hu] at hl
  | some d=>
   simp only [qaT,hu,Option.map_some,Option.some.injEq] at ha
   refine ⟨d,rfl,?_⟩
   rw [hu] at hl
   cases d <;> simp only [reduceCtorEq,Option.some.injEq] at hl ha <;> subst ha
   case bool=>exact .inr ⟨rfl,.inl ⟨hl.symm,rfl⟩⟩
   case int k=>exact .inr ⟨rfl,.inr (.inl ⟨hl.symm,k,rfl⟩)⟩
   case string=>exact .inr ⟨rfl,.inr (.inr ⟨hl.symm,rfl⟩)⟩
   case struct fs=>exact .inl ⟨rfl,fs,rfl⟩
 ·cases hk
theorem qf5 {d:TypeDesc} {ks:Key} (hs:ks.1 = false) (hd:(ks.2 = [.b] /\ d = .bool) \/ (ks.2 = [.i] /\ ∃ k,d = .int k) \/ (ks.2 = [.s] /\ d = .string)) {x:AV} {u:Value} (hx:Rel w I x m u) :
  ∀ {kvs:List (AV × AV)} {es:List MapEntry} {i:Nat} {ri:Option Nat},qgP w I kvs es -> qfZ ks kvs x = some ri -> Instr.findNow d u es i = some (ri.bind fun j=>(es[j]?).map fun e=>(i + j,e.val))
 | [],es,i,ri,hr,hp=>by simp [qgP] at hr; subst hr; simp [qfZ] at hp; subst hp; simp [Instr.findNow]
 | kv :: kvs,es,i,ri,hr,hp=>by
  simp only [qgP] at hr
  obtain ⟨e,es',rfl,h1,h2,h3⟩:=hr
  simp only [qfZ] at hp
  obtain ⟨a,l⟩:=ks
  simp at hs; subst hs
  have hsame:∀ b,qa7 (false,l) x kv.1 = some b -> Instr.sameNow d u e.key = some b:=by
   intro b hb
   obtain ⟨kk,vv⟩:=kv
   simp only at h1 hb
   rcases hd with ⟨rfl,rfl⟩ | ⟨rfl,k,rfl⟩ | ⟨rfl,rfl⟩ <;> cases x <;> cases kk <;> simp only [qa7,eqK,reduceCtorEq,Option.some.injEq] at hb <;> simp only [Rel] at hx h1 <;> subst hx <;> rw [h1] <;> simp only [Instr.sameNow]
   ·rw [<- hb]
   ·rename_i k1 a k2 b2
    split at hb
    ·rename_i hk; rw [if_pos hk]; exact hb
    ·cases hb
   ·rw [<- hb]
    congr 1
    rw [beq_toListBytes]; simp
  split at hp
  ·rename_i hk
   simp at hp; subst hp
   simp only [Instr.findNow,hsame true hk]
   rfl
  ·rename_i hk
   simp only [Option.map_eq_some_iff] at hp
   obtain ⟨r,hr,rfl⟩:=hp
   have ih:=qf5 (ks:=(false,l)) rfl hd hx (i:=i + 1) h3 hr
   simp only [Instr.findNow,hsame false hk,ih]
   cases r <;> simp
   congr 1; funext e; congr 1; omega
  ·cases hp
theorem qf4 {t:TypeId} {ks:Key} (hkt:qr8 P t = some ks) {x:AV} {u:Value} (hx:Rel w I x m0 u) :
  ∀ {kvs:List (AV × AV)} {es:List MapEntry} {i:Nat} {ri:Option Nat},qgP w I kvs es -> qfZ ks kvs x = some ri -> (Instr.findAsking t u es i).run P w = .ok (ri.bind fun j=>(es[j]?).map fun e=>(i + j,e.val)) w
 | [],es,i,ri,hr,hp=>by simp [qgP] at hr; subst hr; simp [qfZ] at hp; subst hp; simp [Instr.findAsking]
 | kv :: kvs,es,i,ri,hr,hp=>by
  simp only [qgP] at hr
  obtain ⟨e,es',rfl,h1,h2,h3⟩:=hr
  simp only [qfZ] at hp
  have hsame:∀ b,qa7 ks x kv.1 = some b -> (Op.equal t u e.key).run P w = .ok b w:=fun b hb=>qkl hkt hx h1 hb 10000 (by omega)
  split at hp
  ·rename_i hk
   simp at hp; subst hp
   simp [Instr.findAsking,hsame true hk]
  ·rename_i hk
   simp only [Option.map_eq_some_iff] at hp
   obtain ⟨r,hr,rfl⟩:=hp
   have ih:=qf4 hkt hx (i:=i + 1) h3 hr
   simp only [Instr.findAsking,Sem.run_bind,hsame false hk,Result.andThen_ok,Bool.false_eq_true,if_false,ih]
   cases r <;> simp
   congr 1; funext e; congr 1; omega
  ·cases hp
theorem qeC {t:TypeId} {ks:Key} (hkt:qr8 P t = some ks) {x:AV} {u:Value} (hx:Rel w I x m0 u) (hkey:isKey ks x = true) {kvs:List (AV × AV)} {es:List MapEntry} {ri:Option Nat} (hr:qgP w I kvs es) (hp:qfZ ks kvs x = some ri) :
  (Instr.findKey t u es).run P w = .ok (ri.bind fun j=>(es[j]?).map fun e=>(j,e.val)) w:=by
 obtain ⟨d,hd,hc⟩:=qmr hkt
 simp only [Instr.findKey,Sem.run_bind,run_underlying hd,Result.andThen_ok]
 rcases hc with ⟨hs,fs,rfl⟩ | ⟨hs,hc⟩
 ·have hnow:Instr.findNow (.struct fs) u es 0 = match es with | []=>some none | _=>none:=by
   cases es with
   | nil=>rfl
   | cons e es=>
    have hagg:∃ a,u = .agg a:=by
     obtain ⟨b,l⟩:=ks
     simp at hs; subst hs
     cases x <;> simp [isKey,qa7] at hkey
     simp only [Rel] at hx
     obtain ⟨_,rfl,_⟩:=hx; exact ⟨_,rfl⟩
    obtain ⟨a,rfl⟩:=hagg
    simp [Instr.findNow,Instr.sameNow]
  rw [hnow]
  cases es with
  | nil=>
   have:kvs = []:=by cases kvs <;> simp [qgP] at hr; rfl
   subst this
   simp [qfZ] at hp; subst hp
   simp
  | cons e es=>
   have:=qf4 hkt hx (i:=0) hr hp
   simpa using this
 ·have:=qf5 hs hc hx (i:=0) hr hp
  rw [this]
  simp
theorem qe6:∀ (n:Nat) {t:TypeId} {ks:List EK},leaves P n t = some ks -> ∀ {xs:List AV} {us:List Value},qaw w I xs m us -> ∀ {b:Bool},qbS ks xs xs = some b -> ∀ {u:Value},Is P t us u -> ∀ d,n <= d -> ∀ em,(Instr.checkKey em d t u).run P w = .ok () w
 | 0,t,ks,h=>by simp [leaves] at h
 | n + 1,t,ks,h=>by
  intro hx b hb u hu d hd em
  rename_i xs us
  obtain ⟨d,rfl⟩:∃ d',d = d' + 1:=⟨d - 1,by omega⟩
  simp only [leaves] at h
  cases hU:P.underlying t with
  | none=>simp [hU] at h
  | some D=>
   rw [hU] at h
   cases D <;> simp only [reduceCtorEq] at h
   case bool=>simp [Instr.checkKey,run_underlying hU]
   case int kk=>simp [Instr.checkKey,run_underlying hU]
   case string=>simp [Instr.checkKey,run_underlying hU]
   case struct fs=>
    have hagg:qaT P t = some true:=by simp [qaT,hU]
    simp only [Is,hagg] at hu
    subst hu
    split at h
    ·cases h
    ·have key:∀ (fl:List Field) (off:Nat) (ks:List EK),qeF P (leaves P n) fl off = some ks -> ∀ {b:Bool},qbS ks (xs.drop off) (xs.drop off) = some b ->
       (forIn fl PUnit.unit (fun f _=>do
        if f.name ≠ "_" then
         Instr.checkKey em d f.type (<- Go.part f.type us.toArray f.offset)
         pure (ForInStep.yield PUnit.unit)
        else pure (ForInStep.yield PUnit.unit):Field -> PUnit -> Sem (ForInStep PUnit))).run P w = .ok PUnit.unit w:=by
      intro fl
      induction fl with
      | nil=>intro off ks hk b hb; simp
      | cons f fl ih=>
       intro off ks hk b hb
       simp only [qeF] at hk
       split at hk
       ·cases hk
       ·rename_i hne
        simp at hne
        obtain ⟨hname,hoff⟩:=hne
        split at hk
        ·rename_i ks1 hks1
         split at hk
         ·rename_i hsz
          simp only [Option.map_eq_some_iff] at hk
          obtain ⟨ks2,hks2,rfl⟩:=hk
          obtain ⟨b1,b2,e1,e2,rfl⟩:=qhJ hb
          have hag:∃ a,qaT P f.type = some a:=by
           cases n with
           | zero=>simp [leaves] at hks1
           | succ n=>
            simp only [leaves] at hks1
            cases hq:P.underlying f.type with
            | none=>simp [hq] at hks1
            | some D=>exact ⟨_,by simp [qaT,hq]; rfl⟩
          obtain ⟨a,ha⟩:=hag
          have hx1:=qdd ks1.length (qdb off hx)
          have hl1:=qiU e1
          have hpart:∃ q,(Go.part f.type us.toArray off).run P w = .ok q w /\ Is P f.type ((us.drop off).take ks1.length) q:=by
           cases a with
           | true=>exact ⟨_,qvK hsz ha us off,by simp [Is,ha]⟩
           | false=>
            have h1:ks1.length = 1:=by
             cases n with
             | zero=>simp [leaves] at hks1
             | succ n=>
              simp only [leaves] at hks1
              cases hq:P.underlying f.type with
              | none=>simp [hq] at hks1
              | some D=>
               rw [hq] at hks1
               simp only [qaT,hq,Option.map_some,Option.some.injEq] at ha
               cases D <;> simp_all <;> subst hks1 <;> rfl
            have hql:=qaH hx
            have hlen:=hl1.1
            have:off < us.length:=by
             rw [h1] at hlen; simp at hlen; omega
            refine ⟨us[off],qvL ha us off _ (by simp [this]),?_⟩
            have ht:(us.drop off).take 1 = [us[off]]:=by rw [List.drop_eq_getElem_cons this]; rfl
            simp only [Is,ha,h1,ht]
          obtain ⟨q1,hq1,hi1⟩:=hpart
          have hck:=qe6 n hks1 hx1 e1 hi1 d (by omega) em
          rw [List.drop_drop] at e2
          have hrest:=ih _ _ hks2 e2
          simp only [List.forIn_cons,Sem.run_bind]
          rw [if_pos (by simpa using hname),Sem.run_bind,hoff,hq1,Result.andThen_ok,Sem.run_bind,hck,Result.andThen_ok]
          simpa using hrest
         ·cases hk
        ·cases hk
     have hk:=key fs.toList 0 ks h (by simpa using hb)
     simp only [Instr.checkKey,Sem.run_bind,run_underlying hU,Result.andThen_ok]
     rw [<- Array.forIn_toList]
     simp at hk ⊢
     rw [hk]; rfl
theorem qdL {t:TypeId} {ks:Key} (hk:qr8 P t = some ks) {x:AV} {u:Value} (hx:Rel w I x m u) (hkey:isKey ks x = true) (em:Bool):(Instr.checkKey em 10000 t u).run P w = .ok () w:=by
 simp only [isKey,Option.isSome_iff_exists] at hkey
 obtain ⟨b,hb⟩:=hkey
 obtain ⟨xs,ys,h1,h2,h3⟩:=qc8 hb
 have:xs = ys:=by
  rcases h1 with ⟨a,h1⟩ | ⟨a,h1⟩ <;> rcases h2 with ⟨a',h2⟩ | ⟨a',h2⟩
  ·rw [h1] at h2; cases h2; rfl
  ·rw [a] at a'; cases a'
  ·rw [a] at a'; cases a'
  ·rw [h1,h2]
 subst this
 obtain ⟨us,hu,hi,hl⟩:=qkj hk h1 hx
 exact qe6 20 hl hu h3 hi 10000 (by omega) em
theorem qFA {k:EK} {x y:AV} (h:eqK k x y = some true):x = y:=by
 cases k <;> cases x <;> cases y <;> simp only [eqK,reduceCtorEq,Option.some.injEq] at h
 ·split at h
  ·rename_i hk; subst hk; simp at h; rw [h]
  ·cases h
 ·simp at h; rw [h]
 ·simp at h; rw [h]
theorem qpD:∀ {ks:List EK} {xs ys:List AV},qbS ks xs ys = some true -> xs = ys /\ ∀ x ∈ xs,∃ k,eqK k x x = some true
 | [],[],[],_=>by simp
 | [],_ :: _,_,h=>by simp [qbS] at h
 | [],[],_ :: _,h=>by simp [qbS] at h
 | k :: ks,[],_,h=>by simp [qbS] at h
 | k :: ks,_ :: _,[],h=>by simp [qbS] at h
 | k :: ks,x :: xs,y :: ys,h=>by
  simp only [qbS] at h
  split at h
  ·rename_i c d h1 h2
   simp at h
   obtain ⟨rfl,rfl⟩:=h
   obtain ⟨rfl,h3⟩:=qpD h2
   have:=qFA h1; subst this
   refine ⟨rfl,fun z hz=>?_⟩
   rcases List.mem_cons.1 hz with rfl | hz
   ·exact ⟨k,h1⟩
   ·exact h3 z hz
  ·cases h
theorem qgH {k:EK} {x:AV} (h:eqK k x x = some true) {u v:Value} (hu:Rel w I x m u) (hv:Rel w I x m v) (n:Nat):u = v /\ Instr.sameBits (n + 1) u u = true:=by
 cases k <;> cases x <;> simp only [eqK,reduceCtorEq] at h <;> simp only [Rel] at hu hv <;> subst hu <;> subst hv <;> simp [Instr.sameBits]
 show (ByteArray.mk _ == ByteArray.mk _) = true
 rw [beq_toListBytes]; simp
theorem qkL:∀ {xs:List AV} {us vs:List Value},(∀ x ∈ xs,∃ k,eqK k x x = some true) -> qaw w I xs m us -> qaw w I xs m vs -> us = vs /\ ∀ n,(us.zip us).all (fun (x,y)=>Instr.sameBits (n + 1) x y) = true
 | [],us,vs,_,hu,hv=>by simp only [qaw] at hu hv; subst hu; subst hv; simp
 | x :: xs,us,vs,hk,hu,hv=>by
  simp only [qaw] at hu hv
  obtain ⟨u,us',rfl,hu1,hu⟩:=hu
  obtain ⟨v,vs',rfl,hv1,hv⟩:=hv
  obtain ⟨k,hk1⟩:=hk x (by simp)
  obtain ⟨rfl,h2⟩:=qkL (fun y hy=>hk y (by simp [hy])) hu hv
  refine ⟨by rw [(qgH hk1 hu1 hv1 0).1],fun n=>?_⟩
  simp only [List.zip_cons_cons,List.all_cons,Bool.and_eq_true]
  exact ⟨(qgH hk1 hu1 hv1 n).2,h2 n⟩
theorem qFW {ks:Key} {x k:AV} (h:qa7 ks x k = some true) {u v:Value} (hu:Rel w I x m u) (hv:Rel w I k m v):v = u /\ Instr.sameBits 10000 v u = true:=by
 obtain ⟨xs,ys,h1,h2,h3⟩:=qc8 h
 obtain ⟨rfl,hk⟩:=qpD h3
 rcases h1 with ⟨a,rfl⟩ | ⟨a,rfl⟩ <;> rcases h2 with ⟨a',h2⟩ | ⟨a',h2⟩
 ·subst h2
  simp only [Rel] at hu hv
  obtain ⟨us,rfl,hu⟩:=hu
  obtain ⟨vs,rfl,hv⟩:=hv
  obtain ⟨rfl,hs⟩:=qkL hk hv hu
  refine ⟨rfl,?_⟩
  show Instr.sameBits (9999 + 1) _ _ = true
  simp only [Instr.sameBits]
  simpa using hs 9998
 ·rw [a] at a'; cases a'
 ·rw [a] at a'; cases a'
 ·have:x = k:=by simpa using h2
  subst this
  obtain ⟨kk,hk1⟩:=hk x (by simp)
  obtain ⟨rfl,hs⟩:=qgH hk1 hv hu 9999
  exact ⟨rfl,hs⟩
theorem qdt {ks:Key}:∀ {kvs:List (AV × AV)} {x:AV} {i:Nat},qfZ ks kvs x = some (some i) -> ∃ k v,kvs[i]? = some (k,v) /\ qa7 ks x k = some true
 | [],x,i,h=>by simp [qfZ] at h
 | (k,v) :: kvs,x,i,h=>by
  simp only [qfZ] at h
  split at h
  ·rename_i hk
   simp at h; subst h
   exact ⟨k,v,rfl,hk⟩
  ·simp only [Option.map_eq_some_iff] at h
   obtain ⟨r,hr,he⟩:=h
   cases r with
   | none=>simp at he
   | some j=>
    simp at he; subst he
    obtain ⟨k',v',h1,h2⟩:=qdt hr
    exact ⟨k',v',by simpa using h1,h2⟩
  ·cases h
end
end Go.Eng

/- The structs of books as plain data, and what is read of lists of them. Printed by a program of mine. -/
import Derived.Test.YtpoebijgpbaccaaGreatTkA
import Derived.Test.YtpoebijgpbaccaaGreatOfA
set_option linter.unusedVariables false
set_option linter.unusedSimpArgs false
set_option linter.unnecessarySimpa false
namespace Go.Tk
open Go Go.Eng
set_option maxRecDepth 20000
structure Gl where
 id:Int
 parent:Int
 kind:Int
 name:List UInt8
def Gl.av (x:Gl):AV:=.agg [.int .i64 x.id,.int .i64 x.parent,.int .i64 x.kind,.str x.name]
abbrev EGl (l:List Gl):List AV:=l.map Gl.av
abbrev q4d:List CS:=[CS.int IntKind.i64,CS.int IntKind.i64,CS.int IntKind.i64,CS.str]
theorem q6b (h:Gl):qfK q4d (qac h.av) = true:=rfl
theorem qsf {l:List Gl} {n:Nat} (h:n < l.length):qaw q4d (EGl l) (n:Int) = true:=qbv q6b h
structure Acc where
 id:Int
 opened:Int
 closed:Int
 extra:Int
 owner:List UInt8
 prod:List UInt8
 number:List UInt8
def Acc.av (x:Acc):AV:=.agg [.int .i64 x.id,.int .i64 x.opened,.int .i64 x.closed,.int .i64 x.extra,.str x.owner,.str x.prod,.str x.number]
abbrev EAc (l:List Acc):List AV:=l.map Acc.av
abbrev q4a:List CS:=[CS.int IntKind.i64,CS.int IntKind.i64,CS.int IntKind.i64,CS.int IntKind.i64,CS.str,CS.str,CS.str]
theorem q58 (h:Acc):qfK q4a (qac h.av) = true:=rfl
theorem qMT {l:List Acc} {n:Nat} (h:n < l.length):qaw q4a (EAc l) (n:Int) = true:=qbv q58 h
theorem qCL {l:List Acc} {n:Nat} (h:n < l.length):intOf (cellAt (EAc l) (n:Int) 0) = l[n].id:=by rw [qad h]; rfl
theorem qZG {l:List Acc} {n:Nat} (h:n < l.length):intOf (cellAt (EAc l) (n:Int) 1) = l[n].opened:=by rw [qad h]; rfl
theorem qZH {l:List Acc} {n:Nat} (h:n < l.length):intOf (cellAt (EAc l) (n:Int) 2) = l[n].closed:=by rw [qad h]; rfl
theorem qZI {l:List Acc} {n:Nat} (h:n < l.length):intOf (cellAt (EAc l) (n:Int) 3) = l[n].extra:=by rw [qad h]; rfl
theorem qZJ {l:List Acc} {n:Nat} (h:n < l.length):strOf (cellAt (EAc l) (n:Int) 4) = l[n].owner:=by rw [qad h]; rfl
theorem qZK {l:List Acc} {n:Nat} (h:n < l.length):strOf (cellAt (EAc l) (n:Int) 5) = l[n].prod:=by rw [qad h]; rfl
theorem qZL {l:List Acc} {n:Nat} (h:n < l.length):strOf (cellAt (EAc l) (n:Int) 6) = l[n].number:=by rw [qad h]; rfl
structure Hol where
 id:Int
 acc:Int
 amt:Int
 from_:Int
 to_:Int
 key:List UInt8
def Hol.av (x:Hol):AV:=.agg [.int .i64 x.id,.int .i64 x.acc,.int .i64 x.amt,.int .i64 x.from_,.int .i64 x.to_,.str x.key]
abbrev EHo (l:List Hol):List AV:=l.map Hol.av
abbrev q4e:List CS:=[CS.int IntKind.i64,CS.int IntKind.i64,CS.int IntKind.i64,CS.int IntKind.i64,CS.int IntKind.i64,CS.str]
theorem q6c (h:Hol):qfK q4e (qac h.av) = true:=rfl
theorem qCJ {l:List Hol} {n:Nat} (h:n < l.length):qaw q4e (EHo l) (n:Int) = true:=qbv q6c h
theorem q8a {l:List Hol} {n:Nat} (h:n < l.length):intOf (cellAt (EHo l) (n:Int) 0) = l[n].id:=by rw [qad h]; rfl
theorem q41 {l:List Hol} {n:Nat} (h:n < l.length):intOf (cellAt (EHo l) (n:Int) 1) = l[n].acc:=by rw [qad h]; rfl
theorem q42 {l:List Hol} {n:Nat} (h:n < l.length):intOf (cellAt (EHo l) (n:Int) 2) = l[n].amt:=by rw [qad h]; rfl
theorem q43 {l:List Hol} {n:Nat} (h:n < l.length):intOf (cellAt (EHo l) (n:Int) 3) = l[n].from_:=by rw [qad h]; rfl
theorem q44 {l:List Hol} {n:Nat} (h:n < l.length):intOf (cellAt (EHo l) (n:Int) 4) = l[n].to_:=by rw [qad h]; rfl
theorem q8b {l:List Hol} {n:Nat} (h:n < l.length):strOf (cellAt (EHo l) (n:Int) 5) = l[n].key:=by rw [qad h]; rfl
structure Blo where
 id:Int
 acc:Int
 kind:Int
 amt:Int
 from_:Int
 to_:Int
 src:List UInt8
def Blo.av (x:Blo):AV:=.agg [.int .i64 x.id,.int .i64 x.acc,.int .i64 x.kind,.int .i64 x.amt,.int .i64 x.from_,.int .i64 x.to_,.str x.src]
abbrev EBl (l:List Blo):List AV:=l.map Blo.av
abbrev q4c:List CS:=[CS.int IntKind.i64,CS.int IntKind.i64,CS.int IntKind.i64,CS.int IntKind.i64,CS.int IntKind.i64,CS.int IntKind.i64,CS.str]
theorem q6a (h:Blo):qfK q4c (qac h.av) = true:=rfl
theorem qzH {l:List Blo} {n:Nat} (h:n < l.length):qaw q4c (EBl l) (n:Int) = true:=qbv q6a h
theorem qXj {l:List Blo} {n:Nat} (h:n < l.length):intOf (cellAt (EBl l) (n:Int) 0) = l[n].id:=by rw [qad h]; rfl
theorem qXk {l:List Blo} {n:Nat} (h:n < l.length):intOf (cellAt (EBl l) (n:Int) 1) = l[n].acc:=by rw [qad h]; rfl
theorem qVF {l:List Blo} {n:Nat} (h:n < l.length):intOf (cellAt (EBl l) (n:Int) 2) = l[n].kind:=by rw [qad h]; rfl
theorem qVG {l:List Blo} {n:Nat} (h:n < l.length):intOf (cellAt (EBl l) (n:Int) 3) = l[n].amt:=by rw [qad h]; rfl
theorem qXl {l:List Blo} {n:Nat} (h:n < l.length):intOf (cellAt (EBl l) (n:Int) 4) = l[n].from_:=by rw [qad h]; rfl
theorem qXm {l:List Blo} {n:Nat} (h:n < l.length):intOf (cellAt (EBl l) (n:Int) 5) = l[n].to_:=by rw [qad h]; rfl
theorem qXn {l:List Blo} {n:Nat} (h:n < l.length):strOf (cellAt (EBl l) (n:Int) 6) = l[n].src:=by rw [qad h]; rfl
abbrev q6f:List CS:=[CS.int IntKind.i64,CS.int IntKind.i64,CS.str]
theorem q6x (h:Leg):qfK q6f (qac h.av) = true:=rfl
theorem qIt {l:List Leg} {n:Nat} (h:n < l.length):qaw q6f (ELg l) (n:Int) = true:=qbv q6x h
theorem q5e {l:List Leg} {n:Nat} (h:n < l.length):intOf (cellAt (ELg l) (n:Int) 0) = l[n].acc:=by rw [qad h]; rfl
theorem q5f {l:List Leg} {n:Nat} (h:n < l.length):intOf (cellAt (ELg l) (n:Int) 1) = l[n].amt:=by rw [qad h]; rfl
theorem q6n {l:List Leg} {n:Nat} (h:n < l.length):strOf (cellAt (ELg l) (n:Int) 2) = l[n].cur:=by rw [qad h]; rfl
abbrev q4f:List CS:=[CS.int IntKind.i64,CS.int IntKind.i64,CS.int IntKind.i64,CS.int IntKind.i64,CS.int IntKind.i64,CS.int IntKind.i64,CS.str,CS.str,CS.slice 3,CS.int IntKind.u64]
theorem q6d (h:Enr):qfK q4f (qac h.av) = true:=rfl
theorem qZt {l:List Enr} {n:Nat} (h:n < l.length):qaw q4f (EJr l) (n:Int) = true:=qbv q6d h
theorem q45 {l:List Enr} {n:Nat} (h:n < l.length):intOf (cellAt (EJr l) (n:Int) 0) = l[n].id:=by rw [qad h]; rfl
theorem q46 {l:List Enr} {n:Nat} (h:n < l.length):intOf (cellAt (EJr l) (n:Int) 1) = l[n].booked:=by rw [qad h]; rfl
theorem q47 {l:List Enr} {n:Nat} (h:n < l.length):intOf (cellAt (EJr l) (n:Int) 2) = l[n].value:=by rw [qad h]; rfl
theorem q48 {l:List Enr} {n:Nat} (h:n < l.length):intOf (cellAt (EJr l) (n:Int) 3) = l[n].kind:=by rw [qad h]; rfl
theorem q49 {l:List Enr} {n:Nat} (h:n < l.length):intOf (cellAt (EJr l) (n:Int) 4) = l[n].auth:=by rw [qad h]; rfl
theorem q5a {l:List Enr} {n:Nat} (h:n < l.length):intOf (cellAt (EJr l) (n:Int) 5) = l[n].period:=by rw [qad h]; rfl
theorem q5b {l:List Enr} {n:Nat} (h:n < l.length):strOf (cellAt (EJr l) (n:Int) 6) = l[n].key:=by rw [qad h]; rfl
theorem q5c {l:List Enr} {n:Nat} (h:n < l.length):strOf (cellAt (EJr l) (n:Int) 7) = l[n].text:=by rw [qad h]; rfl
theorem q2R {l:List Enr} {n:Nat} (h:n < l.length):qat (cellAt (EJr l) (n:Int) 8) = ELg l[n].legs:=by rw [qad h]; rfl
theorem q5d {l:List Enr} {n:Nat} (h:n < l.length):intOf (cellAt (EJr l) (n:Int) 9) = l[n].chain:=by rw [qad h]; rfl
def prA (p:Pr):List AV:=[.str p.name,.str p.cur,.str p.cal,.int .i64 p.from_,.int .i64 p.every,.int .i64 p.over,.int .i64 p.tax,.view 2 (ETr p.cr.tiers),.bool p.cr.marg,.int .i64 p.cr.basis,.int .i64 p.cr.mode,.bool p.cr.keep,.view 2 (ETr p.de.tiers),.bool p.de.marg,.int .i64 p.de.basis,.int .i64 p.de.mode,.bool p.de.keep,.view 10 (EF p.fees),.view 6 (ER p.rules)]
def Pr.av (p:Pr):AV:=.agg (prA p)
abbrev EPr (l:List Pr):List AV:=l.map Pr.av
abbrev q2A:List CS:=[CS.str,CS.str,CS.str,CS.int IntKind.i64,CS.int IntKind.i64,CS.int IntKind.i64,CS.int IntKind.i64,CS.slice 2,CS.bool,CS.int IntKind.i64,CS.int IntKind.i64,CS.bool,CS.slice 2,CS.bool,CS.int IntKind.i64,CS.int IntKind.i64,CS.bool,CS.slice 10,CS.slice 6]
theorem q35 (h:Pr):qfK q2A (qac h.av) = true:=rfl
theorem qsg {l:List Pr} {n:Nat} (h:n < l.length):qaw q2A (EPr l) (n:Int) = true:=qbv q35 h
theorem qMV {l:List Pr} {n:Nat} (h:n < l.length):strOf (cellAt (EPr l) (n:Int) 0) = l[n].name:=by rw [qad h]; rfl
theorem qXo {l:List Pr} {n:Nat} (h:n < l.length):strOf (cellAt (EPr l) (n:Int) 1) = l[n].cur:=by rw [qad h]; rfl
theorem qXp {l:List Pr} {n:Nat} (h:n < l.length):strOf (cellAt (EPr l) (n:Int) 2) = l[n].cal:=by rw [qad h]; rfl
theorem qCM {l:List Pr} {n:Nat} (h:n < l.length):intOf (cellAt (EPr l) (n:Int) 3) = l[n].from_:=by rw [qad h]; rfl
theorem qXq {l:List Pr} {n:Nat} (h:n < l.length):intOf (cellAt (EPr l) (n:Int) 4) = l[n].every:=by rw [qad h]; rfl
theorem qXr {l:List Pr} {n:Nat} (h:n < l.length):intOf (cellAt (EPr l) (n:Int) 5) = l[n].over:=by rw [qad h]; rfl
theorem qXs {l:List Pr} {n:Nat} (h:n < l.length):intOf (cellAt (EPr l) (n:Int) 6) = l[n].tax:=by rw [qad h]; rfl
theorem qXt {l:List Pr} {n:Nat} (h:n < l.length):qat (cellAt (EPr l) (n:Int) 7) = ETr l[n].cr.tiers:=by rw [qad h]; rfl
theorem qXu {l:List Pr} {n:Nat} (h:n < l.length):qbg (cellAt (EPr l) (n:Int) 8) = l[n].cr.marg:=by rw [qad h]; rfl
theorem qXv {l:List Pr} {n:Nat} (h:n < l.length):intOf (cellAt (EPr l) (n:Int) 9) = l[n].cr.basis:=by rw [qad h]; rfl
theorem qCh {l:List Pr} {n:Nat} (h:n < l.length):intOf (cellAt (EPr l) (n:Int) 10) = l[n].cr.mode:=by rw [qad h]; rfl
theorem qCi {l:List Pr} {n:Nat} (h:n < l.length):qbg (cellAt (EPr l) (n:Int) 11) = l[n].cr.keep:=by rw [qad h]; rfl
theorem qCj {l:List Pr} {n:Nat} (h:n < l.length):qat (cellAt (EPr l) (n:Int) 12) = ETr l[n].de.tiers:=by rw [qad h]; rfl
theorem qCk {l:List Pr} {n:Nat} (h:n < l.length):qbg (cellAt (EPr l) (n:Int) 13) = l[n].de.marg:=by rw [qad h]; rfl
theorem qCl {l:List Pr} {n:Nat} (h:n < l.length):intOf (cellAt (EPr l) (n:Int) 14) = l[n].de.basis:=by rw [qad h]; rfl
theorem qCm {l:List Pr} {n:Nat} (h:n < l.length):intOf (cellAt (EPr l) (n:Int) 15) = l[n].de.mode:=by rw [qad h]; rfl
theorem qCn {l:List Pr} {n:Nat} (h:n < l.length):qbg (cellAt (EPr l) (n:Int) 16) = l[n].de.keep:=by rw [qad h]; rfl
theorem qCo {l:List Pr} {n:Nat} (h:n < l.length):qat (cellAt (EPr l) (n:Int) 17) = EF l[n].fees:=by rw [qad h]; rfl
theorem qCp {l:List Pr} {n:Nat} (h:n < l.length):qat (cellAt (EPr l) (n:Int) 18) = ER l[n].rules:=by rw [qad h]; rfl
end Go.Tk

/- posting.Post at one example, told by what its callees do. -/
import Derived.Test.YtbieppilagmdjaaGreatDoorE3
import Derived.Test.YtbieppilagmdjaaGreatDoorMmA
set_option linter.unusedVariables false
set_option linter.unusedSimpArgs false
set_option linter.unnecessarySimpa false
namespace Go.Tk
open Go Go.Eng
def qlw:AV:=.agg [.int .i64 0,.int .i64 9678,.int .i64 9678,.int .i64 1,.int .i64 0,.int .i64 0,.str [107],.str [],.view 3 [.agg [.int .i64 101,.int .i64 100000,.str [69,85,82]],.agg [.int .i64 1000,.int .i64 (-100000),.str [69,85,82]]],.int .u64 0]
def qR5:AV:=.agg [.int .i64 1,.int .i64 9678,.int .i64 9678,.int .i64 1,.int .i64 0,.int .i64 0,.str [107],.str [],.view 3 [.agg [.int .i64 101,.int .i64 100000,.str [69,85,82]],.agg [.int .i64 1000,.int .i64 (-100000),.str [69,85,82]]],.int .u64 10051695697490119444]
def qWK:AV:=.agg [.int .i64 0,.int .i64 0,.int .i64 0,.int .i64 0,.int .i64 0,.int .i64 0,.str [],.str [],.view 3 [],.int .u64 0]
def qQG (j:AV):List AV:=[.view 2 [.agg [.str [69,85,82],.int .i64 2]],.view 3 [.agg [.str [104,111,109,101],.view 1 [],.view 1 []]],.view 4 [.agg [.int .i64 101,.int .i64 0,.int .i64 1,.str [99,97,115,104]],.agg [.int .i64 102,.int .i64 0,.int .i64 1,.str [99,108,101,97,114,105,110,103]],.agg [.int .i64 103,.int .i64 0,.int .i64 1,.str [108,111,97,110,115]],.agg [.int .i64 201,.int .i64 0,.int .i64 2,.str [100,101,112,111,115,105,116,115]],.agg [.int .i64 202,.int .i64 0,.int .i64 2,.str [111,116,104,101,114]],.agg [.int .i64 301,.int .i64 0,.int .i64 4,.str [105,110,99,111,109,101]],.agg [.int .i64 401,.int .i64 0,.int .i64 5,.str [101,120,112,101,110,115,101]]],.int .i64 101,.int .i64 201,.int .i64 401,.int .i64 301,.int .i64 301,.int .i64 202,.int .i64 102,.int .i64 103,.int .i64 301,.int .i64 301,.int .i64 202,.int .i64 401,.int .i64 401,.int .i64 301,.view 19 [.agg [.str [103,105,114,111],.str [69,85,82],.str [104,111,109,101],.int .i64 9000,.int .i64 1,.int .i64 500,.int .i64 0,.view 2 [.agg [.int .i64 0,.int .i64 36000]],.bool false,.int .i64 1,.int .i64 6,.bool false,.view 2 [.agg [.int .i64 0,.int .i64 36000]],.bool false,.int .i64 1,.int .i64 6,.bool false,.view 10 [],.view 6 []]],.view 7 [.agg [.int .i64 1000,.int .i64 9678,.int .i64 0,.int .i64 0,.str [97,110,110,97],.str [103,105,114,111],.str [67,66,48,48,48,48,49,48,48,48,51,51]],.agg [.int .i64 1001,.int .i64 9678,.int .i64 0,.int .i64 0,.str [98,101,110],.str [103,105,114,111],.str [67,66,48,48,48,48,49,48,48,49,51,48]]],j,.view 6 [],.view 7 []]
def qsj:AV:=.agg (qQG (.view 10 []))
def qJF:AV:=.agg (qQG (.view 10 [qR5]))
def qs2 (call:qaL):Prop:=call 68 [qlw] [] = some (.ret (.int .i64 0),[]) /\ call 69 [.view 10 [],.str [107]] [] = some (.ret (.tup [qWK,.bool false]),[]) /\ call 70 [qsj,qlw] [] = some (.ret (.int .i64 0),[]) /\
 call 71 [qsj,qlw] [] = some (.ret (.int .i64 0),[]) /\ call 72 [.view 10 [],qlw] [] = some (.ret (.tup [.view 10 [qR5],.int .i64 0]),[])
open Classical in
noncomputable def qnM (call:qaL) (a:List AV) (h:Heap):Option (Res × Heap):=if (a = [qsj,qlw] /\ h = []) /\ qs2 call then some (.ret (.tup [qJF,.int .i64 0]),[]) else none
theorem qmK {call:qaL} {a:List AV} {h:Heap} {r:Res × Heap} (hg:qnM call a h = some r):a = [qsj,qlw] /\ h = [] /\ qs2 call /\ r = (.ret (.tup [qJF,.int .i64 0]),[]):=by
 unfold qnM at hg
 split at hg
 ·rename_i hc
  cases hg
  exact ⟨hc.1.1,hc.1.2,hc.2,rfl⟩
 ·cases hg
theorem qxp {c c':qaL} (h:∀ f a h r,c f a h = some r -> c' f a h = some r) {a:List AV} {hp:Heap} {r:Res × Heap} (hg:qnM c a hp = some r):qnM c' a hp = some r:=by
 obtain ⟨rfl,rfl,⟨h1,h2,h3,h4,h5⟩,rfl⟩:=qmK hg
 unfold qnM
 exact if_pos ⟨⟨rfl,rfl⟩,h _ _ _ _ h1,h _ _ _ _ h2,h _ _ _ _ h3,h _ _ _ _ h4,h _ _ _ _ h5⟩
noncomputable def qnN:Seen where
 g:=qnM
 mono:=fun _ _ h _ _ _ hg=>qxp h hg
end Go.Tk

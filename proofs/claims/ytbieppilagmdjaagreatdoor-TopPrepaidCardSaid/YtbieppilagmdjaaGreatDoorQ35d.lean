/- The examples of the chapters hold: quotes() is true. -/
import Derived.Test.YtbieppilagmdjaaGreatDoorQ35c
set_option linter.unusedVariables false
set_option linter.unusedSimpArgs false
set_option linter.unnecessarySimpa false
namespace Go.Proofs.H35
open Go Go.Eng Go.Tk
set_option maxRecDepth 1000000
theorem q3a:qal IP 15 [] [] = some (.ret (.bool true),[]):=qbg qiD 60 (by kernel_rfl)
theorem q3c:qal IP 40 [] [] = some (.ret qsj,[]):=qbg qiD 60 (by kernel_rfl)
theorem q3e:qal IP 43 [qJF,.int .i64 1000,.int .i64 9678] [] = some (.ret (.bool true),[]):=qbg qiD 60 (by kernel_rfl)
theorem q3f:qal IP 68 [qlw] [] = some (.ret (.int .i64 0),[]):=qbg qiD 60 (by kernel_rfl)
theorem q3g:qal IP 69 [.view 10 [],.str [107]] [] = some (.ret (.tup [qWK,.bool false]),[]):=qbg qiD 60 (by kernel_rfl)
theorem q3h:qal IP 70 [qsj,qlw] [] = some (.ret (.int .i64 0),[]):=qbg qiD 60 (by kernel_rfl)
theorem q3i:qal IP 71 [qsj,qlw] [] = some (.ret (.int .i64 0),[]):=qbg qiD 60 (by kernel_rfl)
theorem q3j:qal IP 72 [.view 10 [],qlw] [] = some (.ret (.tup [.view 10 [qR5],.int .i64 0]),[]):=qbg qiD 120 (by kernel_rfl)
theorem q3d:qal IP 41 [qsj,qlw] [] = some (.ret (.tup [qJF,.int .i64 0]),[]):=by
 obtain ⟨n1,h1⟩:=qbw.1 q3f
 obtain ⟨n2,h2⟩:=qbw.1 q3g
 obtain ⟨n3,h3⟩:=qbw.1 q3h
 obtain ⟨n4,h4⟩:=qbw.1 q3i
 obtain ⟨n5,h5⟩:=qbw.1 q3j
 refine qlJ (s:=qnN) (n:=n1 + n2 + n3 + n4 + n5) (by kernel_rfl) (by kernel_rfl) rfl ?_
 show qnM _ _ _ = _
 unfold qnM
 exact if_pos ⟨⟨rfl,rfl⟩,(qaS (by omega)).1 _ _ _ _ h1,(qaS (by omega)).1 _ _ _ _ h2,(qaS (by omega)).1 _ _ _ _ h3,(qaS (by omega)).1 _ _ _ _ h4,(qaS (by omega)).1 _ _ _ _ h5⟩
def Kd:Facts:=[(40,[],(.ret qsj,[])),(41,[qsj,qlw],(.ret (.tup [qJF,.int .i64 0]),[])),(43,[qJF,.int .i64 1000,.int .i64 9678],(.ret (.bool true),[]))]
theorem qVL:qak Kd:=qae q3c (qae q3d (qae q3e qiD))
theorem q29:qal IP 14 [] [] = some (.ret (.bool true),[]):=qbg qVL 40 (by kernel_rfl)
theorem q3b:qal IP 16 [] [] = some (.ret (.bool true),[]):=qbg qMB 60 (by kernel_rfl)
def Ke:Facts:=[(14,[],(.ret (.bool true),[])),(15,[],(.ret (.bool true),[])),(16,[],(.ret (.bool true),[]))]
theorem qVM:qak Ke:=qae q29 (qae q3a (qae q3b qiD))
theorem fd5:qal IP 5 [] [] = some (.ret (.bool true),[]):=qbg qVM 10 (by kernel_rfl)
open Classical in
theorem qOn:qE8 = true:=by unfold qE8; exact decide_eq_true fd5
end Go.Proofs.H35

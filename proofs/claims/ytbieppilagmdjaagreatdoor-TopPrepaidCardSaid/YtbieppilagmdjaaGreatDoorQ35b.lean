/- Facts by the machine's own run. Printed by a program of mine. -/
import Derived.Test.YtbieppilagmdjaaGreatDoorQ35a
import Derived.KernelRfl
set_option linter.unusedVariables false
set_option linter.unusedSimpArgs false
set_option linter.unnecessarySimpa false
namespace Go.Proofs.H35
open Go Go.Eng Go.Tk
set_option maxRecDepth 1000000
theorem fa0:qal IP 86 [.agg [.int .i64 120000,.int .i64 1,.int .i64 6],.int .i64 495] [] = some (.ret (.int .i64 5),[]):=qbg qiD 60 (by kernel_rfl)
def q03:Facts:=(86,[.agg [.int .i64 120000,.int .i64 1,.int .i64 6],.int .i64 495],(.ret (.int .i64 5),[])) :: K0
theorem qyk:qak q03:=qae fa0 qiD
theorem fa1:qal IP 86 [.agg [.int .i64 120000,.int .i64 1,.int .i64 6],.int .i64 0] [] = some (.ret (.int .i64 0),[]):=qbg qyk 60 (by kernel_rfl)
def q04:Facts:=(86,[.agg [.int .i64 120000,.int .i64 1,.int .i64 6],.int .i64 0],(.ret (.int .i64 0),[])) :: q03
theorem qyl:qak q04:=qae fa1 qyk
theorem fa2:qal IP 85 [.agg [.int .i64 120000,.int .i64 1,.int .i64 6],.int .i64 495,.int .i64 3,.int .i64 1000000000000] [] = some (.ret (.tup [.int .i64 0,.bool true]),[]):=qbg qyl 60 (by kernel_rfl)
def q05:Facts:=(85,[.agg [.int .i64 120000,.int .i64 1,.int .i64 6],.int .i64 495,.int .i64 3,.int .i64 1000000000000],(.ret (.tup [.int .i64 0,.bool true]),[])) :: q04
theorem qym:qak q05:=qae fa2 qyl
theorem fa3:qal IP 85 [.agg [.int .i64 120000,.int .i64 1,.int .i64 6],.int .i64 495,.int .i64 3,.int .i64 500000000000] [] = some (.ret (.tup [.int .i64 0,.bool true]),[]):=qbg qym 60 (by kernel_rfl)
def q06:Facts:=(85,[.agg [.int .i64 120000,.int .i64 1,.int .i64 6],.int .i64 495,.int .i64 3,.int .i64 500000000000],(.ret (.tup [.int .i64 0,.bool true]),[])) :: q05
theorem qyn:qak q06:=qae fa3 qym
theorem fa4:qal IP 85 [.agg [.int .i64 120000,.int .i64 1,.int .i64 6],.int .i64 495,.int .i64 3,.int .i64 250000000000] [] = some (.ret (.tup [.int .i64 0,.bool true]),[]):=qbg qyn 60 (by kernel_rfl)
def q07:Facts:=(85,[.agg [.int .i64 120000,.int .i64 1,.int .i64 6],.int .i64 495,.int .i64 3,.int .i64 250000000000],(.ret (.tup [.int .i64 0,.bool true]),[])) :: q06
theorem qyo:qak q07:=qae fa4 qyn
theorem fa5:qal IP 85 [.agg [.int .i64 120000,.int .i64 1,.int .i64 6],.int .i64 495,.int .i64 3,.int .i64 125000000000] [] = some (.ret (.tup [.int .i64 0,.bool true]),[]):=qbg qyo 60 (by kernel_rfl)
def q08:Facts:=(85,[.agg [.int .i64 120000,.int .i64 1,.int .i64 6],.int .i64 495,.int .i64 3,.int .i64 125000000000],(.ret (.tup [.int .i64 0,.bool true]),[])) :: q07
theorem qyp:qak q08:=qae fa5 qyo
theorem fa6:qal IP 85 [.agg [.int .i64 120000,.int .i64 1,.int .i64 6],.int .i64 495,.int .i64 3,.int .i64 62500000000] [] = some (.ret (.tup [.int .i64 0,.bool true]),[]):=qbg qyp 60 (by kernel_rfl)
def q09:Facts:=(85,[.agg [.int .i64 120000,.int .i64 1,.int .i64 6],.int .i64 495,.int .i64 3,.int .i64 62500000000],(.ret (.tup [.int .i64 0,.bool true]),[])) :: q08
theorem qyq:qak q09:=qae fa6 qyp
theorem fa7:qal IP 85 [.agg [.int .i64 120000,.int .i64 1,.int .i64 6],.int .i64 495,.int .i64 3,.int .i64 31250000000] [] = some (.ret (.tup [.int .i64 0,.bool true]),[]):=qbg qyq 60 (by kernel_rfl)
def q1a:Facts:=(85,[.agg [.int .i64 120000,.int .i64 1,.int .i64 6],.int .i64 495,.int .i64 3,.int .i64 31250000000],(.ret (.tup [.int .i64 0,.bool true]),[])) :: q09
theorem qyr:qak q1a:=qae fa7 qyq
theorem fa8:qal IP 85 [.agg [.int .i64 120000,.int .i64 1,.int .i64 6],.int .i64 495,.int .i64 3,.int .i64 15625000000] [] = some (.ret (.tup [.int .i64 0,.bool true]),[]):=qbg qyr 60 (by kernel_rfl)
def q1b:Facts:=(85,[.agg [.int .i64 120000,.int .i64 1,.int .i64 6],.int .i64 495,.int .i64 3,.int .i64 15625000000],(.ret (.tup [.int .i64 0,.bool true]),[])) :: q1a
theorem qys:qak q1b:=qae fa8 qyr
theorem fa9:qal IP 85 [.agg [.int .i64 120000,.int .i64 1,.int .i64 6],.int .i64 495,.int .i64 3,.int .i64 7812500000] [] = some (.ret (.tup [.int .i64 0,.bool true]),[]):=qbg qys 60 (by kernel_rfl)
def q1c:Facts:=(85,[.agg [.int .i64 120000,.int .i64 1,.int .i64 6],.int .i64 495,.int .i64 3,.int .i64 7812500000],(.ret (.tup [.int .i64 0,.bool true]),[])) :: q1b
theorem qyt:qak q1c:=qae fa9 qys
theorem q2h:qal IP 85 [.agg [.int .i64 120000,.int .i64 1,.int .i64 6],.int .i64 495,.int .i64 3,.int .i64 3906250000] [] = some (.ret (.tup [.int .i64 0,.bool true]),[]):=qbg qyt 60 (by kernel_rfl)
def qPD:Facts:=(85,[.agg [.int .i64 120000,.int .i64 1,.int .i64 6],.int .i64 495,.int .i64 3,.int .i64 3906250000],(.ret (.tup [.int .i64 0,.bool true]),[])) :: q1c
theorem qtq:qak qPD:=qae q2h qyt
theorem q2i:qal IP 85 [.agg [.int .i64 120000,.int .i64 1,.int .i64 6],.int .i64 495,.int .i64 3,.int .i64 1953125000] [] = some (.ret (.tup [.int .i64 0,.bool true]),[]):=qbg qtq 60 (by kernel_rfl)
def qPE:Facts:=(85,[.agg [.int .i64 120000,.int .i64 1,.int .i64 6],.int .i64 495,.int .i64 3,.int .i64 1953125000],(.ret (.tup [.int .i64 0,.bool true]),[])) :: qPD
theorem qtr:qak qPE:=qae q2i qtq
theorem q2j:qal IP 85 [.agg [.int .i64 120000,.int .i64 1,.int .i64 6],.int .i64 495,.int .i64 3,.int .i64 976562500] [] = some (.ret (.tup [.int .i64 0,.bool true]),[]):=qbg qtr 60 (by kernel_rfl)
def qPF:Facts:=(85,[.agg [.int .i64 120000,.int .i64 1,.int .i64 6],.int .i64 495,.int .i64 3,.int .i64 976562500],(.ret (.tup [.int .i64 0,.bool true]),[])) :: qPE
theorem qts:qak qPF:=qae q2j qtr
theorem q2k:qal IP 85 [.agg [.int .i64 120000,.int .i64 1,.int .i64 6],.int .i64 495,.int .i64 3,.int .i64 488281250] [] = some (.ret (.tup [.int .i64 0,.bool true]),[]):=qbg qts 60 (by kernel_rfl)
def qPG:Facts:=(85,[.agg [.int .i64 120000,.int .i64 1,.int .i64 6],.int .i64 495,.int .i64 3,.int .i64 488281250],(.ret (.tup [.int .i64 0,.bool true]),[])) :: qPF
theorem qtt:qak qPG:=qae q2k qts
theorem q2l:qal IP 85 [.agg [.int .i64 120000,.int .i64 1,.int .i64 6],.int .i64 495,.int .i64 3,.int .i64 244140625] [] = some (.ret (.tup [.int .i64 0,.bool true]),[]):=qbg qtt 60 (by kernel_rfl)
def qPH:Facts:=(85,[.agg [.int .i64 120000,.int .i64 1,.int .i64 6],.int .i64 495,.int .i64 3,.int .i64 244140625],(.ret (.tup [.int .i64 0,.bool true]),[])) :: qPG
theorem qtu:qak qPH:=qae q2l qtt
theorem q2m:qal IP 85 [.agg [.int .i64 120000,.int .i64 1,.int .i64 6],.int .i64 495,.int .i64 3,.int .i64 122070312] [] = some (.ret (.tup [.int .i64 0,.bool true]),[]):=qbg qtu 60 (by kernel_rfl)
def qPI:Facts:=(85,[.agg [.int .i64 120000,.int .i64 1,.int .i64 6],.int .i64 495,.int .i64 3,.int .i64 122070312],(.ret (.tup [.int .i64 0,.bool true]),[])) :: qPH
theorem qtv:qak qPI:=qae q2m qtu
theorem q2n:qal IP 85 [.agg [.int .i64 120000,.int .i64 1,.int .i64 6],.int .i64 495,.int .i64 3,.int .i64 61035156] [] = some (.ret (.tup [.int .i64 0,.bool true]),[]):=qbg qtv 60 (by kernel_rfl)
def qPJ:Facts:=(85,[.agg [.int .i64 120000,.int .i64 1,.int .i64 6],.int .i64 495,.int .i64 3,.int .i64 61035156],(.ret (.tup [.int .i64 0,.bool true]),[])) :: qPI
theorem qtw:qak qPJ:=qae q2n qtv
theorem q2o:qal IP 85 [.agg [.int .i64 120000,.int .i64 1,.int .i64 6],.int .i64 495,.int .i64 3,.int .i64 30517578] [] = some (.ret (.tup [.int .i64 0,.bool true]),[]):=qbg qtw 60 (by kernel_rfl)
def qPK:Facts:=(85,[.agg [.int .i64 120000,.int .i64 1,.int .i64 6],.int .i64 495,.int .i64 3,.int .i64 30517578],(.ret (.tup [.int .i64 0,.bool true]),[])) :: qPJ
theorem qtx:qak qPK:=qae q2o qtw
theorem q2p:qal IP 85 [.agg [.int .i64 120000,.int .i64 1,.int .i64 6],.int .i64 495,.int .i64 3,.int .i64 15258789] [] = some (.ret (.tup [.int .i64 0,.bool true]),[]):=qbg qtx 60 (by kernel_rfl)
def qPL:Facts:=(85,[.agg [.int .i64 120000,.int .i64 1,.int .i64 6],.int .i64 495,.int .i64 3,.int .i64 15258789],(.ret (.tup [.int .i64 0,.bool true]),[])) :: qPK
theorem qty:qak qPL:=qae q2p qtx
theorem q2q:qal IP 85 [.agg [.int .i64 120000,.int .i64 1,.int .i64 6],.int .i64 495,.int .i64 3,.int .i64 7629394] [] = some (.ret (.tup [.int .i64 0,.bool true]),[]):=qbg qty 60 (by kernel_rfl)
def qPM:Facts:=(85,[.agg [.int .i64 120000,.int .i64 1,.int .i64 6],.int .i64 495,.int .i64 3,.int .i64 7629394],(.ret (.tup [.int .i64 0,.bool true]),[])) :: qPL
theorem qtz:qak qPM:=qae q2q qty
theorem q2r:qal IP 85 [.agg [.int .i64 120000,.int .i64 1,.int .i64 6],.int .i64 495,.int .i64 3,.int .i64 3814697] [] = some (.ret (.tup [.int .i64 0,.bool true]),[]):=qbg qtz 60 (by kernel_rfl)
def qPN:Facts:=(85,[.agg [.int .i64 120000,.int .i64 1,.int .i64 6],.int .i64 495,.int .i64 3,.int .i64 3814697],(.ret (.tup [.int .i64 0,.bool true]),[])) :: qPM
theorem qtA:qak qPN:=qae q2r qtz
theorem q2s:qal IP 85 [.agg [.int .i64 120000,.int .i64 1,.int .i64 6],.int .i64 495,.int .i64 3,.int .i64 1907348] [] = some (.ret (.tup [.int .i64 0,.bool true]),[]):=qbg qtA 60 (by kernel_rfl)
def qPO:Facts:=(85,[.agg [.int .i64 120000,.int .i64 1,.int .i64 6],.int .i64 495,.int .i64 3,.int .i64 1907348],(.ret (.tup [.int .i64 0,.bool true]),[])) :: qPN
theorem qtB:qak qPO:=qae q2s qtA
theorem q2t:qal IP 85 [.agg [.int .i64 120000,.int .i64 1,.int .i64 6],.int .i64 495,.int .i64 3,.int .i64 953674] [] = some (.ret (.tup [.int .i64 0,.bool true]),[]):=qbg qtB 60 (by kernel_rfl)
def qPP:Facts:=(85,[.agg [.int .i64 120000,.int .i64 1,.int .i64 6],.int .i64 495,.int .i64 3,.int .i64 953674],(.ret (.tup [.int .i64 0,.bool true]),[])) :: qPO
theorem qtC:qak qPP:=qae q2t qtB
theorem q2u:qal IP 85 [.agg [.int .i64 120000,.int .i64 1,.int .i64 6],.int .i64 495,.int .i64 3,.int .i64 476837] [] = some (.ret (.tup [.int .i64 0,.bool true]),[]):=qbg qtC 60 (by kernel_rfl)
def qPQ:Facts:=(85,[.agg [.int .i64 120000,.int .i64 1,.int .i64 6],.int .i64 495,.int .i64 3,.int .i64 476837],(.ret (.tup [.int .i64 0,.bool true]),[])) :: qPP
theorem qtD:qak qPQ:=qae q2u qtC
theorem q2v:qal IP 85 [.agg [.int .i64 120000,.int .i64 1,.int .i64 6],.int .i64 495,.int .i64 3,.int .i64 238418] [] = some (.ret (.tup [.int .i64 0,.bool true]),[]):=qbg qtD 60 (by kernel_rfl)
def qPR:Facts:=(85,[.agg [.int .i64 120000,.int .i64 1,.int .i64 6],.int .i64 495,.int .i64 3,.int .i64 238418],(.ret (.tup [.int .i64 0,.bool true]),[])) :: qPQ
theorem qtE:qak qPR:=qae q2v qtD
theorem q2w:qal IP 85 [.agg [.int .i64 120000,.int .i64 1,.int .i64 6],.int .i64 495,.int .i64 3,.int .i64 119209] [] = some (.ret (.tup [.int .i64 0,.bool true]),[]):=qbg qtE 60 (by kernel_rfl)
def qPS:Facts:=(85,[.agg [.int .i64 120000,.int .i64 1,.int .i64 6],.int .i64 495,.int .i64 3,.int .i64 119209],(.ret (.tup [.int .i64 0,.bool true]),[])) :: qPR
theorem qtF:qak qPS:=qae q2w qtE
theorem q2x:qal IP 85 [.agg [.int .i64 120000,.int .i64 1,.int .i64 6],.int .i64 495,.int .i64 3,.int .i64 59604] [] = some (.ret (.tup [.int .i64 0,.bool true]),[]):=qbg qtF 60 (by kernel_rfl)
def qPT:Facts:=(85,[.agg [.int .i64 120000,.int .i64 1,.int .i64 6],.int .i64 495,.int .i64 3,.int .i64 59604],(.ret (.tup [.int .i64 0,.bool true]),[])) :: qPS
theorem qtG:qak qPT:=qae q2x qtF
theorem q2y:qal IP 85 [.agg [.int .i64 120000,.int .i64 1,.int .i64 6],.int .i64 495,.int .i64 3,.int .i64 29802] [] = some (.ret (.tup [.int .i64 0,.bool true]),[]):=qbg qtG 60 (by kernel_rfl)
def qPU:Facts:=(85,[.agg [.int .i64 120000,.int .i64 1,.int .i64 6],.int .i64 495,.int .i64 3,.int .i64 29802],(.ret (.tup [.int .i64 0,.bool true]),[])) :: qPT
theorem qtH:qak qPU:=qae q2y qtG
theorem q2z:qal IP 85 [.agg [.int .i64 120000,.int .i64 1,.int .i64 6],.int .i64 495,.int .i64 3,.int .i64 14901] [] = some (.ret (.tup [.int .i64 0,.bool true]),[]):=qbg qtH 60 (by kernel_rfl)
def qPV:Facts:=(85,[.agg [.int .i64 120000,.int .i64 1,.int .i64 6],.int .i64 495,.int .i64 3,.int .i64 14901],(.ret (.tup [.int .i64 0,.bool true]),[])) :: qPU
theorem qtJ:qak qPV:=qae q2z qtH
theorem q2A:qal IP 85 [.agg [.int .i64 120000,.int .i64 1,.int .i64 6],.int .i64 495,.int .i64 3,.int .i64 7450] [] = some (.ret (.tup [.int .i64 0,.bool true]),[]):=qbg qtJ 60 (by kernel_rfl)
def qPW:Facts:=(85,[.agg [.int .i64 120000,.int .i64 1,.int .i64 6],.int .i64 495,.int .i64 3,.int .i64 7450],(.ret (.tup [.int .i64 0,.bool true]),[])) :: qPV
theorem qtK:qak qPW:=qae q2A qtJ
theorem q2B:qal IP 85 [.agg [.int .i64 120000,.int .i64 1,.int .i64 6],.int .i64 495,.int .i64 3,.int .i64 3725] [] = some (.ret (.tup [.int .i64 0,.bool true]),[]):=qbg qtK 60 (by kernel_rfl)
def qPX:Facts:=(85,[.agg [.int .i64 120000,.int .i64 1,.int .i64 6],.int .i64 495,.int .i64 3,.int .i64 3725],(.ret (.tup [.int .i64 0,.bool true]),[])) :: qPW
theorem qtL:qak qPX:=qae q2B qtK
theorem q2C:qal IP 85 [.agg [.int .i64 120000,.int .i64 1,.int .i64 6],.int .i64 495,.int .i64 3,.int .i64 1862] [] = some (.ret (.tup [.int .i64 0,.bool true]),[]):=qbg qtL 60 (by kernel_rfl)
def qPY:Facts:=(85,[.agg [.int .i64 120000,.int .i64 1,.int .i64 6],.int .i64 495,.int .i64 3,.int .i64 1862],(.ret (.tup [.int .i64 0,.bool true]),[])) :: qPX
theorem qtM:qak qPY:=qae q2C qtL
theorem q2D:qal IP 85 [.agg [.int .i64 120000,.int .i64 1,.int .i64 6],.int .i64 495,.int .i64 3,.int .i64 931] [] = some (.ret (.tup [.int .i64 0,.bool true]),[]):=qbg qtM 60 (by kernel_rfl)
def qPZ:Facts:=(85,[.agg [.int .i64 120000,.int .i64 1,.int .i64 6],.int .i64 495,.int .i64 3,.int .i64 931],(.ret (.tup [.int .i64 0,.bool true]),[])) :: qPY
theorem qtN:qak qPZ:=qae q2D qtM
theorem q2E:qal IP 86 [.agg [.int .i64 120000,.int .i64 1,.int .i64 6],.int .i64 35] [] = some (.ret (.int .i64 0),[]):=qbg qtN 60 (by kernel_rfl)
def qP0:Facts:=(86,[.agg [.int .i64 120000,.int .i64 1,.int .i64 6],.int .i64 35],(.ret (.int .i64 0),[])) :: qPZ
theorem qtO:qak qP0:=qae q2E qtN
theorem q2F:qal IP 85 [.agg [.int .i64 120000,.int .i64 1,.int .i64 6],.int .i64 495,.int .i64 3,.int .i64 465] [] = some (.ret (.tup [.int .i64 0,.bool true]),[]):=qbg qtO 60 (by kernel_rfl)
def qP1:Facts:=(85,[.agg [.int .i64 120000,.int .i64 1,.int .i64 6],.int .i64 495,.int .i64 3,.int .i64 465],(.ret (.tup [.int .i64 0,.bool true]),[])) :: qP0
theorem qtP:qak qP1:=qae q2F qtO
theorem q2G:qal IP 86 [.agg [.int .i64 120000,.int .i64 1,.int .i64 6],.int .i64 268] [] = some (.ret (.int .i64 3),[]):=qbg qtP 60 (by kernel_rfl)
def qP2:Facts:=(86,[.agg [.int .i64 120000,.int .i64 1,.int .i64 6],.int .i64 268],(.ret (.int .i64 3),[])) :: qP1
theorem qtQ:qak qP2:=qae q2G qtP
theorem q2H:qal IP 86 [.agg [.int .i64 120000,.int .i64 1,.int .i64 6],.int .i64 39] [] = some (.ret (.int .i64 0),[]):=qbg qtQ 60 (by kernel_rfl)
def qP3:Facts:=(86,[.agg [.int .i64 120000,.int .i64 1,.int .i64 6],.int .i64 39],(.ret (.int .i64 0),[])) :: qP2
theorem qtR:qak qP3:=qae q2H qtQ
theorem q2I:qal IP 85 [.agg [.int .i64 120000,.int .i64 1,.int .i64 6],.int .i64 495,.int .i64 3,.int .i64 232] [] = some (.ret (.tup [.int .i64 0,.bool true]),[]):=qbg qtR 60 (by kernel_rfl)
def qP4:Facts:=(85,[.agg [.int .i64 120000,.int .i64 1,.int .i64 6],.int .i64 495,.int .i64 3,.int .i64 232],(.ret (.tup [.int .i64 0,.bool true]),[])) :: qP3
theorem qtS:qak qP4:=qae q2I qtR
theorem q2J:qal IP 86 [.agg [.int .i64 120000,.int .i64 1,.int .i64 6],.int .i64 384] [] = some (.ret (.int .i64 4),[]):=qbg qtS 60 (by kernel_rfl)
def qP5:Facts:=(86,[.agg [.int .i64 120000,.int .i64 1,.int .i64 6],.int .i64 384],(.ret (.int .i64 4),[])) :: qP4
theorem qtT:qak qP5:=qae q2J qtS
theorem q2K:qal IP 86 [.agg [.int .i64 120000,.int .i64 1,.int .i64 6],.int .i64 272] [] = some (.ret (.int .i64 3),[]):=qbg qtT 60 (by kernel_rfl)
def qP6:Facts:=(86,[.agg [.int .i64 120000,.int .i64 1,.int .i64 6],.int .i64 272],(.ret (.int .i64 3),[])) :: qP5
theorem qtU:qak qP6:=qae q2K qtT
theorem q2L:qal IP 85 [.agg [.int .i64 120000,.int .i64 1,.int .i64 6],.int .i64 495,.int .i64 3,.int .i64 116] [] = some (.ret (.tup [.int .i64 159,.bool true]),[]):=qbg qtU 60 (by kernel_rfl)
def qP7:Facts:=(85,[.agg [.int .i64 120000,.int .i64 1,.int .i64 6],.int .i64 495,.int .i64 3,.int .i64 116],(.ret (.tup [.int .i64 159,.bool true]),[])) :: qP6
theorem qtV:qak qP7:=qae q2L qtU
theorem q2M:qal IP 86 [.agg [.int .i64 120000,.int .i64 1,.int .i64 6],.int .i64 326] [] = some (.ret (.int .i64 3),[]):=qbg qtV 60 (by kernel_rfl)
def qP8:Facts:=(86,[.agg [.int .i64 120000,.int .i64 1,.int .i64 6],.int .i64 326],(.ret (.int .i64 3),[])) :: qP7
theorem qtW:qak qP8:=qae q2M qtV
theorem q2N:qal IP 86 [.agg [.int .i64 120000,.int .i64 1,.int .i64 6],.int .i64 155] [] = some (.ret (.int .i64 2),[]):=qbg qtW 60 (by kernel_rfl)
def qP9:Facts:=(86,[.agg [.int .i64 120000,.int .i64 1,.int .i64 6],.int .i64 155],(.ret (.int .i64 2),[])) :: qP8
theorem qtX:qak qP9:=qae q2N qtW
theorem q2O:qal IP 85 [.agg [.int .i64 120000,.int .i64 1,.int .i64 6],.int .i64 495,.int .i64 3,.int .i64 174] [] = some (.ret (.tup [.int .i64 0,.bool true]),[]):=qbg qtX 60 (by kernel_rfl)
def qQa:Facts:=(85,[.agg [.int .i64 120000,.int .i64 1,.int .i64 6],.int .i64 495,.int .i64 3,.int .i64 174],(.ret (.tup [.int .i64 0,.bool true]),[])) :: qP9
theorem qtY:qak qQa:=qae q2O qtX
theorem q2P:qal IP 86 [.agg [.int .i64 120000,.int .i64 1,.int .i64 6],.int .i64 355] [] = some (.ret (.int .i64 4),[]):=qbg qtY 60 (by kernel_rfl)
def qQb:Facts:=(86,[.agg [.int .i64 120000,.int .i64 1,.int .i64 6],.int .i64 355],(.ret (.int .i64 4),[])) :: qQa
theorem qtZ:qak qQb:=qae q2P qtY
theorem q2Q:qal IP 86 [.agg [.int .i64 120000,.int .i64 1,.int .i64 6],.int .i64 214] [] = some (.ret (.int .i64 2),[]):=qbg qtZ 60 (by kernel_rfl)
def qQc:Facts:=(86,[.agg [.int .i64 120000,.int .i64 1,.int .i64 6],.int .i64 214],(.ret (.int .i64 2),[])) :: qQb
theorem qt3:qak qQc:=qae q2Q qtZ
theorem q2R:qal IP 85 [.agg [.int .i64 120000,.int .i64 1,.int .i64 6],.int .i64 495,.int .i64 3,.int .i64 145] [] = some (.ret (.tup [.int .i64 71,.bool true]),[]):=qbg qt3 60 (by kernel_rfl)
def qQd:Facts:=(85,[.agg [.int .i64 120000,.int .i64 1,.int .i64 6],.int .i64 495,.int .i64 3,.int .i64 145],(.ret (.tup [.int .i64 71,.bool true]),[])) :: qQc
theorem qt4:qak qQd:=qae q2R qt3
theorem q2S:qal IP 86 [.agg [.int .i64 120000,.int .i64 1,.int .i64 6],.int .i64 340] [] = some (.ret (.int .i64 3),[]):=qbg qt4 60 (by kernel_rfl)
def qQe:Facts:=(86,[.agg [.int .i64 120000,.int .i64 1,.int .i64 6],.int .i64 340],(.ret (.int .i64 3),[])) :: qQd
theorem qt5:qak qQe:=qae q2S qt4
theorem q2T:qal IP 86 [.agg [.int .i64 120000,.int .i64 1,.int .i64 6],.int .i64 183] [] = some (.ret (.int .i64 2),[]):=qbg qt5 60 (by kernel_rfl)
def qQf:Facts:=(86,[.agg [.int .i64 120000,.int .i64 1,.int .i64 6],.int .i64 183],(.ret (.int .i64 2),[])) :: qQe
theorem qt6:qak qQf:=qae q2T qt5
theorem q2U:qal IP 85 [.agg [.int .i64 120000,.int .i64 1,.int .i64 6],.int .i64 495,.int .i64 3,.int .i64 160] [] = some (.ret (.tup [.int .i64 25,.bool true]),[]):=qbg qt6 60 (by kernel_rfl)
def qQg:Facts:=(85,[.agg [.int .i64 120000,.int .i64 1,.int .i64 6],.int .i64 495,.int .i64 3,.int .i64 160],(.ret (.tup [.int .i64 25,.bool true]),[])) :: qQf
theorem qt7:qak qQg:=qae q2U qt6
theorem q2V:qal IP 86 [.agg [.int .i64 120000,.int .i64 1,.int .i64 6],.int .i64 333] [] = some (.ret (.int .i64 3),[]):=qbg qt7 60 (by kernel_rfl)
def qQh:Facts:=(86,[.agg [.int .i64 120000,.int .i64 1,.int .i64 6],.int .i64 333],(.ret (.int .i64 3),[])) :: qQg
theorem qt8:qak qQh:=qae q2V qt7
theorem q2W:qal IP 86 [.agg [.int .i64 120000,.int .i64 1,.int .i64 6],.int .i64 169] [] = some (.ret (.int .i64 2),[]):=qbg qt8 60 (by kernel_rfl)
def qQi:Facts:=(86,[.agg [.int .i64 120000,.int .i64 1,.int .i64 6],.int .i64 169],(.ret (.int .i64 2),[])) :: qQh
theorem qt9:qak qQi:=qae q2W qt8
theorem q2X:qal IP 85 [.agg [.int .i64 120000,.int .i64 1,.int .i64 6],.int .i64 495,.int .i64 3,.int .i64 167] [] = some (.ret (.tup [.int .i64 4,.bool true]),[]):=qbg qt9 60 (by kernel_rfl)
def qQj:Facts:=(85,[.agg [.int .i64 120000,.int .i64 1,.int .i64 6],.int .i64 495,.int .i64 3,.int .i64 167],(.ret (.tup [.int .i64 4,.bool true]),[])) :: qQi
theorem qua:qak qQj:=qae q2X qt9
theorem q2Y:qal IP 86 [.agg [.int .i64 120000,.int .i64 1,.int .i64 6],.int .i64 329] [] = some (.ret (.int .i64 3),[]):=qbg qua 60 (by kernel_rfl)
def qQk:Facts:=(86,[.agg [.int .i64 120000,.int .i64 1,.int .i64 6],.int .i64 329],(.ret (.int .i64 3),[])) :: qQj
theorem qub:qak qQk:=qae q2Y qua
theorem q2Z:qal IP 86 [.agg [.int .i64 120000,.int .i64 1,.int .i64 6],.int .i64 161] [] = some (.ret (.int .i64 2),[]):=qbg qub 60 (by kernel_rfl)
def qQl:Facts:=(86,[.agg [.int .i64 120000,.int .i64 1,.int .i64 6],.int .i64 161],(.ret (.int .i64 2),[])) :: qQk
theorem quc:qak qQl:=qae q2Z qub
theorem q20:qal IP 85 [.agg [.int .i64 120000,.int .i64 1,.int .i64 6],.int .i64 495,.int .i64 3,.int .i64 171] [] = some (.ret (.tup [.int .i64 0,.bool true]),[]):=qbg quc 60 (by kernel_rfl)
def qQm:Facts:=(85,[.agg [.int .i64 120000,.int .i64 1,.int .i64 6],.int .i64 495,.int .i64 3,.int .i64 171],(.ret (.tup [.int .i64 0,.bool true]),[])) :: qQl
theorem qud:qak qQm:=qae q20 quc
theorem q21:qal IP 86 [.agg [.int .i64 120000,.int .i64 1,.int .i64 6],.int .i64 331] [] = some (.ret (.int .i64 3),[]):=qbg qud 60 (by kernel_rfl)
def qQn:Facts:=(86,[.agg [.int .i64 120000,.int .i64 1,.int .i64 6],.int .i64 331],(.ret (.int .i64 3),[])) :: qQm
theorem que:qak qQn:=qae q21 qud
theorem q22:qal IP 86 [.agg [.int .i64 120000,.int .i64 1,.int .i64 6],.int .i64 165] [] = some (.ret (.int .i64 2),[]):=qbg que 60 (by kernel_rfl)
def qQo:Facts:=(86,[.agg [.int .i64 120000,.int .i64 1,.int .i64 6],.int .i64 165],(.ret (.int .i64 2),[])) :: qQn
theorem quf:qak qQo:=qae q22 que
theorem q23:qal IP 85 [.agg [.int .i64 120000,.int .i64 1,.int .i64 6],.int .i64 495,.int .i64 3,.int .i64 169] [] = some (.ret (.tup [.int .i64 0,.bool true]),[]):=qbg quf 60 (by kernel_rfl)
def qQp:Facts:=(85,[.agg [.int .i64 120000,.int .i64 1,.int .i64 6],.int .i64 495,.int .i64 3,.int .i64 169],(.ret (.tup [.int .i64 0,.bool true]),[])) :: qQo
theorem qug:qak qQp:=qae q23 quf
theorem q24:qal IP 86 [.agg [.int .i64 120000,.int .i64 1,.int .i64 6],.int .i64 332] [] = some (.ret (.int .i64 3),[]):=qbg qug 60 (by kernel_rfl)
def qQq:Facts:=(86,[.agg [.int .i64 120000,.int .i64 1,.int .i64 6],.int .i64 332],(.ret (.int .i64 3),[])) :: qQp
theorem quh:qak qQq:=qae q24 qug
theorem q25:qal IP 86 [.agg [.int .i64 120000,.int .i64 1,.int .i64 6],.int .i64 167] [] = some (.ret (.int .i64 2),[]):=qbg quh 60 (by kernel_rfl)
def qQr:Facts:=(86,[.agg [.int .i64 120000,.int .i64 1,.int .i64 6],.int .i64 167],(.ret (.int .i64 2),[])) :: qQq
theorem qui:qak qQr:=qae q25 quh
theorem q26:qal IP 85 [.agg [.int .i64 120000,.int .i64 1,.int .i64 6],.int .i64 495,.int .i64 3,.int .i64 168] [] = some (.ret (.tup [.int .i64 1,.bool true]),[]):=qbg qui 60 (by kernel_rfl)
def qQs:Facts:=(85,[.agg [.int .i64 120000,.int .i64 1,.int .i64 6],.int .i64 495,.int .i64 3,.int .i64 168],(.ret (.tup [.int .i64 1,.bool true]),[])) :: qQr
theorem quj:qak qQs:=qae q26 qui
theorem q27:qal IP 51 [.int .i64 495,.int .i64 120000,.int .i64 1,.int .i64 6,.int .i64 3,.int .i64 0] [] = some (.ret (.tup [.int .i64 169,.int .i64 0]),[]):=qbg quj 60 (by kernel_rfl)
def qQt:Facts:=(51,[.int .i64 495,.int .i64 120000,.int .i64 1,.int .i64 6,.int .i64 3,.int .i64 0],(.ret (.tup [.int .i64 169,.int .i64 0]),[])) :: qQs
theorem quk:qak qQt:=qae q27 quj
theorem q28:qal IP 86 [.agg [.int .i64 120000,.int .i64 1,.int .i64 6],.int .i64 160] [] = some (.ret (.int .i64 2),[]):=qbg quk 60 (by kernel_rfl)
def qQu:Facts:=(86,[.agg [.int .i64 120000,.int .i64 1,.int .i64 6],.int .i64 160],(.ret (.int .i64 2),[])) :: qQt
theorem qul:qak qQu:=qae q28 quk
end Go.Proofs.H35

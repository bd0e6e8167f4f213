/- Functions over plain data. Printed by a program of mine. -/
import Derived.Test.YtgpbobelbcbcaaaGreatDoorD10_8
import Derived.KernelRfl
set_option linter.unusedVariables false
set_option linter.unusedSimpArgs false
set_option linter.unnecessarySimpa false
namespace Go.Proofs.H10
open Go Go.Eng
set_option maxRecDepth 100000
noncomputable section
def qvM (G_u37q:qbw) (G_u26q:qbv) (G_u45q:qby) (G_u23q:qbu) (G_u39q:qbx):Prop:=FH IP 29 quG quV (k2 G_u37q) /\ FH IP 47 quD quS (k3 G_u26q) /\ FH IP 78 quI quX (k2 G_u45q) /\ FH IP 103 quC quR (k2 G_u23q) /\ FH IP 127 quH quW (k3 G_u39q)
def qQO (G_u37q:qbw) (G_u26q:qbv) (G_u45q:qby) (G_u23q:qbu) (G_u39q:qbx):Tab:=(29,FE quG quV (k2 G_u37q)) :: (47,FE quD quS (k3 G_u26q)) :: (78,FE quI quX (k2 G_u45q)) :: (103,FE quC quR (k2 G_u23q)) :: (127,FE quH quW (k3 G_u39q)) :: qYx
theorem qeb (G_u37q:qbw) (G_u26q:qbv) (G_u45q:qby) (G_u23q:qbu) (G_u39q:qbx) (hG:qvM G_u37q G_u26q G_u45q G_u23q G_u39q):qao IP (qQO G_u37q G_u26q G_u45q G_u23q G_u39q):=⟨qan (hG.1),qan (hG.2.1),qan (hG.2.2.1),qan (hG.2.2.2.1),qan (hG.2.2.2.2),qC4⟩
abbrev qek:Type:=(Int × Int × List AV × Int × Int × Int × List UInt8 × Int × Int × List UInt8 × List AV) ⊕ (Int × Int × List AV × Int × Int × Int × List UInt8 × Int × Int × List UInt8 × List AV)
def qE5:List PSt:=[⟨[(1004700,.junk),(0,.ref 0 0 0),(1,.int .i64),(4,.ref 1 0 0),(5,.ref 2 0 0),(6,.int .i64)],[(0,.box [.view 3,.int .i64] false),(1,.box [.int .i64,.int .i64,.str,.nils 4] false),(2,.box [.int .i64,.int .i64,.str,.view 4] false)],3,1⟩,⟨[(1004700,.junk),(0,.ref 0 0 0),(1,.int .i64),(4,.ref 1 0 0),(5,.ref 2 0 0),(6,.int .i64)],[(0,.box [.view 3,.int .i64] false),(1,.box [.int .i64,.int .i64,.str,.nils 4] false),(2,.box [.int .i64,.int .i64,.str,.own 3 0] false),(3,.arr 4 false)],4,1⟩]
def qLx (G_u37q:qbw) (G_u26q:qbv) (G_u45q:qby) (G_u23q:qbu) (G_u39q:qbx) (x0 x1:Int) (x2:List AV) (x3 x4 x5:Int) (x6:List UInt8) (x7 x8:Int) (x9:List UInt8) (x10:List AV):X × St:=(.exit 0,
 ⟨[(4,.ref 1 0 0),(5,.ref 2 0 0)],[(0,
 .box
 [.view 3 (gv (pl (G_u26q (IntKind.i64.wrap (x0 + 1)) x2 x3))).2.2.2.2.1,
 .int .i64 (gv (pl (G_u26q (IntKind.i64.wrap (x0 + 1)) x2 x3))).2.2.2.2.2]
 false),
 (1,.box [.int .i64 x4,.int .i64 x5,.str x6,.nils ⟨4,.nil⟩] false),
 (2,.box [.int .i64 x1,.int .i64 0,.str [],.own 3 0 none] false),
 (3,
 .arr 4
 [.agg [.int .i64 x7,.int .i64 x8,.str x9,.view 4 x10],
 .agg
 [.int .i64 (gv (pl (G_u26q (IntKind.i64.wrap (x0 + 1)) x2 x3))).1,
 .int .i64 (gv (pl (G_u26q (IntKind.i64.wrap (x0 + 1)) x2 x3))).2.1,
 .str (gv (pl (G_u26q (IntKind.i64.wrap (x0 + 1)) x2 x3))).2.2.1,
 .view 4 (gv (pl (G_u26q (IntKind.i64.wrap (x0 + 1)) x2 x3))).2.2.2.1]]
 false)],4,1⟩)
def qLy (G_u37q:qbw) (G_u26q:qbv) (G_u45q:qby) (G_u23q:qbu) (G_u39q:qbx) (x0 x1:Int) (x2:List AV) (x3 x4 x5:Int) (x6:List UInt8) (x7 x8:Int) (x9:List UInt8) (x10:List AV):X × St:=(.pan (.iface 53 (.agg [.int .i64 (gv (pr (G_u26q (IntKind.i64.wrap (x0 + 1)) x2 x3))).1])),
 ⟨[],[(0,
 .box
 [.view 3 (gv (pr (G_u26q (IntKind.i64.wrap (x0 + 1)) x2 x3))).2.1,
 .int .i64 (gv (pr (G_u26q (IntKind.i64.wrap (x0 + 1)) x2 x3))).2.2]
 false),
 (1,.box [.int .i64 x4,.int .i64 x5,.str x6,.nils ⟨4,.nil⟩] false),
 (2,.box [.int .i64 x7,.int .i64 x8,.str x9,.view 4 x10] false)],179,1⟩)
def qLz (G_u37q:qbw) (G_u26q:qbv) (G_u45q:qby) (G_u23q:qbu) (G_u39q:qbx) (x0 x1:Int) (x2:List AV) (x3 x4 x5:Int) (x6:List UInt8) (x7 x8:Int) (x9:List UInt8) (x10:List AV):X × St:=(.exit 0,
 ⟨[(4,.ref 1 0 0),(5,.ref 2 0 0)],[(0,.box [.view 3 x2,.int .i64 x3] false),(1,.box [.int .i64 x4,.int .i64 x5,.str x6,.nils ⟨4,.nil⟩] false),
 (2,.box [.int .i64 x7,.int .i64 x8,.str x9,.view 4 x10] false)],3,1⟩)
def qLA (G_u37q:qbw) (G_u26q:qbv) (G_u45q:qby) (G_u23q:qbu) (G_u39q:qbx) (x0 x1:Int) (x2:List AV) (x3 x4 x5:Int) (x6:List UInt8) (x7 x8:Int) (x9:List UInt8) (x10:List AV):X × St:=(.exit 0,
 ⟨[(4,.ref 1 0 0),(5,.ref 2 0 0)],[(0,
 .box
 [.view 3 (gv (pl (G_u26q (IntKind.i64.wrap (x0 + 1)) x2 x3))).2.2.2.2.1,
 .int .i64 (gv (pl (G_u26q (IntKind.i64.wrap (x0 + 1)) x2 x3))).2.2.2.2.2]
 false),
 (1,.box [.int .i64 x4,.int .i64 x5,.str x6,.nils ⟨4,.nil⟩] false),
 (2,.box [.int .i64 x1,.int .i64 0,.str [],.own 3 0 none] false),
 (3,
 .arr 4
 [.agg [.int .i64 x7,.int .i64 x8,.str x9,.view 4 x10],
 .agg
 [.int .i64 (gv (pl (G_u26q (IntKind.i64.wrap (x0 + 1)) x2 x3))).1,
 .int .i64 (gv (pl (G_u26q (IntKind.i64.wrap (x0 + 1)) x2 x3))).2.1,
 .str (gv (pl (G_u26q (IntKind.i64.wrap (x0 + 1)) x2 x3))).2.2.1,
 .view 4 (gv (pl (G_u26q (IntKind.i64.wrap (x0 + 1)) x2 x3))).2.2.2.1]]
 false)],4,1⟩)
def qLB (G_u37q:qbw) (G_u26q:qbv) (G_u45q:qby) (G_u23q:qbu) (G_u39q:qbx) (x0 x1:Int) (x2:List AV) (x3 x4 x5:Int) (x6:List UInt8) (x7 x8:Int) (x9:List UInt8) (x10:List AV):X × St:=(.pan (.iface 53 (.agg [.int .i64 (gv (pr (G_u26q (IntKind.i64.wrap (x0 + 1)) x2 x3))).1])),
 ⟨[],[(0,
 .box
 [.view 3 (gv (pr (G_u26q (IntKind.i64.wrap (x0 + 1)) x2 x3))).2.1,
 .int .i64 (gv (pr (G_u26q (IntKind.i64.wrap (x0 + 1)) x2 x3))).2.2]
 false),
 (1,.box [.int .i64 x4,.int .i64 x5,.str x6,.nils ⟨4,.nil⟩] false),
 (2,.box [.int .i64 x7,.int .i64 x8,.str x9,.own 3 0 none] false),(3,.arr 4 x10 false)],180,1⟩)
def qLC (G_u37q:qbw) (G_u26q:qbv) (G_u45q:qby) (G_u23q:qbu) (G_u39q:qbx) (x0 x1:Int) (x2:List AV) (x3 x4 x5:Int) (x6:List UInt8) (x7 x8:Int) (x9:List UInt8) (x10:List AV):X × St:=(.exit 0,
 ⟨[(4,.ref 1 0 0),(5,.ref 2 0 0)],[(0,.box [.view 3 x2,.int .i64 x3] false),(1,.box [.int .i64 x4,.int .i64 x5,.str x6,.nils ⟨4,.nil⟩] false),
 (2,.box [.int .i64 x7,.int .i64 x8,.str x9,.own 3 0 none] false),(3,.arr 4 x10 false)],4,1⟩)
def qXf (G_u37q:qbw) (G_u26q:qbv) (G_u45q:qby) (G_u23q:qbu) (G_u39q:qbx):List (qek -> X × St):=[fun w=>(k11 (qLx G_u37q G_u26q G_u45q G_u23q G_u39q)) ((sl w)),fun w=>(k11 (qLy G_u37q G_u26q G_u45q G_u23q G_u39q)) ((sl w)),fun w=>(k11 (qLz G_u37q G_u26q G_u45q G_u23q G_u39q)) ((sl w)),fun w=>(k11 (qLA G_u37q G_u26q G_u45q G_u23q G_u39q)) ((sr w)),fun w=>(k11 (qLB G_u37q G_u26q G_u45q G_u23q G_u39q)) ((sr w)),fun w=>(k11 (qLC G_u37q G_u26q G_u45q G_u23q G_u39q)) ((sr w))]
def qII (G_u37q:qbw) (G_u26q:qbv) (G_u45q:qby) (G_u23q:qbu) (G_u39q:qbx) (x0 x1:Int) (x2:List AV) (x3 x4 x5:Int) (x6:List UInt8) (x7 x8:Int) (x9:List UInt8) (x10:List AV):DT (Rd qek):=
 .br (x1 != 0)
 (.bi (pl (G_u26q (IntKind.i64.wrap (x0 + 1)) x2 x3)) (fun y0=>
 .br (x0 == 2)
 (.at (.done 0))
 (.bi (qkM x0 y0.2.2.2.2.1 y0.2.2.2.2.2) (fun y1=>
 .at (.next ((.inr (x0,y1.1,y1.2.1,y1.2.2,x4,x5,x6,x1,0,[],[AV.agg [.int .i64 x7,.int .i64 x8,AV.str x9,AV.view 4 x10],
 AV.agg [.int .i64 y0.1,.int .i64 y0.2.1,AV.str y0.2.2.1,AV.view 4 y0.2.2.2.1]])))))
 (.no)))
 (.bi (pr (G_u26q (IntKind.i64.wrap (x0 + 1)) x2 x3)) (fun y0=>
 .at (.done 1))
 (.no)))
 (.at (.done 2))
def qIJ (G_u37q:qbw) (G_u26q:qbv) (G_u45q:qby) (G_u23q:qbu) (G_u39q:qbx) (x0 x1:Int) (x2:List AV) (x3 x4 x5:Int) (x6:List UInt8) (x7 x8:Int) (x9:List UInt8) (x10:List AV):DT (Rd qek):=
 .br (x1 != 0)
 (.bi (pl (G_u26q (IntKind.i64.wrap (x0 + 1)) x2 x3)) (fun y0=>
 .br (x0 == 2)
 (.at (.done 3))
 (.bi (qkM x0 y0.2.2.2.2.1 y0.2.2.2.2.2) (fun y1=>
 .at (.next ((.inr (x0,y1.1,y1.2.1,y1.2.2,x4,x5,x6,x1,0,[],[AV.agg [.int .i64 x7,.int .i64 x8,AV.str x9,AV.view 4 x10],
 AV.agg [.int .i64 y0.1,.int .i64 y0.2.1,AV.str y0.2.2.1,AV.view 4 y0.2.2.2.1]])))))
 (.no)))
 (.bi (pr (G_u26q (IntKind.i64.wrap (x0 + 1)) x2 x3)) (fun y0=>
 .at (.done 4))
 (.no)))
 (.at (.done 5))
def qxo (G_u37q:qbw) (G_u26q:qbv) (G_u45q:qby) (G_u23q:qbu) (G_u39q:qbx):qek -> DT (Rd qek):=(Sum.elim (fun v=>qII G_u37q G_u26q G_u45q G_u23q G_u39q v.1 v.2.1 v.2.2.1 v.2.2.2.1 v.2.2.2.2.1 v.2.2.2.2.2.1 v.2.2.2.2.2.2.1 v.2.2.2.2.2.2.2.1 v.2.2.2.2.2.2.2.2.1 v.2.2.2.2.2.2.2.2.2.1 v.2.2.2.2.2.2.2.2.2.2) (fun v=>qIJ G_u37q G_u26q G_u45q G_u23q G_u39q v.1 v.2.1 v.2.2.1 v.2.2.2.1 v.2.2.2.2.1 v.2.2.2.2.2.1 v.2.2.2.2.2.2.1 v.2.2.2.2.2.2.2.1 v.2.2.2.2.2.2.2.2.1 v.2.2.2.2.2.2.2.2.2.1 v.2.2.2.2.2.2.2.2.2.2))
def qc4 (G_u37q:qbw) (G_u26q:qbv) (G_u45q:qby) (G_u23q:qbu) (G_u39q:qbx) (v:qek):Option (Nat × qek):=qa2 (qaw (fun v=>(qxo G_u37q G_u26q G_u45q G_u23q G_u39q v).ev) v)
theorem qfw (G_u37q G_u26q G_u45q G_u23q G_u39q v):qc4 G_u37q G_u26q G_u45q G_u23q G_u39q v = qaw (fun v=>(qxo G_u37q G_u26q G_u45q G_u23q G_u39q v).ev) v:=qab _
def qFI (G_u37q:qbw) (G_u26q:qbv) (G_u45q:qby) (G_u23q:qbu) (G_u39q:qbx):qdA:=LE (τ:=qek) (hD qE5) (qc4 G_u37q G_u26q G_u45q G_u23q G_u39q) (qXf G_u37q G_u26q G_u45q G_u23q G_u39q)
theorem qWz (G_u37q:qbw) (G_u26q:qbv) (G_u45q:qby) (G_u23q:qbu) (G_u39q:qbx) (hG:qvM G_u37q G_u26q G_u45q G_u23q G_u39q):Go.Eng.Told IP (qah F47 0).1 (qah F47 0).2 (qFI G_u37q G_u26q G_u45q G_u23q G_u39q):=qaF (inferInstance:Inhabited qek) (hs:=qE5) (st:=qxo G_u37q G_u26q G_u45q G_u23q G_u39q) (L:=[]) (qeb G_u37q G_u26q G_u45q G_u23q G_u39q hG) (qae (l:=[]) (by kernel_rfl) trivial) (qfw G_u37q G_u26q G_u45q G_u23q G_u39q) (fun v=>match v with | (.inl v)=>by kernel_rfl | (.inr v)=>by kernel_rfl) (fun v=>match v with | (.inl v)=>by kernel_rfl | (.inr v)=>by kernel_rfl)
def qsp (G_u37q:qbw) (G_u26q:qbv) (G_u45q:qby) (G_u23q:qbu) (G_u39q:qbx) (x0:List AV) (x1:Int):DT qCC:=
 .bi (qct [105,102] x0 x1) (fun y0=>
 .br (!y0.1)
 (.bi (pl (G_u26q 0 y0.2.1 y0.2.2)) (fun y1=>
 .at ((.inl (y1.1,y1.2.1,y1.2.2.1,y1.2.2.2.1,y1.2.2.2.2.1,y1.2.2.2.2.2))))
 (.bi (pr (G_u26q 0 y0.2.1 y0.2.2)) (fun y1=>
 .at ((.inr (y1.1,y1.2.1,y1.2.2))))
 (.no)))
 (.bi (pl (G_u37q y0.2.1 y0.2.2)) (fun y1=>
 .bi (pl (qde [116,104,101,110] y1.2.2.2.2.1 y1.2.2.2.2.2)) (fun y2=>
 .at ((.inr (y2.1,y2.2.1,y2.2.2))))
 (.bi (pr (qde [116,104,101,110] y1.2.2.2.2.1 y1.2.2.2.2.2)) (fun y2=>
 .bi (pl (G_u37q y2.1 y2.2)) (fun y3=>
 .bi (pl (qde [101,108,115,101] y3.2.2.2.2.1 y3.2.2.2.2.2)) (fun y4=>
 .at ((.inr (y4.1,y4.2.1,y4.2.2))))
 (.bi (pr (qde [101,108,115,101] y3.2.2.2.2.1 y3.2.2.2.2.2)) (fun y4=>
 .bi (pl (G_u37q y4.1 y4.2)) (fun y5=>
 .at ((.inl (19,0,[],[AV.agg [.int .i64 y1.1,.int .i64 y1.2.1,AV.str y1.2.2.1,AV.view 4 y1.2.2.2.1],
 AV.agg [.int .i64 y3.1,.int .i64 y3.2.1,AV.str y3.2.2.1,AV.view 4 y3.2.2.2.1],
 AV.agg [.int .i64 y5.1,.int .i64 y5.2.1,AV.str y5.2.2.1,AV.view 4 y5.2.2.2.1]],y5.2.2.2.2.1,y5.2.2.2.2.2))))
 (.bi (pr (G_u37q y4.1 y4.2)) (fun y5=>
 .at ((.inr (y5.1,y5.2.1,y5.2.2))))
 (.no)))
 (.no)))
 (.bi (pr (G_u37q y2.1 y2.2)) (fun y3=>
 .at ((.inr (y3.1,y3.2.1,y3.2.2))))
 (.no)))
 (.no)))
 (.bi (pr (G_u37q y0.2.1 y0.2.2)) (fun y1=>
 .at ((.inr (y1.1,y1.2.1,y1.2.2))))
 (.no))))
 (.no)
def qfe (G_u37q:qbw) (G_u26q:qbv) (G_u45q:qby) (G_u23q:qbu) (G_u39q:qbx) (x0:Int) (x1:List AV) (x2:Int):DT qlX:=
 .bi (qic) (fun y0=>
 .br (x0 == (y0.length:Int))
 (.bi (pl (G_u45q x1 x2)) (fun y1=>
 .at ((.inl (y1.1,y1.2.1,y1.2.2.1,y1.2.2.2.1,y1.2.2.2.2.1,y1.2.2.2.2.2))))
 (.bi (pr (G_u45q x1 x2)) (fun y1=>
 .at ((.inr (y1.1,y1.2.1,y1.2.2))))
 (.no)))
 (.br (x0 == 2)
 (.bi (qct [110,111,116] x1 x2) (fun y1=>
 .br (y1.1)
 (.bi (pl (G_u26q 2 y1.2.1 y1.2.2)) (fun y2=>
 .at ((.inl (16,0,[],[AV.agg [.int .i64 y2.1,.int .i64 y2.2.1,AV.str y2.2.2.1,AV.view 4 y2.2.2.2.1]],y2.2.2.2.2.1,y2.2.2.2.2.2))))
 (.bi (pr (G_u26q 2 y1.2.1 y1.2.2)) (fun y2=>
 .at ((.inr (y2.1,y2.2.1,y2.2.2))))
 (.no)))
 (.bi (pl (G_u26q (IntKind.i64.wrap (x0 + 1)) y1.2.1 y1.2.2)) (fun y2=>
 .bi (qkM x0 y2.2.2.2.2.1 y2.2.2.2.2.2) (fun y3=>
 .bi (pj 0
 (qc4 G_u37q G_u26q G_u45q G_u23q G_u39q
 (Sum.inl (x0,y3.1,y3.2.1,y3.2.2,0,0,[],y2.1,y2.2.1,y2.2.2.1,y2.2.2.2.1)))) (fun y4=>
 .at ((.inl ((sl y4).2.1,0,[],[AV.agg
 [.int .i64 (sl y4).2.2.2.2.2.2.2.1,.int .i64 (sl y4).2.2.2.2.2.2.2.2.1,
 AV.str (sl y4).2.2.2.2.2.2.2.2.2.1,AV.view 4 (sl y4).2.2.2.2.2.2.2.2.2.2],
 AV.agg
 [.int .i64 (gv (pl (G_u26q (IntKind.i64.wrap ((sl y4).1 + 1)) (sl y4).2.2.1 (sl y4).2.2.2.1))).1,
 .int .i64 (gv (pl (G_u26q (IntKind.i64.wrap ((sl y4).1 + 1)) (sl y4).2.2.1 (sl y4).2.2.2.1))).2.1,
 AV.str (gv (pl (G_u26q (IntKind.i64.wrap ((sl y4).1 + 1)) (sl y4).2.2.1 (sl y4).2.2.2.1))).2.2.1,
 AV.view 4 (gv (pl (G_u26q (IntKind.i64.wrap ((sl y4).1 + 1)) (sl y4).2.2.1 (sl y4).2.2.2.1))).2.2.2.1]],(gv (pl (G_u26q (IntKind.i64.wrap ((sl y4).1 + 1)) (sl y4).2.2.1 (sl y4).2.2.2.1))).2.2.2.2.1,(gv (pl (G_u26q (IntKind.i64.wrap ((sl y4).1 + 1)) (sl y4).2.2.1 (sl y4).2.2.2.1))).2.2.2.2.2))))
 (.bi (pj 1
 (qc4 G_u37q G_u26q G_u45q G_u23q G_u39q
 (Sum.inl (x0,y3.1,y3.2.1,y3.2.2,0,0,[],y2.1,y2.2.1,y2.2.2.1,y2.2.2.2.1)))) (fun y4=>
 .at ((.inr ((gv (pr (G_u26q (IntKind.i64.wrap ((sl y4).1 + 1)) (sl y4).2.2.1 (sl y4).2.2.2.1))).1,(gv (pr (G_u26q (IntKind.i64.wrap ((sl y4).1 + 1)) (sl y4).2.2.1 (sl y4).2.2.2.1))).2.1,(gv (pr (G_u26q (IntKind.i64.wrap ((sl y4).1 + 1)) (sl y4).2.2.1 (sl y4).2.2.2.1))).2.2))))
 (.bi (pj 2
 (qc4 G_u37q G_u26q G_u45q G_u23q G_u39q
 (Sum.inl (x0,y3.1,y3.2.1,y3.2.2,0,0,[],y2.1,y2.2.1,y2.2.2.1,y2.2.2.2.1)))) (fun y4=>
 .at ((.inl ((sl y4).2.2.2.2.2.2.2.1,(sl y4).2.2.2.2.2.2.2.2.1,(sl y4).2.2.2.2.2.2.2.2.2.1,(sl y4).2.2.2.2.2.2.2.2.2.2,(sl y4).2.2.1,(sl y4).2.2.2.1))))
 (.bi (pj 3
 (qc4 G_u37q G_u26q G_u45q G_u23q G_u39q
 (Sum.inl (x0,y3.1,y3.2.1,y3.2.2,0,0,[],y2.1,y2.2.1,y2.2.2.1,y2.2.2.2.1)))) (fun y4=>
 .at ((.inl ((sr y4).2.1,0,[],[AV.agg
 [.int .i64 (sr y4).2.2.2.2.2.2.2.1,.int .i64 (sr y4).2.2.2.2.2.2.2.2.1,
 AV.str (sr y4).2.2.2.2.2.2.2.2.2.1,AV.view 4 (sr y4).2.2.2.2.2.2.2.2.2.2],
 AV.agg
 [.int .i64 (gv (pl (G_u26q (IntKind.i64.wrap ((sr y4).1 + 1)) (sr y4).2.2.1 (sr y4).2.2.2.1))).1,
 .int .i64 (gv (pl (G_u26q (IntKind.i64.wrap ((sr y4).1 + 1)) (sr y4).2.2.1 (sr y4).2.2.2.1))).2.1,
 AV.str (gv (pl (G_u26q (IntKind.i64.wrap ((sr y4).1 + 1)) (sr y4).2.2.1 (sr y4).2.2.2.1))).2.2.1,
 AV.view 4 (gv (pl (G_u26q (IntKind.i64.wrap ((sr y4).1 + 1)) (sr y4).2.2.1 (sr y4).2.2.2.1))).2.2.2.1]],(gv (pl (G_u26q (IntKind.i64.wrap ((sr y4).1 + 1)) (sr y4).2.2.1 (sr y4).2.2.2.1))).2.2.2.2.1,(gv (pl (G_u26q (IntKind.i64.wrap ((sr y4).1 + 1)) (sr y4).2.2.1 (sr y4).2.2.2.1))).2.2.2.2.2))))
 (.bi (pj 4
 (qc4 G_u37q G_u26q G_u45q G_u23q G_u39q
 (Sum.inl (x0,y3.1,y3.2.1,y3.2.2,0,0,[],y2.1,y2.2.1,y2.2.2.1,y2.2.2.2.1)))) (fun y4=>
 .at ((.inr ((gv (pr (G_u26q (IntKind.i64.wrap ((sr y4).1 + 1)) (sr y4).2.2.1 (sr y4).2.2.2.1))).1,(gv (pr (G_u26q (IntKind.i64.wrap ((sr y4).1 + 1)) (sr y4).2.2.1 (sr y4).2.2.2.1))).2.1,(gv (pr (G_u26q (IntKind.i64.wrap ((sr y4).1 + 1)) (sr y4).2.2.1 (sr y4).2.2.2.1))).2.2))))
 (.bi (pj 5
 (qc4 G_u37q G_u26q G_u45q G_u23q G_u39q
 (Sum.inl (x0,y3.1,y3.2.1,y3.2.2,0,0,[],y2.1,y2.2.1,y2.2.2.1,y2.2.2.2.1)))) (fun y4=>
 .at ((.inl ((sr y4).2.2.2.2.2.2.2.1,(sr y4).2.2.2.2.2.2.2.2.1,(sr y4).2.2.2.2.2.2.2.2.2.1,(sr y4).2.2.2.2.2.2.2.2.2.2,(sr y4).2.2.1,(sr y4).2.2.2.1))))
 (.no)))))))
 (.no))
 (.bi (pr (G_u26q (IntKind.i64.wrap (x0 + 1)) y1.2.1 y1.2.2)) (fun y2=>
 .at ((.inr (y2.1,y2.2.1,y2.2.2))))
 (.no))))
 (.no))
 (.bi (pl (G_u26q (IntKind.i64.wrap (x0 + 1)) x1 x2)) (fun y1=>
 .bi (qkM x0 y1.2.2.2.2.1 y1.2.2.2.2.2) (fun y2=>
 .bi (pj 0
 (qc4 G_u37q G_u26q G_u45q G_u23q G_u39q
 (Sum.inl (x0,y2.1,y2.2.1,y2.2.2,0,0,[],y1.1,y1.2.1,y1.2.2.1,y1.2.2.2.1)))) (fun y3=>
 .at ((.inl ((sl y3).2.1,0,[],[AV.agg
 [.int .i64 (sl y3).2.2.2.2.2.2.2.1,.int .i64 (sl y3).2.2.2.2.2.2.2.2.1,
 AV.str (sl y3).2.2.2.2.2.2.2.2.2.1,AV.view 4 (sl y3).2.2.2.2.2.2.2.2.2.2],
 AV.agg
 [.int .i64 (gv (pl (G_u26q (IntKind.i64.wrap ((sl y3).1 + 1)) (sl y3).2.2.1 (sl y3).2.2.2.1))).1,
 .int .i64 (gv (pl (G_u26q (IntKind.i64.wrap ((sl y3).1 + 1)) (sl y3).2.2.1 (sl y3).2.2.2.1))).2.1,
 AV.str (gv (pl (G_u26q (IntKind.i64.wrap ((sl y3).1 + 1)) (sl y3).2.2.1 (sl y3).2.2.2.1))).2.2.1,
 AV.view 4 (gv (pl (G_u26q (IntKind.i64.wrap ((sl y3).1 + 1)) (sl y3).2.2.1 (sl y3).2.2.2.1))).2.2.2.1]],(gv (pl (G_u26q (IntKind.i64.wrap ((sl y3).1 + 1)) (sl y3).2.2.1 (sl y3).2.2.2.1))).2.2.2.2.1,(gv (pl (G_u26q (IntKind.i64.wrap ((sl y3).1 + 1)) (sl y3).2.2.1 (sl y3).2.2.2.1))).2.2.2.2.2))))
 (.bi (pj 1
 (qc4 G_u37q G_u26q G_u45q G_u23q G_u39q
 (Sum.inl (x0,y2.1,y2.2.1,y2.2.2,0,0,[],y1.1,y1.2.1,y1.2.2.1,y1.2.2.2.1)))) (fun y3=>
 .at ((.inr ((gv (pr (G_u26q (IntKind.i64.wrap ((sl y3).1 + 1)) (sl y3).2.2.1 (sl y3).2.2.2.1))).1,(gv (pr (G_u26q (IntKind.i64.wrap ((sl y3).1 + 1)) (sl y3).2.2.1 (sl y3).2.2.2.1))).2.1,(gv (pr (G_u26q (IntKind.i64.wrap ((sl y3).1 + 1)) (sl y3).2.2.1 (sl y3).2.2.2.1))).2.2))))
 (.bi (pj 2
 (qc4 G_u37q G_u26q G_u45q G_u23q G_u39q
 (Sum.inl (x0,y2.1,y2.2.1,y2.2.2,0,0,[],y1.1,y1.2.1,y1.2.2.1,y1.2.2.2.1)))) (fun y3=>
 .at ((.inl ((sl y3).2.2.2.2.2.2.2.1,(sl y3).2.2.2.2.2.2.2.2.1,(sl y3).2.2.2.2.2.2.2.2.2.1,(sl y3).2.2.2.2.2.2.2.2.2.2,(sl y3).2.2.1,(sl y3).2.2.2.1))))
 (.bi (pj 3
 (qc4 G_u37q G_u26q G_u45q G_u23q G_u39q
 (Sum.inl (x0,y2.1,y2.2.1,y2.2.2,0,0,[],y1.1,y1.2.1,y1.2.2.1,y1.2.2.2.1)))) (fun y3=>
 .at ((.inl ((sr y3).2.1,0,[],[AV.agg
 [.int .i64 (sr y3).2.2.2.2.2.2.2.1,.int .i64 (sr y3).2.2.2.2.2.2.2.2.1,
 AV.str (sr y3).2.2.2.2.2.2.2.2.2.1,AV.view 4 (sr y3).2.2.2.2.2.2.2.2.2.2],
 AV.agg
 [.int .i64 (gv (pl (G_u26q (IntKind.i64.wrap ((sr y3).1 + 1)) (sr y3).2.2.1 (sr y3).2.2.2.1))).1,
 .int .i64 (gv (pl (G_u26q (IntKind.i64.wrap ((sr y3).1 + 1)) (sr y3).2.2.1 (sr y3).2.2.2.1))).2.1,
 AV.str (gv (pl (G_u26q (IntKind.i64.wrap ((sr y3).1 + 1)) (sr y3).2.2.1 (sr y3).2.2.2.1))).2.2.1,
 AV.view 4 (gv (pl (G_u26q (IntKind.i64.wrap ((sr y3).1 + 1)) (sr y3).2.2.1 (sr y3).2.2.2.1))).2.2.2.1]],(gv (pl (G_u26q (IntKind.i64.wrap ((sr y3).1 + 1)) (sr y3).2.2.1 (sr y3).2.2.2.1))).2.2.2.2.1,(gv (pl (G_u26q (IntKind.i64.wrap ((sr y3).1 + 1)) (sr y3).2.2.1 (sr y3).2.2.2.1))).2.2.2.2.2))))
 (.bi (pj 4
 (qc4 G_u37q G_u26q G_u45q G_u23q G_u39q
 (Sum.inl (x0,y2.1,y2.2.1,y2.2.2,0,0,[],y1.1,y1.2.1,y1.2.2.1,y1.2.2.2.1)))) (fun y3=>
 .at ((.inr ((gv (pr (G_u26q (IntKind.i64.wrap ((sr y3).1 + 1)) (sr y3).2.2.1 (sr y3).2.2.2.1))).1,(gv (pr (G_u26q (IntKind.i64.wrap ((sr y3).1 + 1)) (sr y3).2.2.1 (sr y3).2.2.2.1))).2.1,(gv (pr (G_u26q (IntKind.i64.wrap ((sr y3).1 + 1)) (sr y3).2.2.1 (sr y3).2.2.2.1))).2.2))))
 (.bi (pj 5
 (qc4 G_u37q G_u26q G_u45q G_u23q G_u39q
 (Sum.inl (x0,y2.1,y2.2.1,y2.2.2,0,0,[],y1.1,y1.2.1,y1.2.2.1,y1.2.2.2.1)))) (fun y3=>
 .at ((.inl ((sr y3).2.2.2.2.2.2.2.1,(sr y3).2.2.2.2.2.2.2.2.1,(sr y3).2.2.2.2.2.2.2.2.2.1,(sr y3).2.2.2.2.2.2.2.2.2.2,(sr y3).2.2.1,(sr y3).2.2.2.1))))
 (.no)))))))
 (.no))
 (.bi (pr (G_u26q (IntKind.i64.wrap (x0 + 1)) x1 x2)) (fun y1=>
 .at ((.inr (y1.1,y1.2.1,y1.2.2))))
 (.no)))))
 (.no)
def qsu (G_u37q:qbw) (G_u26q:qbv) (G_u45q:qby) (G_u23q:qbu) (G_u39q:qbx) (x0:List AV) (x1:Int):DT qCE:=
 .bi (qct [45] x0 x1) (fun y0=>
 .br (y0.1)
 (.bi (pl (G_u45q y0.2.1 y0.2.2)) (fun y1=>
 .at ((.inl (9,0,[],[AV.agg [.int .i64 y1.1,.int .i64 y1.2.1,AV.str y1.2.2.1,AV.view 4 y1.2.2.2.1]],y1.2.2.2.2.1,y1.2.2.2.2.2))))
 (.bi (pr (G_u45q y0.2.1 y0.2.2)) (fun y1=>
 .at ((.inr (y1.1,y1.2.1,y1.2.2))))
 (.no)))
 (.bi (pl (G_u23q y0.2.1 y0.2.2)) (fun y1=>
 .at ((.inl (y1.1,y1.2.1,y1.2.2.1,y1.2.2.2.1,y1.2.2.2.2.1,y1.2.2.2.2.2))))
 (.bi (pr (G_u23q y0.2.1 y0.2.2)) (fun y1=>
 .at ((.inr (y1.1,y1.2.1,y1.2.2))))
 (.no))))
 (.no)
def qse (G_u37q:qbw) (G_u26q:qbv) (G_u45q:qby) (G_u23q:qbu) (G_u39q:qbx) (x0:List AV) (x1:Int):DT qxK:=
 .bi (qct [36] x0 x1) (fun y0=>
 .br (y0.1)
 (.bi (pl (qdd y0.2.1 y0.2.2)) (fun y1=>
 .at ((.inl (2,y1.1,[],[],y1.2.1,y1.2.2))))
 (.bi (pr (qdd y0.2.1 y0.2.2)) (fun y1=>
 .at ((.inr (y1.1,y1.2.1,y1.2.2))))
 (.no)))
 (.bi (qct [109,105,110] y0.2.1 y0.2.2) (fun y1=>
 .br (y1.1)
 (.bi (pl (G_u39q 17 y1.2.1 y1.2.2)) (fun y2=>
 .at ((.inr (y2.1,y2.2.1,y2.2.2))))
 (.bi (pr (G_u39q 17 y1.2.1 y1.2.2)) (fun y2=>
 .at ((.inl (y2.1,y2.2.1,y2.2.2.1,y2.2.2.2.1,y2.2.2.2.2.1,y2.2.2.2.2.2))))
 (.no)))
 (.bi (qct [109,97,120] y1.2.1 y1.2.2) (fun y2=>
 .br (y2.1)
 (.bi (pl (G_u39q 18 y2.2.1 y2.2.2)) (fun y3=>
 .at ((.inr (y3.1,y3.2.1,y3.2.2))))
 (.bi (pr (G_u39q 18 y2.2.1 y2.2.2)) (fun y3=>
 .at ((.inl (y3.1,y3.2.1,y3.2.2.1,y3.2.2.2.1,y3.2.2.2.2.1,y3.2.2.2.2.2))))
 (.no)))
 (.bi (qct [40] y2.2.1 y2.2.2) (fun y3=>
 .br (y3.1)
 (.bi (pl (G_u37q y3.2.1 y3.2.2)) (fun y4=>
 .bi (pl (qde [41] y4.2.2.2.2.1 y4.2.2.2.2.2)) (fun y5=>
 .at ((.inr (y5.1,y5.2.1,y5.2.2))))
 (.bi (pr (qde [41] y4.2.2.2.2.1 y4.2.2.2.2.2)) (fun y5=>
 .at ((.inl (y4.1,y4.2.1,y4.2.2.1,y4.2.2.2.1,y5.1,y5.2))))
 (.no)))
 (.bi (pr (G_u37q y3.2.1 y3.2.2)) (fun y4=>
 .at ((.inr (y4.1,y4.2.1,y4.2.2))))
 (.no)))
 (.br (decide (y3.2.2 < (y3.2.1.length:Int)))
 (.br (qaQ [.int .i64,.int .i64,.str] y3.2.1 y3.2.2)
 (.br (intOf (cellAt y3.2.1 y3.2.2 0) == 1)
 (.br (qaQ [.int .i64,.int .i64,.str] y3.2.1 (IntKind.i64.wrap (IntKind.i64.wrap (y3.2.2 + 1) - 1)))
 (.at ((.inl (4,0,strOf (cellAt y3.2.1 (IntKind.i64.wrap (IntKind.i64.wrap (y3.2.2 + 1) - 1)) 2),[],y3.2.1,IntKind.i64.wrap (y3.2.2 + 1)))))
 (.no))
 (.br (decide (y3.2.2 < (y3.2.1.length:Int)))
 (.br (qaQ [.int .i64,.int .i64,.str] y3.2.1 y3.2.2)
 (.br (intOf (cellAt y3.2.1 y3.2.2 0) == 3)
 (.br (qaQ [.int .i64,.int .i64,.str] y3.2.1 y3.2.2)
 (.bi (qih (strOf (cellAt y3.2.1 y3.2.2 2))) (fun y4=>
 .br (y4.2 != 0)
 (.bi (qfo y3.2.1 y3.2.2) (fun y5=>
 .at ((.inr (y5.1,y5.2.1,y5.2.2))))
 (.no))
 (.at ((.inl (3,y4.1,[],[],y3.2.1,IntKind.i64.wrap (y3.2.2 + 1))))))
 (.no))
 (.no))
 (.bi (pl (qdd y3.2.1 y3.2.2)) (fun y4=>
 .at ((.inl (1,y4.1,[],[],y4.2.1,y4.2.2))))
 (.bi (pr (qdd y3.2.1 y3.2.2)) (fun y4=>
 .at ((.inr (y4.1,y4.2.1,y4.2.2))))
 (.no))))
 (.no))
 (.bi (pl (qdd y3.2.1 y3.2.2)) (fun y4=>
 .at ((.inl (1,y4.1,[],[],y4.2.1,y4.2.2))))
 (.bi (pr (qdd y3.2.1 y3.2.2)) (fun y4=>
 .at ((.inr (y4.1,y4.2.1,y4.2.2))))
 (.no)))))
 (.no))
 (.br (decide (y3.2.2 < (y3.2.1.length:Int)))
 (.br (qaQ [.int .i64,.int .i64,.str] y3.2.1 y3.2.2)
 (.br (intOf (cellAt y3.2.1 y3.2.2 0) == 3)
 (.br (qaQ [.int .i64,.int .i64,.str] y3.2.1 y3.2.2)
 (.bi (qih (strOf (cellAt y3.2.1 y3.2.2 2))) (fun y4=>
 .br (y4.2 != 0)
 (.bi (qfo y3.2.1 y3.2.2) (fun y5=>
 .at ((.inr (y5.1,y5.2.1,y5.2.2))))
 (.no))
 (.at ((.inl (3,y4.1,[],[],y3.2.1,IntKind.i64.wrap (y3.2.2 + 1))))))
 (.no))
 (.no))
 (.bi (pl (qdd y3.2.1 y3.2.2)) (fun y4=>
 .at ((.inl (1,y4.1,[],[],y4.2.1,y4.2.2))))
 (.bi (pr (qdd y3.2.1 y3.2.2)) (fun y4=>
 .at ((.inr (y4.1,y4.2.1,y4.2.2))))
 (.no))))
 (.no))
 (.bi (pl (qdd y3.2.1 y3.2.2)) (fun y4=>
 .at ((.inl (1,y4.1,[],[],y4.2.1,y4.2.2))))
 (.bi (pr (qdd y3.2.1 y3.2.2)) (fun y4=>
 .at ((.inr (y4.1,y4.2.1,y4.2.2))))
 (.no))))))
 (.no)))
 (.no)))
 (.no)))
 (.no)
def qsr (G_u37q:qbw) (G_u26q:qbv) (G_u45q:qby) (G_u23q:qbu) (G_u39q:qbx) (x0:Int) (x1:List AV) (x2:Int):DT qCD:=
 .bi (pl (qde [40] x1 x2)) (fun y0=>
 .at ((.inl (y0.1,y0.2.1,y0.2.2))))
 (.bi (pr (qde [40] x1 x2)) (fun y0=>
 .bi (pl (G_u37q y0.1 y0.2)) (fun y1=>
 .bi (pl (qde [44] y1.2.2.2.2.1 y1.2.2.2.2.2)) (fun y2=>
 .at ((.inl (y2.1,y2.2.1,y2.2.2))))
 (.bi (pr (qde [44] y1.2.2.2.2.1 y1.2.2.2.2.2)) (fun y2=>
 .bi (pl (G_u37q y2.1 y2.2)) (fun y3=>
 .bi (pl (qde [41] y3.2.2.2.2.1 y3.2.2.2.2.2)) (fun y4=>
 .at ((.inl (y4.1,y4.2.1,y4.2.2))))
 (.bi (pr (qde [41] y3.2.2.2.2.1 y3.2.2.2.2.2)) (fun y4=>
 .at ((.inr (x0,0,[],[AV.agg [.int .i64 y1.1,.int .i64 y1.2.1,AV.str y1.2.2.1,AV.view 4 y1.2.2.2.1],
 AV.agg [.int .i64 y3.1,.int .i64 y3.2.1,AV.str y3.2.2.1,AV.view 4 y3.2.2.2.1]],y4.1,y4.2))))
 (.no)))
 (.bi (pr (G_u37q y2.1 y2.2)) (fun y3=>
 .at ((.inl (y3.1,y3.2.1,y3.2.2))))
 (.no)))
 (.no)))
 (.bi (pr (G_u37q y0.1 y0.2)) (fun y1=>
 .at ((.inl (y1.1,y1.2.1,y1.2.2))))
 (.no)))
 (.no))
def qaf:Nat -> qbw × qbv × qby × qbu × qbx
 | 0=>(fun _ _=>none,fun _ _ _=>none,fun _ _=>none,fun _ _=>none,fun _ _ _=>none)
 | n + 1=>(fun x0 x1=>(qsp ((qaf n).1) ((qaf n).2.1) ((qaf n).2.2.1) ((qaf n).2.2.2.1) ((qaf n).2.2.2.2) x0 x1).ev,fun x0 x1 x2=>(qfe ((qaf n).1) ((qaf n).2.1) ((qaf n).2.2.1) ((qaf n).2.2.2.1) ((qaf n).2.2.2.2) x0 x1 x2).ev,fun x0 x1=>(qsu ((qaf n).1) ((qaf n).2.1) ((qaf n).2.2.1) ((qaf n).2.2.2.1) ((qaf n).2.2.2.2) x0 x1).ev,fun x0 x1=>(qse ((qaf n).1) ((qaf n).2.1) ((qaf n).2.2.1) ((qaf n).2.2.2.1) ((qaf n).2.2.2.2) x0 x1).ev,fun x0 x1 x2=>(qsr ((qaf n).1) ((qaf n).2.1) ((qaf n).2.2.1) ((qaf n).2.2.2.1) ((qaf n).2.2.2.2) x0 x1 x2).ev)
def qEl (x0:List AV) (x1:Int):Option qCC:=qfI fun n=>(qaf n).1 x0 x1
theorem qfi:∀ n,qvM ((qaf n).1) ((qaf n).2.1) ((qaf n).2.2.1) ((qaf n).2.2.2.1) ((qaf n).2.2.2.2)
 | 0=>⟨(fun v y h=>nomatch h),(fun v y h=>nomatch h),(fun v y h=>nomatch h),(fun v y h=>nomatch h),(fun v y h=>nomatch h)⟩
 | n + 1=>have hG:=qfi n
 ⟨qak (F:=F29) (L:=[]) (t:=(k2 (qsp ((qaf n).1) ((qaf n).2.1) ((qaf n).2.2.1) ((qaf n).2.2.2.1) ((qaf n).2.2.2.2)))) (qeb ((qaf n).1) ((qaf n).2.1) ((qaf n).2.2.1) ((qaf n).2.2.2.1) ((qaf n).2.2.2.2) hG) (qae (l:=[]) (by kernel_rfl) trivial) (by kernel_rfl) (fun v=>by kernel_rfl) (fun v=>rfl),qak (F:=F47) (L:=[(1004700,qFI ((qaf n).1) ((qaf n).2.1) ((qaf n).2.2.1) ((qaf n).2.2.2.1) ((qaf n).2.2.2.2))]) (t:=(k3 (qfe ((qaf n).1) ((qaf n).2.1) ((qaf n).2.2.1) ((qaf n).2.2.2.1) ((qaf n).2.2.2.2)))) (qeb ((qaf n).1) ((qaf n).2.1) ((qaf n).2.2.1) ((qaf n).2.2.2.1) ((qaf n).2.2.2.2) hG) (qae (l:=[qah F47 0]) (by kernel_rfl) ⟨qaH (by kernel_rfl) (qWz ((qaf n).1) ((qaf n).2.1) ((qaf n).2.2.1) ((qaf n).2.2.2.1) ((qaf n).2.2.2.2) hG),trivial⟩) (by kernel_rfl) (fun v=>by kernel_rfl) (fun v=>rfl),qak (F:=F78) (L:=[]) (t:=(k2 (qsu ((qaf n).1) ((qaf n).2.1) ((qaf n).2.2.1) ((qaf n).2.2.2.1) ((qaf n).2.2.2.2)))) (qeb ((qaf n).1) ((qaf n).2.1) ((qaf n).2.2.1) ((qaf n).2.2.2.1) ((qaf n).2.2.2.2) hG) (qae (l:=[]) (by kernel_rfl) trivial) (by kernel_rfl) (fun v=>by kernel_rfl) (fun v=>rfl),qak (F:=qX7) (L:=[]) (t:=(k2 (qse ((qaf n).1) ((qaf n).2.1) ((qaf n).2.2.1) ((qaf n).2.2.2.1) ((qaf n).2.2.2.2)))) (qeb ((qaf n).1) ((qaf n).2.1) ((qaf n).2.2.1) ((qaf n).2.2.2.1) ((qaf n).2.2.2.2) hG) (qae (l:=[]) (by kernel_rfl) trivial) (by kernel_rfl) (fun v=>by kernel_rfl) (fun v=>rfl),qak (F:=qYc) (L:=[]) (t:=(k3 (qsr ((qaf n).1) ((qaf n).2.1) ((qaf n).2.2.1) ((qaf n).2.2.2.1) ((qaf n).2.2.2.2)))) (qeb ((qaf n).1) ((qaf n).2.1) ((qaf n).2.2.1) ((qaf n).2.2.2.1) ((qaf n).2.2.2.2) hG) (qae (l:=[]) (by kernel_rfl) trivial) (by kernel_rfl) (fun v=>by kernel_rfl) (fun v=>rfl)⟩
theorem qOf:FH IP 29 quG quV (k2 qEl):=qbk (p:=quG) (rs:=quV) (s:=fun n=>(k2 ((qaf n).1))) fun n=>(qfi n).1
end
end Go.Proofs.H10

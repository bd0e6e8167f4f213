/- Functions over plain data. Printed by a program of mine. -/
import Derived.Test.YthljpgljbpdmjaaGreatDoorD15v_2
import Derived.KernelRfl
set_option linter.unusedVariables false
set_option linter.unusedSimpArgs false
set_option linter.unnecessarySimpa false
namespace Go.Proofs.H15v
open Go Go.Eng
set_option maxRecDepth 100000
abbrev TT_u39q : Type := List UInt8 × Int
def hs_u39q : List PSt := [⟨[(1016400, .junk), (0, .str), (1, .fn (.func 174) []), (5, .int .i64)], [], 0, 0⟩]
noncomputable def x_u39q_0 (x0 : List UInt8) (x1 : Int) : X × St := (X.exit 0, { tm := [(0, AV.str x0), (5, AV.int IntKind.i64 x1)], hp := [], nx := 0, k := 0 })
noncomputable def x_u39q : List (TT_u39q → X × St) := [fun w => x_u39q_0 w.1 w.2]
noncomputable def st_u39q_0 (x0 : List UInt8) (x1 : Int) : DT (Rd TT_u39q) :=
 .bi (br (decide (x1 < (↑x0.length : Int)))
     (br (inB x0.length x1) (br (sm (f_u53q (IntKind.i32.wrap (byteAt x0 x1)))) (some (gv (f_u53q (IntKind.i32.wrap (byteAt x0 x1))))) none) none) (some false)) (fun y0 =>
  .br (y0) (.at (.next ((x0, IntKind.i64.wrap (x1 + 1))))) (.at (.done 0)))
  (.no)
noncomputable def st_u39q : TT_u39q → DT (Rd TT_u39q) := (fun v => st_u39q_0 v.1 v.2)
noncomputable def l_u39q (v : TT_u39q) : Option (Nat × TT_u39q) := lock (iterO (fun v => (st_u39q v).ev) v)
theorem l_u39q_eq (v : TT_u39q) : l_u39q v = iterO (fun v => (st_u39q v).ev) v := lock_eq _
noncomputable def ll_u39q : LEnt := LE (τ := TT_u39q) (hD hs_u39q) (l_u39q) x_u39q
theorem t_u39q : Go.Eng.Told IP (loopAt F164 0).1 (loopAt F164 0).2 (ll_u39q) := loop_LE (inferInstance : Inhabited TT_u39q) (hs := hs_u39q) (st := st_u39q) (L := []) T34_ok (LOk_of (l := []) (by kernel_rfl) trivial) (l_u39q_eq) (fun v => by kernel_rfl) (fun v => by kernel_rfl)
abbrev B_u63q : Type := List UInt8
def p_u63q : PArgs := ⟨[.str, .fn (.func 174) []], []⟩
def r_u63q : List PRes := [⟨false, .str, []⟩]
noncomputable def tr_u63q (x0 : List UInt8) : DT B_u63q :=
 .bi (pj 0 (l_u39q (x0, 0))) (fun y0 =>
  .br (leB y0.snd y0.fst.length && true) (.at (List.take y0.snd.toNat y0.fst)) (.no))
  (.no)
noncomputable def f_u63q (x0 : List UInt8) : Option B_u63q := lock (tr_u63q x0).ev
theorem f_u63q_eq (x0 : List UInt8) : f_u63q x0 = (tr_u63q x0).ev := lock_eq _
theorem c_u63q : FH IP 164 p_u63q r_u63q (fun (v : List UInt8) => (f_u63q v : Option B_u63q)) := fun_FH (F := F164) (L := [(1016400, ll_u39q)]) (t := fun (v : List UInt8) => tr_u63q v) T34_ok (LOk_of (l := [loopAt F164 0]) (by kernel_rfl) ⟨sel_one (by kernel_rfl) t_u39q, trivial⟩) (by kernel_rfl) (fun v => by kernel_rfl) (fun v => f_u63q_eq v)
noncomputable def T35 : Tab := (164, FE p_u63q r_u63q (fun (v : List UInt8) => (f_u63q v : Option B_u63q))) :: T34
theorem T35_ok : TabOk IP T35 := ⟨FE_ok c_u63q, T34_ok⟩
abbrev TT_u40q : Type := List UInt8 × Int
def hs_u40q : List PSt := [⟨[(1016400, .junk), (0, .str), (1, .fn (.func 172) []), (5, .int .i64)], [], 0, 0⟩]
noncomputable def x_u40q_0 (x0 : List UInt8) (x1 : Int) : X × St := (X.exit 0, { tm := [(0, AV.str x0), (5, AV.int IntKind.i64 x1)], hp := [], nx := 0, k := 0 })
noncomputable def x_u40q : List (TT_u40q → X × St) := [fun w => x_u40q_0 w.1 w.2]
noncomputable def st_u40q_0 (x0 : List UInt8) (x1 : Int) : DT (Rd TT_u40q) :=
 .bi (br (decide (x1 < (↑x0.length : Int)))
     (br (inB x0.length x1) (br (sm (f_u92q (IntKind.i32.wrap (byteAt x0 x1)))) (some (gv (f_u92q (IntKind.i32.wrap (byteAt x0 x1))))) none) none) (some false)) (fun y0 =>
  .br (y0) (.at (.next ((x0, IntKind.i64.wrap (x1 + 1))))) (.at (.done 0)))
  (.no)
noncomputable def st_u40q : TT_u40q → DT (Rd TT_u40q) := (fun v => st_u40q_0 v.1 v.2)
noncomputable def l_u40q (v : TT_u40q) : Option (Nat × TT_u40q) := lock (iterO (fun v => (st_u40q v).ev) v)
theorem l_u40q_eq (v : TT_u40q) : l_u40q v = iterO (fun v => (st_u40q v).ev) v := lock_eq _
noncomputable def ll_u40q : LEnt := LE (τ := TT_u40q) (hD hs_u40q) (l_u40q) x_u40q
theorem t_u40q : Go.Eng.Told IP (loopAt F164 0).1 (loopAt F164 0).2 (ll_u40q) := loop_LE (inferInstance : Inhabited TT_u40q) (hs := hs_u40q) (st := st_u40q) (L := []) T35_ok (LOk_of (l := []) (by kernel_rfl) trivial) (l_u40q_eq) (fun v => by kernel_rfl) (fun v => by kernel_rfl)
abbrev B_u64q : Type := List UInt8
def p_u64q : PArgs := ⟨[.str, .fn (.func 172) []], []⟩
def r_u64q : List PRes := [⟨false, .str, []⟩]
noncomputable def tr_u64q (x0 : List UInt8) : DT B_u64q :=
 .bi (pj 0 (l_u40q (x0, 0))) (fun y0 =>
  .br (leB y0.snd y0.fst.length && true) (.at (List.take y0.snd.toNat y0.fst)) (.no))
  (.no)
noncomputable def f_u64q (x0 : List UInt8) : Option B_u64q := lock (tr_u64q x0).ev
theorem f_u64q_eq (x0 : List UInt8) : f_u64q x0 = (tr_u64q x0).ev := lock_eq _
theorem c_u64q : FH IP 164 p_u64q r_u64q (fun (v : List UInt8) => (f_u64q v : Option B_u64q)) := fun_FH (F := F164) (L := [(1016400, ll_u40q)]) (t := fun (v : List UInt8) => tr_u64q v) T35_ok (LOk_of (l := [loopAt F164 0]) (by kernel_rfl) ⟨sel_one (by kernel_rfl) t_u40q, trivial⟩) (by kernel_rfl) (fun v => by kernel_rfl) (fun v => f_u64q_eq v)
noncomputable def T36 : Tab := (164, FE p_u64q r_u64q (fun (v : List UInt8) => (f_u64q v : Option B_u64q))) :: T35
theorem T36_ok : TabOk IP T36 := ⟨FE_ok c_u64q, T35_ok⟩
abbrev B_u61q : Type := Bool
def p_u61q : PArgs := ⟨[.str], []⟩
def r_u61q : List PRes := [⟨false, .bool, []⟩]
noncomputable def tr_u61q (x0 : List UInt8) : DT B_u61q :=
 .bi (br (!x0 == []) (br (sm (f_u64q x0)) (some (gv (f_u64q x0) == x0)) none) (some false)) (fun y0 =>
  .bi (br y0 (br ((↑x0.length : Int) == 1) (some true) (br (inB x0.length 0) (some (byteAt x0 0 != 48)) none)) (some false)) (fun y1 =>
   .at (y1))
   (.no))
  (.no)
noncomputable def f_u61q (x0 : List UInt8) : Option B_u61q := lock (tr_u61q x0).ev
theorem f_u61q_eq (x0 : List UInt8) : f_u61q x0 = (tr_u61q x0).ev := lock_eq _
theorem c_u61q : FH IP 185 p_u61q r_u61q (fun (v : List UInt8) => (f_u61q v : Option B_u61q)) := fun_FH (F := F185) (L := []) (t := fun (v : List UInt8) => tr_u61q v) T36_ok (LOk_of (l := []) (by kernel_rfl) trivial) (by kernel_rfl) (fun v => by kernel_rfl) (fun v => f_u61q_eq v)
noncomputable def T37 : Tab := (185, FE p_u61q r_u61q (fun (v : List UInt8) => (f_u61q v : Option B_u61q))) :: T36
theorem T37_ok : TabOk IP T37 := ⟨FE_ok c_u61q, T36_ok⟩
abbrev B_u16q : Type := Bool
def p_u16q : PArgs := ⟨[.str, .str], []⟩
def r_u16q : List PRes := [⟨false, .bool, []⟩]
noncomputable def tr_u16q (x0 : List UInt8) (x1 : List UInt8) : DT B_u16q :=
 .bi (br (decide ((↑x0.length : Int) ≥ (↑x1.length : Int)))
     (br (leB (IntKind.i64.wrap ((↑x0.length : Int) - (↑x1.length : Int))) x0.length) (some (List.drop (IntKind.i64.wrap ((↑x0.length : Int) - (↑x1.length : Int))).toNat x0 == x1))
       none)
     (some false)) (fun y0 =>
  .at (y0))
  (.no)
noncomputable def f_u16q (x0 : List UInt8) (x1 : List UInt8) : Option B_u16q := lock (tr_u16q x0 x1).ev
theorem f_u16q_eq (x0 : List UInt8) (x1 : List UInt8) : f_u16q x0 x1 = (tr_u16q x0 x1).ev := lock_eq _
theorem c_u16q : FH IP 221 p_u16q r_u16q (fun (v : List UInt8 × List UInt8) => (f_u16q v.1 v.2 : Option B_u16q)) := fun_FH (F := F221) (L := []) (t := fun (v : List UInt8 × List UInt8) => tr_u16q v.1 v.2) T37_ok (LOk_of (l := []) (by kernel_rfl) trivial) (by kernel_rfl) (fun v => by kernel_rfl) (fun v => f_u16q_eq v.1 v.2)
noncomputable def T38 : Tab := (221, FE p_u16q r_u16q (fun (v : List UInt8 × List UInt8) => (f_u16q v.1 v.2 : Option B_u16q))) :: T37
theorem T38_ok : TabOk IP T38 := ⟨FE_ok c_u16q, T37_ok⟩
abbrev B_u14q : Type := List UInt8 × Bool
def p_u14q : PArgs := ⟨[.str, .str], []⟩
def r_u14q : List PRes := [⟨false, .tup [.str, .bool], []⟩]
noncomputable def tr_u14q (x0 : List UInt8) (x1 : List UInt8) : DT B_u14q :=
 .bi (f_u16q x0 x1) (fun y0 =>
  .br (!y0)
   (.at ((x0, false)))
   (.br (leB (IntKind.i64.wrap ((↑x0.length : Int) - (↑x1.length : Int))) x0.length && true)
    (.at ((List.take (IntKind.i64.wrap ((↑x0.length : Int) - (↑x1.length : Int))).toNat x0, true)))
    (.no)))
  (.no)
noncomputable def f_u14q (x0 : List UInt8) (x1 : List UInt8) : Option B_u14q := lock (tr_u14q x0 x1).ev
theorem f_u14q_eq (x0 : List UInt8) (x1 : List UInt8) : f_u14q x0 x1 = (tr_u14q x0 x1).ev := lock_eq _
theorem c_u14q : FH IP 211 p_u14q r_u14q (fun (v : List UInt8 × List UInt8) => (f_u14q v.1 v.2 : Option B_u14q)) := fun_FH (F := F211) (L := []) (t := fun (v : List UInt8 × List UInt8) => tr_u14q v.1 v.2) T38_ok (LOk_of (l := []) (by kernel_rfl) trivial) (by kernel_rfl) (fun v => by kernel_rfl) (fun v => f_u14q_eq v.1 v.2)
noncomputable def T39 : Tab := (211, FE p_u14q r_u14q (fun (v : List UInt8 × List UInt8) => (f_u14q v.1 v.2 : Option B_u14q))) :: T38
theorem T39_ok : TabOk IP T39 := ⟨FE_ok c_u14q, T38_ok⟩
abbrev B_u26q : Type := List UInt8 × Bool
def p_u26q : PArgs := ⟨[.str, .str], []⟩
def r_u26q : List PRes := [⟨false, .tup [.str, .bool], []⟩]
noncomputable def tr_u26q (x0 : List UInt8) (x1 : List UInt8) : DT B_u26q :=
 .bi (f_u14q x0 x1) (fun y0 =>
  .at ((y0.fst, y0.snd)))
  (.no)
noncomputable def f_u26q (x0 : List UInt8) (x1 : List UInt8) : Option B_u26q := lock (tr_u26q x0 x1).ev
theorem f_u26q_eq (x0 : List UInt8) (x1 : List UInt8) : f_u26q x0 x1 = (tr_u26q x0 x1).ev := lock_eq _
theorem c_u26q : FH IP 198 p_u26q r_u26q (fun (v : List UInt8 × List UInt8) => (f_u26q v.1 v.2 : Option B_u26q)) := fun_FH (F := F198) (L := []) (t := fun (v : List UInt8 × List UInt8) => tr_u26q v.1 v.2) T39_ok (LOk_of (l := []) (by kernel_rfl) trivial) (by kernel_rfl) (fun v => by kernel_rfl) (fun v => f_u26q_eq v.1 v.2)
noncomputable def T40 : Tab := (198, FE p_u26q r_u26q (fun (v : List UInt8 × List UInt8) => (f_u26q v.1 v.2 : Option B_u26q))) :: T39
theorem T40_ok : TabOk IP T40 := ⟨FE_ok c_u26q, T39_ok⟩
abbrev B_u19q : Type := Int
def p_u19q : PArgs := ⟨[.str, .str], []⟩
def r_u19q : List PRes := [⟨false, .int .i64, []⟩]
noncomputable def tr_u19q (x0 : List UInt8) (x1 : List UInt8) : DT B_u19q :=
 .bi (br ((↑x1.length : Int) == 0) (some true) (some (x1 == x0))) (fun y0 =>
  .br (y0)
   (.at (0))
   (.br ((↑x1.length : Int) == 1)
    (.br (inB x1.length 0) (.at (Lib.indexByte x0 (byteAt x1 0).toNat.toUInt8)) (.no))
    (.br (decide ((↑x1.length : Int) ≥ (↑x0.length : Int))) (.at (-1)) (.no))))
  (.no)
noncomputable def f_u19q (x0 : List UInt8) (x1 : List UInt8) : Option B_u19q := lock (tr_u19q x0 x1).ev
theorem f_u19q_eq (x0 : List UInt8) (x1 : List UInt8) : f_u19q x0 x1 = (tr_u19q x0 x1).ev := lock_eq _
theorem c_u19q : FH IP 182 p_u19q r_u19q (fun (v : List UInt8 × List UInt8) => (f_u19q v.1 v.2 : Option B_u19q)) := fun_FH (F := F182) (L := []) (t := fun (v : List UInt8 × List UInt8) => tr_u19q v.1 v.2) T40_ok (LOk_of (l := [loopAt F182 0]) (by kernel_rfl) ⟨sel_no (by kernel_rfl), trivial⟩) (by kernel_rfl) (fun v => by kernel_rfl) (fun v => f_u19q_eq v.1 v.2)
noncomputable def T41 : Tab := (182, FE p_u19q r_u19q (fun (v : List UInt8 × List UInt8) => (f_u19q v.1 v.2 : Option B_u19q))) :: T40
theorem T41_ok : TabOk IP T41 := ⟨FE_ok c_u19q, T40_ok⟩
abbrev B_u22q : Type := List UInt8 × List UInt8 × Bool
def p_u22q : PArgs := ⟨[.str, .str], []⟩
def r_u22q : List PRes := [⟨false, .tup [.str, .str, .bool], []⟩]
noncomputable def tr_u22q (x0 : List UInt8) (x1 : List UInt8) : DT B_u22q :=
 .bi (f_u19q x0 x1) (fun y0 =>
  .br (decide (y0 ≥ 0))
   (.br (leB y0 x0.length && true)
    (.br (leB (IntKind.i64.wrap (y0 + (↑x1.length : Int))) x0.length)
     (.at ((List.take y0.toNat x0, List.drop (IntKind.i64.wrap (y0 + (↑x1.length : Int))).toNat x0, true)))
     (.no))
    (.no))
   (.at ((x0, [], false))))
  (.no)
noncomputable def f_u22q (x0 : List UInt8) (x1 : List UInt8) : Option B_u22q := lock (tr_u22q x0 x1).ev
theorem f_u22q_eq (x0 : List UInt8) (x1 : List UInt8) : f_u22q x0 x1 = (tr_u22q x0 x1).ev := lock_eq _
theorem c_u22q : FH IP 212 p_u22q r_u22q (fun (v : List UInt8 × List UInt8) => (f_u22q v.1 v.2 : Option B_u22q)) := fun_FH (F := F212) (L := []) (t := fun (v : List UInt8 × List UInt8) => tr_u22q v.1 v.2) T41_ok (LOk_of (l := []) (by kernel_rfl) trivial) (by kernel_rfl) (fun v => by kernel_rfl) (fun v => f_u22q_eq v.1 v.2)
noncomputable def T42 : Tab := (212, FE p_u22q r_u22q (fun (v : List UInt8 × List UInt8) => (f_u22q v.1 v.2 : Option B_u22q))) :: T41
theorem T42_ok : TabOk IP T42 := ⟨FE_ok c_u22q, T41_ok⟩
abbrev B_u91q : Type := List UInt8 × List UInt8 × Bool
def p_u91q : PArgs := ⟨[.str, .str], []⟩
def r_u91q : List PRes := [⟨false, .tup [.str, .str, .bool], []⟩]
noncomputable def tr_u91q (x0 : List UInt8) (x1 : List UInt8) : DT B_u91q :=
 .bi (f_u22q x0 x1) (fun y0 =>
  .at ((y0.fst, y0.snd.fst, y0.snd.snd)))
  (.no)
noncomputable def f_u91q (x0 : List UInt8) (x1 : List UInt8) : Option B_u91q := lock (tr_u91q x0 x1).ev
theorem f_u91q_eq (x0 : List UInt8) (x1 : List UInt8) : f_u91q x0 x1 = (tr_u91q x0 x1).ev := lock_eq _
theorem c_u91q : FH IP 199 p_u91q r_u91q (fun (v : List UInt8 × List UInt8) => (f_u91q v.1 v.2 : Option B_u91q)) := fun_FH (F := F199) (L := []) (t := fun (v : List UInt8 × List UInt8) => tr_u91q v.1 v.2) T42_ok (LOk_of (l := []) (by kernel_rfl) trivial) (by kernel_rfl) (fun v => by kernel_rfl) (fun v => f_u91q_eq v.1 v.2)
noncomputable def T43 : Tab := (199, FE p_u91q r_u91q (fun (v : List UInt8 × List UInt8) => (f_u91q v.1 v.2 : Option B_u91q))) :: T42
theorem T43_ok : TabOk IP T43 := ⟨FE_ok c_u91q, T42_ok⟩
abbrev TT_u79q : Type := List UInt8 × List UInt8
def hs_u79q : List PSt := [⟨[(1018700, .junk), (6, .str), (7, .str)], [], 0, 0⟩]
noncomputable def x_u79q_0 (x0 : List UInt8) (x1 : List UInt8) : X × St := (X.exit 0, { tm := [(6, AV.str x0), (7, AV.str x1)], hp := [], nx := 0, k := 0 })
noncomputable def x_u79q : List (TT_u79q → X × St) := [fun w => x_u79q_0 w.1 w.2]
noncomputable def st_u79q_0 (x0 : List UInt8) (x1 : List UInt8) : DT (Rd TT_u79q) :=
 .br (decide ((↑x1.length : Int) < 4))
  (.br (decide (x1.length + 1 ≤ 4611686018427387904)) (.at (.next ((x0, x1 ++ [48])))) (.no))
  (.at (.done 0))
noncomputable def st_u79q : TT_u79q → DT (Rd TT_u79q) := (fun v => st_u79q_0 v.1 v.2)
noncomputable def l_u79q (v : TT_u79q) : Option (Nat × TT_u79q) := lock (iterO (fun v => (st_u79q v).ev) v)
theorem l_u79q_eq (v : TT_u79q) : l_u79q v = iterO (fun v => (st_u79q v).ev) v := lock_eq _
noncomputable def ll_u79q : LEnt := LE (τ := TT_u79q) (hD hs_u79q) (l_u79q) x_u79q
theorem t_u79q : Go.Eng.Told IP (loopAt F187 0).1 (loopAt F187 0).2 (ll_u79q) := loop_LE (inferInstance : Inhabited TT_u79q) (hs := hs_u79q) (st := st_u79q) (L := []) T43_ok (LOk_of (l := []) (by kernel_rfl) trivial) (l_u79q_eq) (fun v => by kernel_rfl) (fun v => by kernel_rfl)
abbrev B_u103q : Type := Int × Int
def p_u103q : PArgs := ⟨[.str], []⟩
def r_u103q : List PRes := [⟨false, .tup [.int .i64, .int .i64], []⟩]
noncomputable def tr_u103q (x0 : List UInt8) : DT B_u103q :=
 .bi (f_u26q x0 [37]) (fun y0 =>
  .bi (f_u91q y0.fst [46]) (fun y1 =>
   .bi (br (!y0.snd) (some true) (br (sm (f_u61q y1.fst)) (some !gv (f_u61q y1.fst)) none)) (fun y2 =>
    .bi (br y2 (some true)
        (br y1.snd.snd
          (br (y1.snd.fst == []) (some true)
            (br (decide ((↑y1.snd.fst.length : Int) > 4)) (some true)
              (br (sm (f_u64q y1.snd.fst))
                (br (!gv (f_u64q y1.snd.fst) == y1.snd.fst) (some true)
                  (br (inB y1.snd.fst.length (IntKind.i64.wrap ((↑y1.snd.fst.length : Int) - 1))) (some (byteAt y1.snd.fst (IntKind.i64.wrap ((↑y1.snd.fst.length : Int) - 1)) == 48))
                    none))
                none)))
          (some false))) (fun y3 =>
     .br (y3)
      (.at ((0, 2)))
      (.br (decide ((↑y1.fst.length : Int) > 3))
       (.at ((0, 1)))
       (.bi (pj 0 (l_u79q (y1.fst, y1.snd.fst))) (fun y4 =>
        .br (decide (y4.fst.length + y4.snd.length ≤ 4611686018427387904))
         (.br (pOk (y4.fst ++ y4.snd) && nOk (Lib.atoiAll (y4.fst ++ y4.snd)))
          (.br (decide (nVal (Lib.atoiAll (y4.fst ++ y4.snd)) > 1000000)) (.at ((0, 1))) (.at ((nVal (Lib.atoiAll (y4.fst ++ y4.snd)), 0))))
          (.br (pOk (y4.fst ++ y4.snd) && nRange (Lib.atoiAll (y4.fst ++ y4.snd)))
           (.br (decide (Lib.atoiSat (y4.fst ++ y4.snd) > 1000000)) (.at ((0, 1))) (.at ((Lib.atoiSat (y4.fst ++ y4.snd), 0))))
           (.br (pOk (y4.fst ++ y4.snd) && nSyntax (Lib.atoiAll (y4.fst ++ y4.snd))) (.at ((0, 0))) (.no))))
         (.no))
        (.no))))
     (.no))
    (.no))
   (.no))
  (.no)
noncomputable def f_u103q (x0 : List UInt8) : Option B_u103q := lock (tr_u103q x0).ev
theorem f_u103q_eq (x0 : List UInt8) : f_u103q x0 = (tr_u103q x0).ev := lock_eq _
theorem c_u103q : FH IP 187 p_u103q r_u103q (fun (v : List UInt8) => (f_u103q v : Option B_u103q)) := fun_FH (F := F187) (L := [(1018700, ll_u79q)]) (t := fun (v : List UInt8) => tr_u103q v) T43_ok (LOk_of (l := [loopAt F187 0]) (by kernel_rfl) ⟨sel_one (by kernel_rfl) t_u79q, trivial⟩) (by kernel_rfl) (fun v => by kernel_rfl) (fun v => f_u103q_eq v)
noncomputable def T44 : Tab := (187, FE p_u103q r_u103q (fun (v : List UInt8) => (f_u103q v : Option B_u103q))) :: T43
theorem T44_ok : TabOk IP T44 := ⟨FE_ok c_u103q, T43_ok⟩
abbrev B_u84q : Type := Int × Int × List UInt8 × Int
def p_u84q : PArgs := ⟨[.str], []⟩
def r_u84q : List PRes := [⟨false, .tup [.agg [.int .i64, .int .i64, .str], .int .i64], []⟩]
noncomputable def tr_u84q (x0 : List UInt8) : DT B_u84q :=
 .bi (f_u61q x0) (fun y0 =>
  .br (y0)
   (.br (pOk x0 && nOk (Lib.parseIntB 64 x0))
    (.at ((2, 0, x0, 0)))
    (.br (pOk x0 && nRange (Lib.parseIntB 64 x0))
     (.at ((0, 0, [], 6)))
     (.br (pOk x0 && nSyntax (Lib.parseIntB 64 x0)) (.at ((0, 0, [], 6))) (.no))))
   (.bi (f_u103q x0) (fun y1 =>
    .br (y1.snd == 0)
     (.at ((3, 0, x0, 0)))
     (.br (y1.snd == 1) (.at ((0, 0, [], 6))) (.at ((0, 0, [], 2)))))
    (.no)))
  (.no)
noncomputable def f_u84q (x0 : List UInt8) : Option B_u84q := lock (tr_u84q x0).ev
theorem f_u84q_eq (x0 : List UInt8) : f_u84q x0 = (tr_u84q x0).ev := lock_eq _
theorem c_u84q : FH IP 173 p_u84q r_u84q (fun (v : List UInt8) => (f_u84q v : Option B_u84q)) := fun_FH (F := F173) (L := []) (t := fun (v : List UInt8) => tr_u84q v) T44_ok (LOk_of (l := []) (by kernel_rfl) trivial) (by kernel_rfl) (fun v => by kernel_rfl) (fun v => f_u84q_eq v)
noncomputable def T45 : Tab := (173, FE p_u84q r_u84q (fun (v : List UInt8) => (f_u84q v : Option B_u84q))) :: T44
theorem T45_ok : TabOk IP T45 := ⟨FE_ok c_u84q, T44_ok⟩
abbrev B_u93q : Type := List AV
def p_u93q : PArgs := ⟨[], []⟩
def r_u93q : List PRes := [⟨false, .view 1, []⟩]
noncomputable def tr_u93q : DT B_u93q :=
 .at ([AV.str ([] ++ [61] ++ [61]), AV.str ([] ++ [33] ++ [61]), AV.str ([] ++ [60] ++ [61]), AV.str ([] ++ [123]), AV.str ([] ++ [125]), AV.str ([] ++ [40]), AV.str ([] ++ [41]),
  AV.str ([] ++ [44]), AV.str ([] ++ [59]), AV.str ([] ++ [58]), AV.str ([] ++ [36]), AV.str ([] ++ [43]), AV.str ([] ++ [45]), AV.str ([] ++ [42]), AV.str ([] ++ [47]),
  AV.str ([] ++ [60])])
noncomputable def f_u93q : Option B_u93q := lock (tr_u93q).ev
theorem f_u93q_eq : f_u93q = (tr_u93q).ev := lock_eq _
theorem c_u93q : FH IP 175 p_u93q r_u93q (fun (v : Unit) => (f_u93q : Option B_u93q)) := fun_FH (F := F175) (L := []) (t := fun (v : Unit) => tr_u93q) T45_ok (LOk_of (l := []) (by kernel_rfl) trivial) (by kernel_rfl) (fun v => by kernel_rfl) (fun v => f_u93q_eq)
noncomputable def T46 : Tab := (175, FE p_u93q r_u93q (fun (v : Unit) => (f_u93q : Option B_u93q))) :: T45
theorem T46_ok : TabOk IP T46 := ⟨FE_ok c_u93q, T45_ok⟩
abbrev B_u15q : Type := Bool
def p_u15q : PArgs := ⟨[.str, .str], []⟩
def r_u15q : List PRes := [⟨false, .bool, []⟩]
noncomputable def tr_u15q (x0 : List UInt8) (x1 : List UInt8) : DT B_u15q :=
 .bi (br (decide ((↑x0.length : Int) ≥ (↑x1.length : Int))) (br (leB (↑x1.length : Int) x0.length && true) (some (List.take (↑x1.length : Int).toNat x0 == x1)) none) (some false)) (fun y0 =>
  .at (y0))
  (.no)
noncomputable def f_u15q (x0 : List UInt8) (x1 : List UInt8) : Option B_u15q := lock (tr_u15q x0 x1).ev
theorem f_u15q_eq (x0 : List UInt8) (x1 : List UInt8) : f_u15q x0 x1 = (tr_u15q x0 x1).ev := lock_eq _
theorem c_u15q : FH IP 189 p_u15q r_u15q (fun (v : List UInt8 × List UInt8) => (f_u15q v.1 v.2 : Option B_u15q)) := fun_FH (F := F189) (L := []) (t := fun (v : List UInt8 × List UInt8) => tr_u15q v.1 v.2) T46_ok (LOk_of (l := []) (by kernel_rfl) trivial) (by kernel_rfl) (fun v => by kernel_rfl) (fun v => f_u15q_eq v.1 v.2)
noncomputable def T47 : Tab := (189, FE p_u15q r_u15q (fun (v : List UInt8 × List UInt8) => (f_u15q v.1 v.2 : Option B_u15q))) :: T46
theorem T47_ok : TabOk IP T47 := ⟨FE_ok c_u15q, T46_ok⟩
abbrev B_u27q : Type := Bool
def p_u27q : PArgs := ⟨[.str, .str], []⟩
def r_u27q : List PRes := [⟨false, .bool, []⟩]
noncomputable def tr_u27q (x0 : List UInt8) (x1 : List UInt8) : DT B_u27q :=
 .bi (f_u15q x0 x1) (fun y0 =>
  .at (y0))
  (.no)
noncomputable def f_u27q (x0 : List UInt8) (x1 : List UInt8) : Option B_u27q := lock (tr_u27q x0 x1).ev
theorem f_u27q_eq (x0 : List UInt8) (x1 : List UInt8) : f_u27q x0 x1 = (tr_u27q x0 x1).ev := lock_eq _
theorem c_u27q : FH IP 176 p_u27q r_u27q (fun (v : List UInt8 × List UInt8) => (f_u27q v.1 v.2 : Option B_u27q)) := fun_FH (F := F176) (L := []) (t := fun (v : List UInt8 × List UInt8) => tr_u27q v.1 v.2) T47_ok (LOk_of (l := []) (by kernel_rfl) trivial) (by kernel_rfl) (fun v => by kernel_rfl) (fun v => f_u27q_eq v.1 v.2)
noncomputable def T48 : Tab := (176, FE p_u27q r_u27q (fun (v : List UInt8 × List UInt8) => (f_u27q v.1 v.2 : Option B_u27q))) :: T47
theorem T48_ok : TabOk IP T48 := ⟨FE_ok c_u27q, T47_ok⟩
abbrev TT_u83q : Type := List UInt8 × List AV × Int × Int × Int × Int × List UInt8
def hs_u83q : List PSt := [⟨[(1015300, .junk), (0, .str), (2, .ref 0 0 0), (34, .view 1), (35, .int .i64), (36, .int .i64)], [(0, .box [.int .i64, .int .i64, .str] false)], 1, 0⟩]
noncomputable def x_u83q_0 (x0 : List UInt8) (x1 : List AV) (x2 : Int) (x3 : Int) (x4 : Int) (x5 : Int) (x6 : List UInt8) : X × St := (X.ret,
  { tm := [(2, AV.ref 0 0 0), (3, AV.int IntKind.i64 0)], hp := [(0, Blk.box [AV.int IntKind.i64 4, AV.int IntKind.i64 0, AV.str (strOf (cellAt x1 x3 0))] false)], nx := 1,
    k := 0 })
noncomputable def x_u83q_1 (x0 : List UInt8) (x1 : List AV) (x2 : Int) (x3 : Int) (x4 : Int) (x5 : Int) (x6 : List UInt8) : X × St := (X.exit 1, { tm := [(2, AV.ref 0 0 0), (3, AV.junk)], hp := [(0, Blk.box [AV.int IntKind.i64 x4, AV.int IntKind.i64 x5, AV.str x6] false)], nx := 1, k := 0 })
noncomputable def x_u83q : List (TT_u83q → X × St) := [fun w => x_u83q_0 w.1 w.2.1 w.2.2.1 w.2.2.2.1 w.2.2.2.2.1 w.2.2.2.2.2.1 w.2.2.2.2.2.2, fun w => x_u83q_1 w.1 w.2.1 w.2.2.1 w.2.2.2.1 w.2.2.2.2.1 w.2.2.2.2.2.1 w.2.2.2.2.2.2]
noncomputable def st_u83q_0 (x0 : List UInt8) (x1 : List AV) (x2 : Int) (x3 : Int) (x4 : Int) (x5 : Int) (x6 : List UInt8) : DT (Rd TT_u83q) :=
 .br (decide (x3 < x2))
  (.br (okAt [CS.str] x1 x3)
   (.bi (f_u27q x0 (strOf (cellAt x1 x3 0))) (fun y0 =>
    .br (y0) (.at (.done 0)) (.at (.next ((x0, x1, x2, IntKind.i64.wrap (x3 + 1), x4, x5, x6)))))
    (.no))
   (.no))
  (.at (.done 1))
noncomputable def st_u83q : TT_u83q → DT (Rd TT_u83q) := (fun v => st_u83q_0 v.1 v.2.1 v.2.2.1 v.2.2.2.1 v.2.2.2.2.1 v.2.2.2.2.2.1 v.2.2.2.2.2.2)
noncomputable def l_u83q (v : TT_u83q) : Option (Nat × TT_u83q) := lock (iterO (fun v => (st_u83q v).ev) v)
theorem l_u83q_eq (v : TT_u83q) : l_u83q v = iterO (fun v => (st_u83q v).ev) v := lock_eq _
noncomputable def ll_u83q : LEnt := LE (τ := TT_u83q) (hD hs_u83q) (l_u83q) x_u83q
theorem t_u83q : Go.Eng.Told IP (loopAt F153 0).1 (loopAt F153 0).2 (ll_u83q) := loop_LE (inferInstance : Inhabited TT_u83q) (hs := hs_u83q) (st := st_u83q) (L := []) T48_ok (LOk_of (l := []) (by kernel_rfl) trivial) (l_u83q_eq) (fun v => by kernel_rfl) (fun v => by kernel_rfl)
abbrev B_u105q : Type := Int × Int × List UInt8 × Int
def p_u105q : PArgs := ⟨[.str], []⟩
def r_u105q : List PRes := [⟨false, .tup [.agg [.int .i64, .int .i64, .str], .int .i64], []⟩]
noncomputable def tr_u105q (x0 : List UInt8) : DT B_u105q :=
 .br (inB x0.length 0)
  (.bi (f_u82q (IntKind.i32.wrap (byteAt x0 0))) (fun y0 =>
   .br (y0)
    (.bi (f_u62q x0) (fun y1 =>
     .bi (f_u104q y1) (fun y2 =>
      .br (y2)
       (.at ((5, 0, y1, 0)))
       (.br (decide ((↑y1.length : Int) > 16)) (.at ((0, 0, [], 4))) (.at ((1, 0, y1, 0)))))
      (.no))
     (.no))
    (.bi (f_u92q (IntKind.i32.wrap (byteAt x0 0))) (fun y1 =>
     .br (y1)
      (.bi (f_u63q x0) (fun y2 =>
       .bi (f_u84q y2) (fun y3 =>
        .at ((y3.fst, y3.snd.fst, y3.snd.snd.fst, y3.snd.snd.snd)))
        (.no))
       (.no))
      (.bi (f_u93q) (fun y2 =>
       .bi (pj 0 (l_u83q (x0, y2, (↑y2.length : Int), 0, 0, 0, []))) (fun y3 =>
        .at ((4, 0, strOf (cellAt y3.snd.fst y3.snd.snd.snd.fst 0), 0)))
        (.bi (pj 1 (l_u83q (x0, y2, (↑y2.length : Int), 0, 0, 0, []))) (fun y3 =>
         .at ((0, 0, [], 2)))
         (.no)))
       (.no)))
     (.no)))
   (.no))
  (.no)
noncomputable def f_u105q (x0 : List UInt8) : Option B_u105q := lock (tr_u105q x0).ev
theorem f_u105q_eq (x0 : List UInt8) : f_u105q x0 = (tr_u105q x0).ev := lock_eq _
theorem c_u105q : FH IP 153 p_u105q r_u105q (fun (v : List UInt8) => (f_u105q v : Option B_u105q)) := fun_FH (F := F153) (L := [(1015300, ll_u83q)]) (t := fun (v : List UInt8) => tr_u105q v) T48_ok (LOk_of (l := [loopAt F153 0]) (by kernel_rfl) ⟨sel_one (by kernel_rfl) t_u83q, trivial⟩) (by kernel_rfl) (fun v => by kernel_rfl) (fun v => f_u105q_eq v)
noncomputable def T49 : Tab := (153, FE p_u105q r_u105q (fun (v : List UInt8) => (f_u105q v : Option B_u105q))) :: T48
theorem T49_ok : TabOk IP T49 := ⟨FE_ok c_u105q, T48_ok⟩
abbrev TT_u32q : Type := (List UInt8 × Int) ⊕ (List UInt8 × Int × List AV)
def hs_u32q : List PSt := [⟨[(1013400, .junk), (0, .str), (5, .nils 3), (6, .int .i64)], [], 0, 0⟩, ⟨[(1013400, .junk), (0, .str), (5, .own 0 0), (6, .int .i64)], [(0, .arr 3 false)], 1, 0⟩]
noncomputable def x_u32q_0 (x0 : List UInt8) (x1 : Int) : X × St := (X.ret, { tm := [(2, AV.nils { sz := 3, kd := NKd.nil }), (3, AV.int IntKind.i64 0), (4, AV.int IntKind.i64 0)], hp := [], nx := 0, k := 0 })
noncomputable def x_u32q_1 (x0 : List UInt8) (x1 : Int) : X × St := (X.ret,
  {
    tm :=
      [(2, AV.nils { sz := 3, kd := NKd.nil }), (3, AV.int IntKind.i64 (IntKind.i64.wrap (x1 + (↑(Lib.countByte (List.take (gv (f_u80q x0)).toNat x0) 10) : Int)))),
        (4, AV.int IntKind.i64 (gv (f_u105q (List.drop (gv (f_u80q x0)).toNat x0))).snd.snd.snd)],
    hp := [], nx := 0, k := 0 })
noncomputable def x_u32q_2 (x0 : List UInt8) (x1 : Int) (x2 : List AV) : X × St := (X.ret, { tm := [(2, AV.own 0 0 none), (3, AV.int IntKind.i64 0), (4, AV.int IntKind.i64 0)], hp := [(0, Blk.arr 3 x2 false)], nx := 1, k := 0 })
noncomputable def x_u32q_3 (x0 : List UInt8) (x1 : Int) (x2 : List AV) : X × St := (X.ret,
  {
    tm :=
      [(2, AV.nils { sz := 3, kd := NKd.nil }), (3, AV.int IntKind.i64 (IntKind.i64.wrap (x1 + (↑(Lib.countByte (List.take (gv (f_u80q x0)).toNat x0) 10) : Int)))),
        (4, AV.int IntKind.i64 (gv (f_u105q (List.drop (gv (f_u80q x0)).toNat x0))).snd.snd.snd)],
    hp := [], nx := 0, k := 0 })
noncomputable def x_u32q : List (TT_u32q → X × St) := [fun w => x_u32q_0 (sl w).1 (sl w).2, fun w => x_u32q_1 (sl w).1 (sl w).2, fun w => x_u32q_2 (sr w).1 (sr w).2.1 (sr w).2.2, fun w => x_u32q_3 (sr w).1 (sr w).2.1 (sr w).2.2]
noncomputable def st_u32q_0 (x0 : List UInt8) (x1 : Int) : DT (Rd TT_u32q) :=
 .bi (f_u80q x0) (fun y0 =>
  .br (leB y0 x0.length && true)
   (.br (leB y0 x0.length)
    (.br (List.drop y0.toNat x0 == [])
     (.at (.done 0))
     (.bi (f_u105q (List.drop y0.toNat x0)) (fun y1 =>
      .br (y1.snd.snd.snd != 0)
       (.at (.done 1))
       (.br (leB (↑y1.snd.snd.fst.length : Int) (List.drop y0.toNat x0).length)
        (.at (.next ((.inr (List.drop (↑y1.snd.snd.fst.length : Int).toNat (List.drop y0.toNat x0), IntKind.i64.wrap (x1 + (↑(Lib.countByte (List.take y0.toNat x0) 10) : Int)), [AV.agg [AV.int IntKind.i64 y1.fst, AV.int IntKind.i64 (IntKind.i64.wrap (x1 + (↑(Lib.countByte (List.take y0.toNat x0) 10) : Int))), AV.str y1.snd.snd.fst]])))))
        (.no)))
      (.no)))
    (.no))
   (.no))
  (.no)
noncomputable def st_u32q_1 (x0 : List UInt8) (x1 : Int) (x2 : List AV) : DT (Rd TT_u32q) :=
 .bi (f_u80q x0) (fun y0 =>
  .br (leB y0 x0.length && true)
   (.br (leB y0 x0.length)
    (.br (List.drop y0.toNat x0 == [])
     (.at (.done 2))
     (.bi (f_u105q (List.drop y0.toNat x0)) (fun y1 =>
      .br (y1.snd.snd.snd != 0)
       (.at (.done 3))
       (.br (room (x2.length + 1) 32)
        (.br (leB (↑y1.snd.snd.fst.length : Int) (List.drop y0.toNat x0).length)
         (.at (.next ((.inr (List.drop (↑y1.snd.snd.fst.length : Int).toNat (List.drop y0.toNat x0), IntKind.i64.wrap (x1 + (↑(Lib.countByte (List.take y0.toNat x0) 10) : Int)), x2 ++ [AV.agg [AV.int IntKind.i64 y1.fst, AV.int IntKind.i64 (IntKind.i64.wrap (x1 + (↑(Lib.countByte (List.take y0.toNat x0) 10) : Int))), AV.str y1.snd.snd.fst]])))))
         (.no))
        (.no)))
      (.no)))
    (.no))
   (.no))
  (.no)
noncomputable def st_u32q : TT_u32q → DT (Rd TT_u32q) := (Sum.elim (fun v => st_u32q_0 v.1 v.2) (fun v => st_u32q_1 v.1 v.2.1 v.2.2))
noncomputable def l_u32q (v : TT_u32q) : Option (Nat × TT_u32q) := lock (iterO (fun v => (st_u32q v).ev) v)
theorem l_u32q_eq (v : TT_u32q) : l_u32q v = iterO (fun v => (st_u32q v).ev) v := lock_eq _
noncomputable def ll_u32q : LEnt := LE (τ := TT_u32q) (hD hs_u32q) (l_u32q) x_u32q
theorem t_u32q : Go.Eng.Told IP (loopAt F134 0).1 (loopAt F134 0).2 (ll_u32q) := loop_LE (inferInstance : Inhabited TT_u32q) (hs := hs_u32q) (st := st_u32q) (L := []) T49_ok (LOk_of (l := []) (by kernel_rfl) trivial) (l_u32q_eq) (fun v => match v with | (.inl v) => by kernel_rfl | (.inr v) => by kernel_rfl) (fun v => match v with | (.inl v) => by kernel_rfl | (.inr v) => by kernel_rfl)
abbrev B_u50q : Type := List AV × Int × Int
def p_u50q : PArgs := ⟨[.str], []⟩
def r_u50q : List PRes := [⟨false, .tup [.view 3, .int .i64, .int .i64], []⟩]
noncomputable def tr_u50q (x0 : List UInt8) : DT B_u50q :=
 .br (decide ((↑x0.length : Int) > 2048))
  (.at (([], 0, 5)))
  (.bi (pj 0 (l_u32q (Sum.inl (x0, 1)))) (fun y0 =>
   .at (([], 0, 0)))
   (.bi (pj 1 (l_u32q (Sum.inl (x0, 1)))) (fun y0 =>
    .at (([], IntKind.i64.wrap ((sl y0).snd + (↑(Lib.countByte (List.take (gv (f_u80q (sl y0).fst)).toNat (sl y0).fst) 10) : Int)), (gv (f_u105q (List.drop (gv (f_u80q (sl y0).fst)).toNat (sl y0).fst))).snd.snd.snd)))
    (.bi (pj 2 (l_u32q (Sum.inl (x0, 1)))) (fun y0 =>
     .at (((sr y0).snd.snd, 0, 0)))
     (.bi (pj 3 (l_u32q (Sum.inl (x0, 1)))) (fun y0 =>
      .at (([], IntKind.i64.wrap ((sr y0).snd.fst + (↑(Lib.countByte (List.take (gv (f_u80q (sr y0).fst)).toNat (sr y0).fst) 10) : Int)), (gv (f_u105q (List.drop (gv (f_u80q (sr y0).fst)).toNat (sr y0).fst))).snd.snd.snd)))
      (.no)))))
noncomputable def f_u50q (x0 : List UInt8) : Option B_u50q := lock (tr_u50q x0).ev
theorem f_u50q_eq (x0 : List UInt8) : f_u50q x0 = (tr_u50q x0).ev := lock_eq _
theorem c_u50q : FH IP 134 p_u50q r_u50q (fun (v : List UInt8) => (f_u50q v : Option B_u50q)) := fun_FH (F := F134) (L := [(1013400, ll_u32q)]) (t := fun (v : List UInt8) => tr_u50q v) T49_ok (LOk_of (l := [loopAt F134 0]) (by kernel_rfl) ⟨sel_one (by kernel_rfl) t_u32q, trivial⟩) (by kernel_rfl) (fun v => by kernel_rfl) (fun v => f_u50q_eq v)
noncomputable def T50 : Tab := (134, FE p_u50q r_u50q (fun (v : List UInt8) => (f_u50q v : Option B_u50q))) :: T49
theorem T50_ok : TabOk IP T50 := ⟨FE_ok c_u50q, T49_ok⟩
abbrev B_u59q : Type := Bool
def p_u59q : PArgs := ⟨[.str], []⟩
def r_u59q : List PRes := [⟨false, .bool, []⟩]
noncomputable def tr_u59q (x0 : List UInt8) : DT B_u59q :=
 .bi (f_u50q x0) (fun y0 =>
  .bi (br (y0.snd.snd == 0) (some ((↑y0.fst.length : Int) == 1)) (some false)) (fun y1 =>
   .bi (br y1 (br (okAt [CS.int IntKind.i64, CS.int IntKind.i64, CS.str] y0.fst 0) (some (intOf (cellAt y0.fst 0 0) == 1)) none) (some false)) (fun y2 =>
    .bi (br y2 (br (okAt [CS.int IntKind.i64, CS.int IntKind.i64, CS.str] y0.fst 0) (some (strOf (cellAt y0.fst 0 2) == x0)) none) (some false)) (fun y3 =>
     .at (y3))
     (.no))
    (.no))
   (.no))
  (.no)
noncomputable def f_u59q (x0 : List UInt8) : Option B_u59q := lock (tr_u59q x0).ev
theorem f_u59q_eq (x0 : List UInt8) : f_u59q x0 = (tr_u59q x0).ev := lock_eq _
theorem c_u59q : FH IP 111 p_u59q r_u59q (fun (v : List UInt8) => (f_u59q v : Option B_u59q)) := fun_FH (F := F111) (L := []) (t := fun (v : List UInt8) => tr_u59q v) T50_ok (LOk_of (l := []) (by kernel_rfl) trivial) (by kernel_rfl) (fun v => by kernel_rfl) (fun v => f_u59q_eq v)
noncomputable def T51 : Tab := (111, FE p_u59q r_u59q (fun (v : List UInt8) => (f_u59q v : Option B_u59q))) :: T50
theorem T51_ok : TabOk IP T51 := ⟨FE_ok c_u59q, T50_ok⟩
abbrev B_u100q : Type := Bool
def p_u100q : PArgs := ⟨[.agg [.int .i64, .int .i64, .str, .view 4]], []⟩
def r_u100q : List PRes := [⟨false, .bool, []⟩]
noncomputable def tr_u100q (x0 : Int) (x1 : Int) (x2 : List UInt8) (x3 : List AV) : DT B_u100q :=
 .bi (br (x0 != 4) (some true) (br (sm (f_u59q x2)) (some (gv (f_u59q x2))) none)) (fun y0 =>
  .at (y0))
  (.no)
noncomputable def f_u100q (x0 : Int) (x1 : Int) (x2 : List UInt8) (x3 : List AV) : Option B_u100q := lock (tr_u100q x0 x1 x2 x3).ev
theorem f_u100q_eq (x0 : Int) (x1 : Int) (x2 : List UInt8) (x3 : List AV) : f_u100q x0 x1 x2 x3 = (tr_u100q x0 x1 x2 x3).ev := lock_eq _
theorem c_u100q : FH IP 88 p_u100q r_u100q (fun (v : Int × Int × List UInt8 × List AV) => (f_u100q v.1 v.2.1 v.2.2.1 v.2.2.2 : Option B_u100q)) := fun_FH (F := F88) (L := []) (t := fun (v : Int × Int × List UInt8 × List AV) => tr_u100q v.1 v.2.1 v.2.2.1 v.2.2.2) T51_ok (LOk_of (l := []) (by kernel_rfl) trivial) (by kernel_rfl) (fun v => by kernel_rfl) (fun v => f_u100q_eq v.1 v.2.1 v.2.2.1 v.2.2.2)
noncomputable def T52 : Tab := (88, FE p_u100q r_u100q (fun (v : Int × Int × List UInt8 × List AV) => (f_u100q v.1 v.2.1 v.2.2.1 v.2.2.2 : Option B_u100q))) :: T51
theorem T52_ok : TabOk IP T52 := ⟨FE_ok c_u100q, T51_ok⟩
abbrev B_u88q : Type := Bool
def p_u88q : PArgs := ⟨[.agg [.int .i64, .int .i64, .str, .view 4], .fn (.func 88) []], []⟩
def r_u88q : List PRes := [⟨false, .bool, []⟩]
abbrev GT_u88q : Type := Int → Int → (List UInt8) → (List AV) → Option B_u88q
abbrev B_u8q : Type := Bool
def p_u8q : PArgs := ⟨[.view 4, .fn (.func 109) [.ptr [.fn (.func 88) []]]], []⟩
def r_u8q : List PRes := [⟨false, .bool, []⟩]
abbrev GT_u8q : Type := (List AV) → Option B_u8q
abbrev B_u12q : Type := Int
def p_u12q : PArgs := ⟨[.view 4, .fn (.func 109) [.ptr [.fn (.func 88) []]]], []⟩
def r_u12q : List PRes := [⟨false, .int .i64, []⟩]
abbrev GT_u12q : Type := (List AV) → Option B_u12q
abbrev B_u57q : Type := Bool
def p_u57q : PArgs := ⟨[.agg [.int .i64, .int .i64, .str, .view 4], .ptr [.fn (.func 88) []]], []⟩
def r_u57q : List PRes := [⟨false, .bool, []⟩]
abbrev GT_u57q : Type := Int → Int → (List UInt8) → (List AV) → Option B_u57q
def GH_u88q (G_u88q : GT_u88q) (G_u8q : GT_u8q) (G_u12q : GT_u12q) (G_u57q : GT_u57q) : Prop := FH IP 86 p_u88q r_u88q (fun (v : Int × Int × List UInt8 × List AV) => (G_u88q v.1 v.2.1 v.2.2.1 v.2.2.2 : Option B_u88q)) ∧ FH IP 108 p_u8q r_u8q (fun (v : List AV) => (G_u8q v : Option B_u8q)) ∧ FH IP 133 p_u12q r_u12q (fun (v : List AV) => (G_u12q v : Option B_u12q)) ∧ FH IP 109 p_u57q r_u57q (fun (v : Int × Int × List UInt8 × List AV) => (G_u57q v.1 v.2.1 v.2.2.1 v.2.2.2 : Option B_u57q))
noncomputable def TG_u88q (G_u88q : GT_u88q) (G_u8q : GT_u8q) (G_u12q : GT_u12q) (G_u57q : GT_u57q) : Tab := (86, FE p_u88q r_u88q (fun (v : Int × Int × List UInt8 × List AV) => (G_u88q v.1 v.2.1 v.2.2.1 v.2.2.2 : Option B_u88q))) :: (108, FE p_u8q r_u8q (fun (v : List AV) => (G_u8q v : Option B_u8q))) :: (133, FE p_u12q r_u12q (fun (v : List AV) => (G_u12q v : Option B_u12q))) :: (109, FE p_u57q r_u57q (fun (v : Int × Int × List UInt8 × List AV) => (G_u57q v.1 v.2.1 v.2.2.1 v.2.2.2 : Option B_u57q))) :: T52
theorem TG_u88q_ok (G_u88q : GT_u88q) (G_u8q : GT_u8q) (G_u12q : GT_u12q) (G_u57q : GT_u57q) (hG : GH_u88q G_u88q G_u8q G_u12q G_u57q) : TabOk IP (TG_u88q G_u88q G_u8q G_u12q G_u57q) := ⟨FE_ok (hG.1), FE_ok (hG.2.1), FE_ok (hG.2.2.1), FE_ok (hG.2.2.2), T52_ok⟩
abbrev TT_u10q : Type := List AV × Int × Int
def hs_u10q : List PSt := [⟨[(1013300, .junk), (0, .view 4), (1, .fn (.func 109) [.ptr [.fn (.func 88) []]]), (7, .int .i64), (8, .int .i64)], [], 0, 0⟩]
noncomputable def x_u10q_0 (x0 : List AV) (x1 : Int) (x2 : Int) : X × St := (X.ret, { tm := [(4, AV.int IntKind.i64 x2)], hp := [], nx := 0, k := 0 })
noncomputable def x_u10q_1 (x0 : List AV) (x1 : Int) (x2 : Int) : X × St := (X.exit 0, { tm := [(4, AV.junk)], hp := [], nx := 0, k := 0 })
noncomputable def x_u10q : List (TT_u10q → X × St) := [fun w => x_u10q_0 w.1 w.2.1 w.2.2, fun w => x_u10q_1 w.1 w.2.1 w.2.2]
noncomputable def st_u10q_0 (G_u88q : GT_u88q) (G_u8q : GT_u8q) (G_u12q : GT_u12q) (G_u57q : GT_u57q) (x0 : List AV) (x1 : Int) (x2 : Int) : DT (Rd TT_u10q) :=
 .br (decide (x2 < x1))
  (.br (okAt [CS.int IntKind.i64, CS.int IntKind.i64, CS.str, CS.slice 4] x0 x2)
   (.bi (G_u57q (intOf (cellAt x0 x2 0)) (intOf (cellAt x0 x2 1)) (strOf (cellAt x0 x2 2)) (viewOf (cellAt x0 x2 3))) (fun y0 =>
    .br (y0) (.at (.done 0)) (.at (.next ((x0, x1, IntKind.i64.wrap (x2 + 1))))))
    (.no))
   (.no))
  (.at (.done 1))
noncomputable def st_u10q (G_u88q : GT_u88q) (G_u8q : GT_u8q) (G_u12q : GT_u12q) (G_u57q : GT_u57q) : TT_u10q → DT (Rd TT_u10q) := (fun v => st_u10q_0 G_u88q G_u8q G_u12q G_u57q v.1 v.2.1 v.2.2)
noncomputable def l_u10q (G_u88q : GT_u88q) (G_u8q : GT_u8q) (G_u12q : GT_u12q) (G_u57q : GT_u57q) (v : TT_u10q) : Option (Nat × TT_u10q) := lock (iterO (fun v => (st_u10q G_u88q G_u8q G_u12q G_u57q v).ev) v)
theorem l_u10q_eq (G_u88q : GT_u88q) (G_u8q : GT_u8q) (G_u12q : GT_u12q) (G_u57q : GT_u57q) (v : TT_u10q) : l_u10q G_u88q G_u8q G_u12q G_u57q v = iterO (fun v => (st_u10q G_u88q G_u8q G_u12q G_u57q v).ev) v := lock_eq _
noncomputable def ll_u10q (G_u88q : GT_u88q) (G_u8q : GT_u8q) (G_u12q : GT_u12q) (G_u57q : GT_u57q) : LEnt := LE (τ := TT_u10q) (hD hs_u10q) (l_u10q G_u88q G_u8q G_u12q G_u57q) x_u10q
theorem t_u10q (G_u88q : GT_u88q) (G_u8q : GT_u8q) (G_u12q : GT_u12q) (G_u57q : GT_u57q) (hG : GH_u88q G_u88q G_u8q G_u12q G_u57q) : Go.Eng.Told IP (loopAt F133 0).1 (loopAt F133 0).2 (ll_u10q G_u88q G_u8q G_u12q G_u57q) := loop_LE (inferInstance : Inhabited TT_u10q) (hs := hs_u10q) (st := st_u10q G_u88q G_u8q G_u12q G_u57q) (L := []) (TG_u88q_ok G_u88q G_u8q G_u12q G_u57q hG) (LOk_of (l := []) (by kernel_rfl) trivial) (l_u10q_eq G_u88q G_u8q G_u12q G_u57q) (fun v => by kernel_rfl) (fun v => by kernel_rfl)
noncomputable def tr_u88q (G_u88q : GT_u88q) (G_u8q : GT_u8q) (G_u12q : GT_u12q) (G_u57q : GT_u57q) (x0 : Int) (x1 : Int) (x2 : List UInt8) (x3 : List AV) : DT B_u88q :=
 .bi (f_u100q x0 x1 x2 x3) (fun y0 =>
  .bi (br y0 (br (sm (G_u8q x3)) (some !gv (G_u8q x3)) none) (some false)) (fun y1 =>
   .at (y1))
   (.no))
  (.no)
noncomputable def tr_u8q (G_u88q : GT_u88q) (G_u8q : GT_u8q) (G_u12q : GT_u12q) (G_u57q : GT_u57q) (x0 : List AV) : DT B_u8q :=
 .bi (G_u12q x0) (fun y0 =>
  .at (decide (y0 ≥ 0)))
  (.no)
noncomputable def tr_u12q (G_u88q : GT_u88q) (G_u8q : GT_u8q) (G_u12q : GT_u12q) (G_u57q : GT_u57q) (x0 : List AV) : DT B_u12q :=
 .bi (pj 0
     (l_u10q G_u88q G_u8q G_u12q G_u57q
       (x0, (↑x0.length : Int), 0))) (fun y0 =>
  .at (y0.snd.snd))
  (.bi (pj 1
      (l_u10q G_u88q G_u8q G_u12q G_u57q
        (x0, (↑x0.length : Int), 0))) (fun y0 =>
   .at (-1))
   (.no))
noncomputable def tr_u57q (G_u88q : GT_u88q) (G_u8q : GT_u8q) (G_u12q : GT_u12q) (G_u57q : GT_u57q) (x0 : Int) (x1 : Int) (x2 : List UInt8) (x3 : List AV) : DT B_u57q :=
 .bi (G_u88q x0 x1 x2 x3) (fun y0 =>
  .at (!y0))
  (.no)
end Go.Proofs.H15v

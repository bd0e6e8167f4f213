/-
  NARROWER THAN 'FOR EVERY INPUT', by the rows' own cells (each row's printed sentence says how): StandinEntries: loops.
  DERIVED. THE GIVEN ROWS OF THIS SEAT. 4 by the template 'for every input the law returns true; each argument reads behind the call as it read before'; 0 by the template 'total and deterministic' (their statements: YtpoebijgpbaccaaTotals.lean).
  GIVEN WITH THE SEED: the statements are not yours to turn. If you find one false, say at which input.
  Laid BY PROGRAM, IN A SANDBOX (cutbox-rows.mjs): the forced cells as the released guide's own fill.sh prints them over the translation e69dc8d4795e9454… (all of the seat's roots in one cut). By AI agents, Wed Nov 11 2026. No macro, syntax, notation, axiom, sorry.
-/
import Derived.Test.YtpoebijgpbaccaaChecked
import GoSem.Claim
import GoSem.ClaimJoined
import GoSem.ClaimMapViews
import Derived.JoinedTies
import Derived.KernelRfl
namespace Go.Proofs.Ytpoebijgpbaccaa
/- THE CELL 'sum', in the pinned program and in every row, IS THE sha256 OF THE DUMP (.gsa) THAT YtpoebijgpbaccaaProg.lean LOADS. Nothing in Lean hashes anything: it is a label: what it is worth is what the hold of that sum in a sandbox is worth. -/
noncomputable def Try.pinned : Pinned := { name := "ytpoebijgpbaccaa", sum := "e69dc8d4795e9454f57482ad4a2929b12ae783e683af2ceab28f00d92a9a9efa", checked := Try.checked }
namespace Rows
def none {H : Type} : Left H := { results := [], args := [] }

/-- 'corebanklaw53.StandinChecks': WHATEVER THE INPUT: true; the input reads as it did. -/
def standinChecksSpec : ChangeSpec := { name := "standinChecks", fn := fun _ => fun
  | [d1, d2] => { results := [.lit (.bool true)], args := [d1, d2] }
  | _ => none }
def standinChecksRow : OpenClaim := { program := "ytpoebijgpbaccaa", sum := "e69dc8d4795e9454f57482ad4a2929b12ae783e683af2ceab28f00d92a9a9efa", func := "corebank/corebanklaw53.StandinChecks", spec := "standinChecks", unfollowed := true, recurses := true, apart := false }
def StandinChecksSaid : Prop := standinChecksRow.holds Try.pinned (OpenSpec.ofChange standinChecksSpec)

/-- ITS FALSE NEIGHBOUR: 'it returns false'. Refute it at one input. -/
def standinChecksWrong : ChangeSpec := { name := "standinChecks", fn := fun _ => fun
  | [d1, d2] => { results := [.lit (.bool false)], args := [d1, d2] }
  | _ => none }
def StandinChecksWrongFalsely : Prop := standinChecksRow.holds Try.pinned (OpenSpec.ofChange standinChecksWrong)

/-- 'corebanklaw53.StandinDecides': WHATEVER THE INPUT: true; the input reads as it did. -/
def standinDecidesSpec : ChangeSpec := { name := "standinDecides", fn := fun _ => fun
  | [d1, d2] => { results := [.lit (.bool true)], args := [d1, d2] }
  | _ => none }
def standinDecidesRow : OpenClaim := { program := "ytpoebijgpbaccaa", sum := "e69dc8d4795e9454f57482ad4a2929b12ae783e683af2ceab28f00d92a9a9efa", func := "corebank/corebanklaw53.StandinDecides", spec := "standinDecides", unfollowed := true, recurses := true, apart := false }
def StandinDecidesSaid : Prop := standinDecidesRow.holds Try.pinned (OpenSpec.ofChange standinDecidesSpec)

/-- ITS FALSE NEIGHBOUR: 'it returns false'. Refute it at one input. -/
def standinDecidesWrong : ChangeSpec := { name := "standinDecides", fn := fun _ => fun
  | [d1, d2] => { results := [.lit (.bool false)], args := [d1, d2] }
  | _ => none }
def StandinDecidesWrongFalsely : Prop := standinDecidesRow.holds Try.pinned (OpenSpec.ofChange standinDecidesWrong)

/-- 'corebanklaw53.StandinEntries': WHATEVER THE INPUT: true; the input reads as it did. -/
def standinEntriesSpec : ChangeSpec := { name := "standinEntries", fn := fun _ => fun
  | [d1, d2, d3] => { results := [.lit (.bool true)], args := [d1, d2, d3] }
  | _ => none }
def standinEntriesRow : OpenClaim := { program := "ytpoebijgpbaccaa", sum := "e69dc8d4795e9454f57482ad4a2929b12ae783e683af2ceab28f00d92a9a9efa", func := "corebank/corebanklaw53.StandinEntries", spec := "standinEntries", unfollowed := true, recurses := true, loops := true, apart := false }
def StandinEntriesSaid : Prop := standinEntriesRow.holds Try.pinned (OpenSpec.ofChange standinEntriesSpec)

/-- ITS FALSE NEIGHBOUR: 'it returns false'. Refute it at one input. -/
def standinEntriesWrong : ChangeSpec := { name := "standinEntries", fn := fun _ => fun
  | [d1, d2, d3] => { results := [.lit (.bool false)], args := [d1, d2, d3] }
  | _ => none }
def StandinEntriesWrongFalsely : Prop := standinEntriesRow.holds Try.pinned (OpenSpec.ofChange standinEntriesWrong)

/-- 'corebanklaw53.StandinLimits': WHATEVER THE INPUT: true; the input reads as it did. -/
def standinLimitsSpec : ChangeSpec := { name := "standinLimits", fn := fun _ => fun
  | [d1, d2] => { results := [.lit (.bool true)], args := [d1, d2] }
  | _ => none }
def standinLimitsRow : OpenClaim := { program := "ytpoebijgpbaccaa", sum := "e69dc8d4795e9454f57482ad4a2929b12ae783e683af2ceab28f00d92a9a9efa", func := "corebank/corebanklaw53.StandinLimits", spec := "standinLimits", unfollowed := true, recurses := true, apart := false }
def StandinLimitsSaid : Prop := standinLimitsRow.holds Try.pinned (OpenSpec.ofChange standinLimitsSpec)

/-- ITS FALSE NEIGHBOUR: 'it returns false'. Refute it at one input. -/
def standinLimitsWrong : ChangeSpec := { name := "standinLimits", fn := fun _ => fun
  | [d1, d2] => { results := [.lit (.bool false)], args := [d1, d2] }
  | _ => none }
def StandinLimitsWrongFalsely : Prop := standinLimitsRow.holds Try.pinned (OpenSpec.ofChange standinLimitsWrong)

/- THE SECOND FORM. 'bulk': how many values and letters a reading holds, each counted each time it is reached (what is shared counts as often as it is met; a slice's spare places count too). A statement '..UptoSaid' is the law's where the arguments, and the package variables that the reading takes, are together of bulk at most 1048576: NARROWER than '..Said'. Prove '..Said' where nothing that the law and all that it calls make is longer than what came in: it says more and counts as full. Else prove '..UptoSaid'. A law counts once. -/
mutual
def uptoBulk {H : Type} : DataW H → Nat
  | .lit (.string bytes) => bytes.length + 1
  | .lit _ => 1
  | .nil => 1
  | .ptr d => uptoBulk d + 1
  | .slice elems spare => uptoBulkAll elems + uptoBulkAll spare + 1
  | .agg parts => uptoBulkAll parts + 1
  | .iface _ d => uptoBulk d + 1
  | .map entries => uptoBulkEntries entries + 1
  | .held _ => 1
def uptoBulkAll {H : Type} : List (DataW H) → Nat
  | [] => 0
  | d :: r => uptoBulk d + uptoBulkAll r
def uptoBulkEntries {H : Type} : List (Lit × DataW H) → Nat
  | [] => 0
  | x :: r => uptoBulkEntry x + uptoBulkEntries r
def uptoBulkEntry {H : Type} : Lit × DataW H → Nat
  | (.string bytes, d) => bytes.length + uptoBulk d + 1
  | (_, d) => uptoBulk d + 1
 end
def uptoSmall : (H : Type) → List (DataW H) → Bool := fun _ ds => decide (uptoBulkAll ds ≤ 1048576)
def OpenSpec.upto (s : _root_.Go.ChangeSpec) : _root_.Go.OpenSpec := { _root_.Go.OpenSpec.ofChange s with cond := some uptoSmall }

/-- 'corebanklaw53.StandinChecks', WHERE WHAT IT READS IS OF BULK AT MOST 1048576: true; the input reads as it did. -/
def standinChecksUptoRow : OpenClaim := { program := "ytpoebijgpbaccaa", sum := "e69dc8d4795e9454f57482ad4a2929b12ae783e683af2ceab28f00d92a9a9efa", func := "corebank/corebanklaw53.StandinChecks", spec := "standinChecks", unfollowed := true, recurses := true, apart := false, narrowed := true }
def StandinChecksUptoSaid : Prop := standinChecksUptoRow.holds Try.pinned (OpenSpec.upto standinChecksSpec)

/-- 'corebanklaw53.StandinDecides', WHERE WHAT IT READS IS OF BULK AT MOST 1048576: true; the input reads as it did. -/
def standinDecidesUptoRow : OpenClaim := { program := "ytpoebijgpbaccaa", sum := "e69dc8d4795e9454f57482ad4a2929b12ae783e683af2ceab28f00d92a9a9efa", func := "corebank/corebanklaw53.StandinDecides", spec := "standinDecides", unfollowed := true, recurses := true, apart := false, narrowed := true }
def StandinDecidesUptoSaid : Prop := standinDecidesUptoRow.holds Try.pinned (OpenSpec.upto standinDecidesSpec)

/-- 'corebanklaw53.StandinEntries', WHERE WHAT IT READS IS OF BULK AT MOST 1048576: true; the input reads as it did. -/
def standinEntriesUptoRow : OpenClaim := { program := "ytpoebijgpbaccaa", sum := "e69dc8d4795e9454f57482ad4a2929b12ae783e683af2ceab28f00d92a9a9efa", func := "corebank/corebanklaw53.StandinEntries", spec := "standinEntries", unfollowed := true, recurses := true, loops := true, apart := false, narrowed := true }
def StandinEntriesUptoSaid : Prop := standinEntriesUptoRow.holds Try.pinned (OpenSpec.upto standinEntriesSpec)

/-- 'corebanklaw53.StandinLimits', WHERE WHAT IT READS IS OF BULK AT MOST 1048576: true; the input reads as it did. -/
def standinLimitsUptoRow : OpenClaim := { program := "ytpoebijgpbaccaa", sum := "e69dc8d4795e9454f57482ad4a2929b12ae783e683af2ceab28f00d92a9a9efa", func := "corebank/corebanklaw53.StandinLimits", spec := "standinLimits", unfollowed := true, recurses := true, apart := false, narrowed := true }
def StandinLimitsUptoSaid : Prop := standinLimitsUptoRow.holds Try.pinned (OpenSpec.upto standinLimitsSpec)

end Rows
end Go.Proofs.Ytpoebijgpbaccaa

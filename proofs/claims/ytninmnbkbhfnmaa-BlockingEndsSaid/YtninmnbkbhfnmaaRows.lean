/-
  No cell of these rows narrows 'for every input' (looked for: loops, veiled, ifaces, maps, wideKeys, modest, calm, conditions, laid).
  DERIVED. THE GIVEN ROWS OF THIS SEAT. 6 by the template 'for every input the law returns true; each argument reads behind the call as it read before'; 0 by the template 'total and deterministic' (their statements: YtninmnbkbhfnmaaTotals.lean).
  GIVEN WITH THE SEED: the statements are not yours to turn. If you find one false, say at which input.
  Laid BY PROGRAM, IN A SANDBOX (cutbox-rows.mjs): the forced cells as the released guide's own fill.sh prints them over the translation 7c07d4a0c47b0fef… (all of the seat's roots in one cut). By AI agents, Wed Nov 11 2026. No macro, syntax, notation, axiom, sorry.
-/
import Derived.Test.YtninmnbkbhfnmaaChecked
import GoSem.Claim
import GoSem.ClaimJoined
import GoSem.ClaimMapViews
import Derived.JoinedTies
import Derived.KernelRfl
namespace Go.Proofs.Ytninmnbkbhfnmaa
/- THE CELL 'sum', in the pinned program and in every row, IS THE sha256 OF THE DUMP (.gsa) THAT YtninmnbkbhfnmaaProg.lean LOADS. Nothing in Lean hashes anything: it is a label: what it is worth is what the hold of that sum in a sandbox is worth. -/
noncomputable def Try.pinned : Pinned := { name := "ytninmnbkbhfnmaa", sum := "7c07d4a0c47b0fefddb5d8c369ff2916be015bcc55e0a18e5aee90f5c3e70984", checked := Try.checked }
namespace Rows
def none {H : Type} : Left H := { results := [], args := [] }

/-- 'corebanklaw23.BlockingChecks': WHATEVER THE INPUT: true; the input reads as it did. -/
def blockingChecksSpec : ChangeSpec := { name := "blockingChecks", fn := fun _ => fun
  | [d] => { results := [.lit (.bool true)], args := [d] }
  | _ => none }
def blockingChecksRow : OpenClaim := { program := "ytninmnbkbhfnmaa", sum := "7c07d4a0c47b0fefddb5d8c369ff2916be015bcc55e0a18e5aee90f5c3e70984", func := "corebank/corebanklaw23.BlockingChecks", spec := "blockingChecks", unfollowed := true, recurses := true, apart := false }
def BlockingChecksSaid : Prop := blockingChecksRow.holds Try.pinned (OpenSpec.ofChange blockingChecksSpec)

/-- ITS FALSE NEIGHBOUR: 'it returns false'. Refute it at one input. -/
def blockingChecksWrong : ChangeSpec := { name := "blockingChecks", fn := fun _ => fun
  | [d] => { results := [.lit (.bool false)], args := [d] }
  | _ => none }
def BlockingChecksWrongFalsely : Prop := blockingChecksRow.holds Try.pinned (OpenSpec.ofChange blockingChecksWrong)

/-- 'corebanklaw23.BlockingPlaces': WHATEVER THE INPUT: true; the input reads as it did. -/
def blockingPlacesSpec : ChangeSpec := { name := "blockingPlaces", fn := fun _ => fun
  | [d1, d2] => { results := [.lit (.bool true)], args := [d1, d2] }
  | _ => none }
def blockingPlacesRow : OpenClaim := { program := "ytninmnbkbhfnmaa", sum := "7c07d4a0c47b0fefddb5d8c369ff2916be015bcc55e0a18e5aee90f5c3e70984", func := "corebank/corebanklaw23.BlockingPlaces", spec := "blockingPlaces", unfollowed := true, recurses := true, apart := false }
def BlockingPlacesSaid : Prop := blockingPlacesRow.holds Try.pinned (OpenSpec.ofChange blockingPlacesSpec)

/-- ITS FALSE NEIGHBOUR: 'it returns false'. Refute it at one input. -/
def blockingPlacesWrong : ChangeSpec := { name := "blockingPlaces", fn := fun _ => fun
  | [d1, d2] => { results := [.lit (.bool false)], args := [d1, d2] }
  | _ => none }
def BlockingPlacesWrongFalsely : Prop := blockingPlacesRow.holds Try.pinned (OpenSpec.ofChange blockingPlacesWrong)

/-- 'corebanklaw23.BlockingLifts': WHATEVER THE INPUT: true; the input reads as it did. -/
def blockingLiftsSpec : ChangeSpec := { name := "blockingLifts", fn := fun _ => fun
  | [d1, d2, d3] => { results := [.lit (.bool true)], args := [d1, d2, d3] }
  | _ => none }
def blockingLiftsRow : OpenClaim := { program := "ytninmnbkbhfnmaa", sum := "7c07d4a0c47b0fefddb5d8c369ff2916be015bcc55e0a18e5aee90f5c3e70984", func := "corebank/corebanklaw23.BlockingLifts", spec := "blockingLifts", unfollowed := true, recurses := true, apart := false }
def BlockingLiftsSaid : Prop := blockingLiftsRow.holds Try.pinned (OpenSpec.ofChange blockingLiftsSpec)

/-- ITS FALSE NEIGHBOUR: 'it returns false'. Refute it at one input. -/
def blockingLiftsWrong : ChangeSpec := { name := "blockingLifts", fn := fun _ => fun
  | [d1, d2, d3] => { results := [.lit (.bool false)], args := [d1, d2, d3] }
  | _ => none }
def BlockingLiftsWrongFalsely : Prop := blockingLiftsRow.holds Try.pinned (OpenSpec.ofChange blockingLiftsWrong)

/-- 'corebanklaw23.BlockingActs': WHATEVER THE INPUT: true; the input reads as it did. -/
def blockingActsSpec : ChangeSpec := { name := "blockingActs", fn := fun _ => fun
  | [d1, d2] => { results := [.lit (.bool true)], args := [d1, d2] }
  | _ => none }
def blockingActsRow : OpenClaim := { program := "ytninmnbkbhfnmaa", sum := "7c07d4a0c47b0fefddb5d8c369ff2916be015bcc55e0a18e5aee90f5c3e70984", func := "corebank/corebanklaw23.BlockingActs", spec := "blockingActs", unfollowed := true, recurses := true, apart := false }
def BlockingActsSaid : Prop := blockingActsRow.holds Try.pinned (OpenSpec.ofChange blockingActsSpec)

/-- ITS FALSE NEIGHBOUR: 'it returns false'. Refute it at one input. -/
def blockingActsWrong : ChangeSpec := { name := "blockingActs", fn := fun _ => fun
  | [d1, d2] => { results := [.lit (.bool false)], args := [d1, d2] }
  | _ => none }
def BlockingActsWrongFalsely : Prop := blockingActsRow.holds Try.pinned (OpenSpec.ofChange blockingActsWrong)

/-- 'corebanklaw23.BlockingReserves': WHATEVER THE INPUT: true; the input reads as it did. -/
def blockingReservesSpec : ChangeSpec := { name := "blockingReserves", fn := fun _ => fun
  | [d1, d2, d3] => { results := [.lit (.bool true)], args := [d1, d2, d3] }
  | _ => none }
def blockingReservesRow : OpenClaim := { program := "ytninmnbkbhfnmaa", sum := "7c07d4a0c47b0fefddb5d8c369ff2916be015bcc55e0a18e5aee90f5c3e70984", func := "corebank/corebanklaw23.BlockingReserves", spec := "blockingReserves", unfollowed := true, recurses := true, apart := false }
def BlockingReservesSaid : Prop := blockingReservesRow.holds Try.pinned (OpenSpec.ofChange blockingReservesSpec)

/-- ITS FALSE NEIGHBOUR: 'it returns false'. Refute it at one input. -/
def blockingReservesWrong : ChangeSpec := { name := "blockingReserves", fn := fun _ => fun
  | [d1, d2, d3] => { results := [.lit (.bool false)], args := [d1, d2, d3] }
  | _ => none }
def BlockingReservesWrongFalsely : Prop := blockingReservesRow.holds Try.pinned (OpenSpec.ofChange blockingReservesWrong)

/-- 'corebanklaw23.BlockingEnds': WHATEVER THE INPUT: true; the input reads as it did. -/
def blockingEndsSpec : ChangeSpec := { name := "blockingEnds", fn := fun _ => fun
  | [d1, d2, d3] => { results := [.lit (.bool true)], args := [d1, d2, d3] }
  | _ => none }
def blockingEndsRow : OpenClaim := { program := "ytninmnbkbhfnmaa", sum := "7c07d4a0c47b0fefddb5d8c369ff2916be015bcc55e0a18e5aee90f5c3e70984", func := "corebank/corebanklaw23.BlockingEnds", spec := "blockingEnds", unfollowed := true, recurses := true, apart := false }
def BlockingEndsSaid : Prop := blockingEndsRow.holds Try.pinned (OpenSpec.ofChange blockingEndsSpec)

/-- ITS FALSE NEIGHBOUR: 'it returns false'. Refute it at one input. -/
def blockingEndsWrong : ChangeSpec := { name := "blockingEnds", fn := fun _ => fun
  | [d1, d2, d3] => { results := [.lit (.bool false)], args := [d1, d2, d3] }
  | _ => none }
def BlockingEndsWrongFalsely : Prop := blockingEndsRow.holds Try.pinned (OpenSpec.ofChange blockingEndsWrong)

/- THE SECOND FORM. 'bulk': how many values and letters a reading holds, each counted each time it is reached (what is shared counts as often as it is met; a slice's spare places count too). A statement '..UptoSaid' is the law's where the arguments, and the package variables that the reading takes, are together of bulk at most 1048576: NARROWER than '..Said'. Prove '..Said' where nothing that the law and all that it calls make is longer than what came in: it says more and counts as full. Else prove '..UptoSaid'. A law counts once. -/
mutual
def uptoBulk {H : Type} : DataW H → Nat
  | .lit (.string bytes) => bytes.length + 1
  | .lit _ => 1
  | .nil => 1
  | .ptr d => uptoBulk d + 1
  | .slice elems spare => uptoBulkAll elems + uptoBulkAll spare + 1
  | .agg parts => uptoBulkAll parts + 1
  | .iface _ d => uptoBulk d + 1
  | .map entries => uptoBulkEntries entries + 1
  | .held _ => 1
def uptoBulkAll {H : Type} : List (DataW H) → Nat
  | [] => 0
  | d :: r => uptoBulk d + uptoBulkAll r
def uptoBulkEntries {H : Type} : List (Lit × DataW H) → Nat
  | [] => 0
  | x :: r => uptoBulkEntry x + uptoBulkEntries r
def uptoBulkEntry {H : Type} : Lit × DataW H → Nat
  | (.string bytes, d) => bytes.length + uptoBulk d + 1
  | (_, d) => uptoBulk d + 1
 end
def uptoSmall : (H : Type) → List (DataW H) → Bool := fun _ ds => decide (uptoBulkAll ds ≤ 1048576)
def OpenSpec.upto (s : _root_.Go.ChangeSpec) : _root_.Go.OpenSpec := { _root_.Go.OpenSpec.ofChange s with cond := some uptoSmall }

/-- 'corebanklaw23.BlockingChecks', WHERE WHAT IT READS IS OF BULK AT MOST 1048576: true; the input reads as it did. -/
def blockingChecksUptoRow : OpenClaim := { program := "ytninmnbkbhfnmaa", sum := "7c07d4a0c47b0fefddb5d8c369ff2916be015bcc55e0a18e5aee90f5c3e70984", func := "corebank/corebanklaw23.BlockingChecks", spec := "blockingChecks", unfollowed := true, recurses := true, apart := false, narrowed := true }
def BlockingChecksUptoSaid : Prop := blockingChecksUptoRow.holds Try.pinned (OpenSpec.upto blockingChecksSpec)

/-- 'corebanklaw23.BlockingPlaces', WHERE WHAT IT READS IS OF BULK AT MOST 1048576: true; the input reads as it did. -/
def blockingPlacesUptoRow : OpenClaim := { program := "ytninmnbkbhfnmaa", sum := "7c07d4a0c47b0fefddb5d8c369ff2916be015bcc55e0a18e5aee90f5c3e70984", func := "corebank/corebanklaw23.BlockingPlaces", spec := "blockingPlaces", unfollowed := true, recurses := true, apart := false, narrowed := true }
def BlockingPlacesUptoSaid : Prop := blockingPlacesUptoRow.holds Try.pinned (OpenSpec.upto blockingPlacesSpec)

/-- 'corebanklaw23.BlockingLifts', WHERE WHAT IT READS IS OF BULK AT MOST 1048576: true; the input reads as it did. -/
def blockingLiftsUptoRow : OpenClaim := { program := "ytninmnbkbhfnmaa", sum := "7c07d4a0c47b0fefddb5d8c369ff2916be015bcc55e0a18e5aee90f5c3e70984", func := "corebank/corebanklaw23.BlockingLifts", spec := "blockingLifts", unfollowed := true, recurses := true, apart := false, narrowed := true }
def BlockingLiftsUptoSaid : Prop := blockingLiftsUptoRow.holds Try.pinned (OpenSpec.upto blockingLiftsSpec)

/-- 'corebanklaw23.BlockingActs', WHERE WHAT IT READS IS OF BULK AT MOST 1048576: true; the input reads as it did. -/
def blockingActsUptoRow : OpenClaim := { program := "ytninmnbkbhfnmaa", sum := "7c07d4a0c47b0fefddb5d8c369ff2916be015bcc55e0a18e5aee90f5c3e70984", func := "corebank/corebanklaw23.BlockingActs", spec := "blockingActs", unfollowed := true, recurses := true, apart := false, narrowed := true }
def BlockingActsUptoSaid : Prop := blockingActsUptoRow.holds Try.pinned (OpenSpec.upto blockingActsSpec)

/-- 'corebanklaw23.BlockingReserves', WHERE WHAT IT READS IS OF BULK AT MOST 1048576: true; the input reads as it did. -/
def blockingReservesUptoRow : OpenClaim := { program := "ytninmnbkbhfnmaa", sum := "7c07d4a0c47b0fefddb5d8c369ff2916be015bcc55e0a18e5aee90f5c3e70984", func := "corebank/corebanklaw23.BlockingReserves", spec := "blockingReserves", unfollowed := true, recurses := true, apart := false, narrowed := true }
def BlockingReservesUptoSaid : Prop := blockingReservesUptoRow.holds Try.pinned (OpenSpec.upto blockingReservesSpec)

/-- 'corebanklaw23.BlockingEnds', WHERE WHAT IT READS IS OF BULK AT MOST 1048576: true; the input reads as it did. -/
def blockingEndsUptoRow : OpenClaim := { program := "ytninmnbkbhfnmaa", sum := "7c07d4a0c47b0fefddb5d8c369ff2916be015bcc55e0a18e5aee90f5c3e70984", func := "corebank/corebanklaw23.BlockingEnds", spec := "blockingEnds", unfollowed := true, recurses := true, apart := false, narrowed := true }
def BlockingEndsUptoSaid : Prop := blockingEndsUptoRow.holds Try.pinned (OpenSpec.upto blockingEndsSpec)

end Rows
end Go.Proofs.Ytninmnbkbhfnmaa

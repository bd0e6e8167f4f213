/-
  No cell of these rows narrows 'for every input' (looked for: loops, veiled, ifaces, maps, wideKeys, modest, calm, conditions, laid).
  DERIVED. THE GIVEN ROWS OF THIS SEAT. 4 by the template 'for every input the law returns true; each argument reads behind the call as it read before'; 0 by the template 'total and deterministic' (their statements: YtggaijkihehlmaaTotals.lean).
  GIVEN WITH THE SEED: the statements are not yours to turn. If you find one false, say at which input.
  Laid BY PROGRAM, IN A SANDBOX (cutbox-rows.mjs): the forced cells as the released guide's own fill.sh prints them over the translation f7f3dec9cab1f7ed… (all of the seat's roots in one cut). By AI agents, Wed Nov 11 2026. No macro, syntax, notation, axiom, sorry.
-/
import Derived.Test.YtggaijkihehlmaaChecked
import GoSem.Claim
import GoSem.ClaimJoined
import GoSem.ClaimMapViews
import Derived.JoinedTies
import Derived.KernelRfl
namespace Go.Proofs.Ytggaijkihehlmaa
/- THE CELL 'sum', in the pinned program and in every row, IS THE sha256 OF THE DUMP (.gsa) THAT YtggaijkihehlmaaProg.lean LOADS. Nothing in Lean hashes anything: it is a label: what it is worth is what the hold of that sum in a sandbox is worth. -/
noncomputable def Try.pinned : Pinned := { name := "ytggaijkihehlmaa", sum := "f7f3dec9cab1f7ed3800a9983425d86c6ae83822a073f7c8c8fea5b8e43a3735", checked := Try.checked }
namespace Rows
def none {H : Type} : Left H := { results := [], args := [] }

/-- 'corebanklaw22.HoldChecks': WHATEVER THE INPUT: true; the input reads as it did. -/
def holdChecksSpec : ChangeSpec := { name := "holdChecks", fn := fun _ => fun
  | [d1, d2, d3] => { results := [.lit (.bool true)], args := [d1, d2, d3] }
  | _ => none }
def holdChecksRow : OpenClaim := { program := "ytggaijkihehlmaa", sum := "f7f3dec9cab1f7ed3800a9983425d86c6ae83822a073f7c8c8fea5b8e43a3735", func := "corebank/corebanklaw22.HoldChecks", spec := "holdChecks", unfollowed := true, recurses := true, apart := false }
def HoldChecksSaid : Prop := holdChecksRow.holds Try.pinned (OpenSpec.ofChange holdChecksSpec)

/-- ITS FALSE NEIGHBOUR: 'it returns false'. Refute it at one input. -/
def holdChecksWrong : ChangeSpec := { name := "holdChecks", fn := fun _ => fun
  | [d1, d2, d3] => { results := [.lit (.bool false)], args := [d1, d2, d3] }
  | _ => none }
def HoldChecksWrongFalsely : Prop := holdChecksRow.holds Try.pinned (OpenSpec.ofChange holdChecksWrong)

/-- 'corebanklaw22.HoldActs': WHATEVER THE INPUT: true; the input reads as it did. -/
def holdActsSpec : ChangeSpec := { name := "holdActs", fn := fun _ => fun
  | [d1, d2] => { results := [.lit (.bool true)], args := [d1, d2] }
  | _ => none }
def holdActsRow : OpenClaim := { program := "ytggaijkihehlmaa", sum := "f7f3dec9cab1f7ed3800a9983425d86c6ae83822a073f7c8c8fea5b8e43a3735", func := "corebank/corebanklaw22.HoldActs", spec := "holdActs", unfollowed := true, recurses := true, apart := false }
def HoldActsSaid : Prop := holdActsRow.holds Try.pinned (OpenSpec.ofChange holdActsSpec)

/-- ITS FALSE NEIGHBOUR: 'it returns false'. Refute it at one input. -/
def holdActsWrong : ChangeSpec := { name := "holdActs", fn := fun _ => fun
  | [d1, d2] => { results := [.lit (.bool false)], args := [d1, d2] }
  | _ => none }
def HoldActsWrongFalsely : Prop := holdActsRow.holds Try.pinned (OpenSpec.ofChange holdActsWrong)

/-- 'corebanklaw22.HoldValid': WHATEVER THE INPUT: true; the input reads as it did. -/
def holdValidSpec : ChangeSpec := { name := "holdValid", fn := fun _ => fun
  | [d1, d2] => { results := [.lit (.bool true)], args := [d1, d2] }
  | _ => none }
def holdValidRow : OpenClaim := { program := "ytggaijkihehlmaa", sum := "f7f3dec9cab1f7ed3800a9983425d86c6ae83822a073f7c8c8fea5b8e43a3735", func := "corebank/corebanklaw22.HoldValid", spec := "holdValid", unfollowed := true, recurses := true, apart := false }
def HoldValidSaid : Prop := holdValidRow.holds Try.pinned (OpenSpec.ofChange holdValidSpec)

/-- ITS FALSE NEIGHBOUR: 'it returns false'. Refute it at one input. -/
def holdValidWrong : ChangeSpec := { name := "holdValid", fn := fun _ => fun
  | [d1, d2] => { results := [.lit (.bool false)], args := [d1, d2] }
  | _ => none }
def HoldValidWrongFalsely : Prop := holdValidRow.holds Try.pinned (OpenSpec.ofChange holdValidWrong)

/-- 'corebanklaw22.HoldConserves': WHATEVER THE INPUT: true; the input reads as it did. -/
def holdConservesSpec : ChangeSpec := { name := "holdConserves", fn := fun _ => fun
  | [d1, d2] => { results := [.lit (.bool true)], args := [d1, d2] }
  | _ => none }
def holdConservesRow : OpenClaim := { program := "ytggaijkihehlmaa", sum := "f7f3dec9cab1f7ed3800a9983425d86c6ae83822a073f7c8c8fea5b8e43a3735", func := "corebank/corebanklaw22.HoldConserves", spec := "holdConserves", unfollowed := true, recurses := true, apart := false }
def HoldConservesSaid : Prop := holdConservesRow.holds Try.pinned (OpenSpec.ofChange holdConservesSpec)

/-- ITS FALSE NEIGHBOUR: 'it returns false'. Refute it at one input. -/
def holdConservesWrong : ChangeSpec := { name := "holdConserves", fn := fun _ => fun
  | [d1, d2] => { results := [.lit (.bool false)], args := [d1, d2] }
  | _ => none }
def HoldConservesWrongFalsely : Prop := holdConservesRow.holds Try.pinned (OpenSpec.ofChange holdConservesWrong)

/- THE SECOND FORM. 'bulk': how many values and letters a reading holds, each counted each time it is reached (what is shared counts as often as it is met; a slice's spare places count too). A statement '..UptoSaid' is the law's where the arguments, and the package variables that the reading takes, are together of bulk at most 1048576: NARROWER than '..Said'. Prove '..Said' where nothing that the law and all that it calls make is longer than what came in: it says more and counts as full. Else prove '..UptoSaid'. A law counts once. -/
mutual
def uptoBulk {H : Type} : DataW H → Nat
  | .lit (.string bytes) => bytes.length + 1
  | .lit _ => 1
  | .nil => 1
  | .ptr d => uptoBulk d + 1
  | .slice elems spare => uptoBulkAll elems + uptoBulkAll spare + 1
  | .agg parts => uptoBulkAll parts + 1
  | .iface _ d => uptoBulk d + 1
  | .map entries => uptoBulkEntries entries + 1
  | .held _ => 1
def uptoBulkAll {H : Type} : List (DataW H) → Nat
  | [] => 0
  | d :: r => uptoBulk d + uptoBulkAll r
def uptoBulkEntries {H : Type} : List (Lit × DataW H) → Nat
  | [] => 0
  | x :: r => uptoBulkEntry x + uptoBulkEntries r
def uptoBulkEntry {H : Type} : Lit × DataW H → Nat
  | (.string bytes, d) => bytes.length + uptoBulk d + 1
  | (_, d) => uptoBulk d + 1
 end
def uptoSmall : (H : Type) → List (DataW H) → Bool := fun _ ds => decide (uptoBulkAll ds ≤ 1048576)
def OpenSpec.upto (s : _root_.Go.ChangeSpec) : _root_.Go.OpenSpec := { _root_.Go.OpenSpec.ofChange s with cond := some uptoSmall }

/-- 'corebanklaw22.HoldChecks', WHERE WHAT IT READS IS OF BULK AT MOST 1048576: true; the input reads as it did. -/
def holdChecksUptoRow : OpenClaim := { program := "ytggaijkihehlmaa", sum := "f7f3dec9cab1f7ed3800a9983425d86c6ae83822a073f7c8c8fea5b8e43a3735", func := "corebank/corebanklaw22.HoldChecks", spec := "holdChecks", unfollowed := true, recurses := true, apart := false, narrowed := true }
def HoldChecksUptoSaid : Prop := holdChecksUptoRow.holds Try.pinned (OpenSpec.upto holdChecksSpec)

/-- 'corebanklaw22.HoldActs', WHERE WHAT IT READS IS OF BULK AT MOST 1048576: true; the input reads as it did. -/
def holdActsUptoRow : OpenClaim := { program := "ytggaijkihehlmaa", sum := "f7f3dec9cab1f7ed3800a9983425d86c6ae83822a073f7c8c8fea5b8e43a3735", func := "corebank/corebanklaw22.HoldActs", spec := "holdActs", unfollowed := true, recurses := true, apart := false, narrowed := true }
def HoldActsUptoSaid : Prop := holdActsUptoRow.holds Try.pinned (OpenSpec.upto holdActsSpec)

/-- 'corebanklaw22.HoldValid', WHERE WHAT IT READS IS OF BULK AT MOST 1048576: true; the input reads as it did. -/
def holdValidUptoRow : OpenClaim := { program := "ytggaijkihehlmaa", sum := "f7f3dec9cab1f7ed3800a9983425d86c6ae83822a073f7c8c8fea5b8e43a3735", func := "corebank/corebanklaw22.HoldValid", spec := "holdValid", unfollowed := true, recurses := true, apart := false, narrowed := true }
def HoldValidUptoSaid : Prop := holdValidUptoRow.holds Try.pinned (OpenSpec.upto holdValidSpec)

/-- 'corebanklaw22.HoldConserves', WHERE WHAT IT READS IS OF BULK AT MOST 1048576: true; the input reads as it did. -/
def holdConservesUptoRow : OpenClaim := { program := "ytggaijkihehlmaa", sum := "f7f3dec9cab1f7ed3800a9983425d86c6ae83822a073f7c8c8fea5b8e43a3735", func := "corebank/corebanklaw22.HoldConserves", spec := "holdConserves", unfollowed := true, recurses := true, apart := false, narrowed := true }
def HoldConservesUptoSaid : Prop := holdConservesUptoRow.holds Try.pinned (OpenSpec.upto holdConservesSpec)

end Rows
end Go.Proofs.Ytggaijkihehlmaa

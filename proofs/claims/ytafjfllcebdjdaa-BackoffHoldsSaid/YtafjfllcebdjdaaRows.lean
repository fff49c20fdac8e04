/-
  No cell of these rows narrows 'for every input' (looked for: loops, veiled, ifaces, maps, wideKeys, modest, calm, conditions, laid).
  DERIVED. THE GIVEN ROWS OF THIS SEAT. 5 by the template 'for every input the law returns true; each argument reads behind the call as it read before'; 0 by the template 'total and deterministic' (their statements: YtafjfllcebdjdaaTotals.lean).
  GIVEN WITH THE SEED: the statements are not yours to turn. If you find one false, say at which input.
  Laid BY PROGRAM, IN A SANDBOX (cutbox-rows.mjs): the forced cells as the released guide's own fill.sh prints them over the translation c014faa7e3215e85… (all of the seat's roots in one cut). By AI agents, Wed Nov 11 2026. No macro, syntax, notation, axiom, sorry.
-/
import Derived.Test.YtafjfllcebdjdaaChecked
import GoSem.Claim
import GoSem.ClaimJoined
import GoSem.ClaimMapViews
import Derived.JoinedTies
import Derived.KernelRfl
namespace Go.Proofs.Ytafjfllcebdjdaa
/- THE CELL 'sum', in the pinned program and in every row, IS THE sha256 OF THE DUMP (.gsa) THAT YtafjfllcebdjdaaProg.lean LOADS. Nothing in Lean hashes anything: it is a label: what it is worth is what the hold of that sum in a sandbox is worth. -/
noncomputable def Try.pinned : Pinned := { name := "ytafjfllcebdjdaa", sum := "c014faa7e3215e85334a3b2b3946c7feb1b4ae9fc33f18f1eea4729e4b2a9e6f", checked := Try.checked }
namespace Rows
def none {H : Type} : Left H := { results := [], args := [] }

/-- 'aqueductlaw47.BackoffDelays': WHATEVER THE INPUT: true; the input reads as it did. -/
def backoffDelaysSpec : ChangeSpec := { name := "backoffDelays", fn := fun _ => fun
  | [d1, d2] => { results := [.lit (.bool true)], args := [d1, d2] }
  | _ => none }
def backoffDelaysRow : OpenClaim := { program := "ytafjfllcebdjdaa", sum := "c014faa7e3215e85334a3b2b3946c7feb1b4ae9fc33f18f1eea4729e4b2a9e6f", func := "aqueduct/aqueductlaw47.BackoffDelays", spec := "backoffDelays", unfollowed := true, recurses := true, apart := false }
def BackoffDelaysSaid : Prop := backoffDelaysRow.holds Try.pinned (OpenSpec.ofChange backoffDelaysSpec)

/-- ITS FALSE NEIGHBOUR: 'it returns false'. Refute it at one input. -/
def backoffDelaysWrong : ChangeSpec := { name := "backoffDelays", fn := fun _ => fun
  | [d1, d2] => { results := [.lit (.bool false)], args := [d1, d2] }
  | _ => none }
def BackoffDelaysWrongFalsely : Prop := backoffDelaysRow.holds Try.pinned (OpenSpec.ofChange backoffDelaysWrong)

/-- 'aqueductlaw47.BackoffTimes': WHATEVER THE INPUT: true; the input reads as it did. -/
def backoffTimesSpec : ChangeSpec := { name := "backoffTimes", fn := fun _ => fun
  | [d1, d2] => { results := [.lit (.bool true)], args := [d1, d2] }
  | _ => none }
def backoffTimesRow : OpenClaim := { program := "ytafjfllcebdjdaa", sum := "c014faa7e3215e85334a3b2b3946c7feb1b4ae9fc33f18f1eea4729e4b2a9e6f", func := "aqueduct/aqueductlaw47.BackoffTimes", spec := "backoffTimes", unfollowed := true, recurses := true, apart := false }
def BackoffTimesSaid : Prop := backoffTimesRow.holds Try.pinned (OpenSpec.ofChange backoffTimesSpec)

/-- ITS FALSE NEIGHBOUR: 'it returns false'. Refute it at one input. -/
def backoffTimesWrong : ChangeSpec := { name := "backoffTimes", fn := fun _ => fun
  | [d1, d2] => { results := [.lit (.bool false)], args := [d1, d2] }
  | _ => none }
def BackoffTimesWrongFalsely : Prop := backoffTimesRow.holds Try.pinned (OpenSpec.ofChange backoffTimesWrong)

/-- 'aqueductlaw47.BackoffHolds': WHATEVER THE INPUT: true; the input reads as it did. -/
def backoffHoldsSpec : ChangeSpec := { name := "backoffHolds", fn := fun _ => fun
  | [d1, d2, d3, d4, d5] => { results := [.lit (.bool true)], args := [d1, d2, d3, d4, d5] }
  | _ => none }
def backoffHoldsRow : OpenClaim := { program := "ytafjfllcebdjdaa", sum := "c014faa7e3215e85334a3b2b3946c7feb1b4ae9fc33f18f1eea4729e4b2a9e6f", func := "aqueduct/aqueductlaw47.BackoffHolds", spec := "backoffHolds", unfollowed := true, recurses := true, apart := false }
def BackoffHoldsSaid : Prop := backoffHoldsRow.holds Try.pinned (OpenSpec.ofChange backoffHoldsSpec)

/-- ITS FALSE NEIGHBOUR: 'it returns false'. Refute it at one input. -/
def backoffHoldsWrong : ChangeSpec := { name := "backoffHolds", fn := fun _ => fun
  | [d1, d2, d3, d4, d5] => { results := [.lit (.bool false)], args := [d1, d2, d3, d4, d5] }
  | _ => none }
def BackoffHoldsWrongFalsely : Prop := backoffHoldsRow.holds Try.pinned (OpenSpec.ofChange backoffHoldsWrong)

/-- 'aqueductlaw47.BackoffBreaks': WHATEVER THE INPUT: true; the input reads as it did. -/
def backoffBreaksSpec : ChangeSpec := { name := "backoffBreaks", fn := fun _ => fun
  | [d1, d2, d3, d4] => { results := [.lit (.bool true)], args := [d1, d2, d3, d4] }
  | _ => none }
def backoffBreaksRow : OpenClaim := { program := "ytafjfllcebdjdaa", sum := "c014faa7e3215e85334a3b2b3946c7feb1b4ae9fc33f18f1eea4729e4b2a9e6f", func := "aqueduct/aqueductlaw47.BackoffBreaks", spec := "backoffBreaks", unfollowed := true, recurses := true, apart := false }
def BackoffBreaksSaid : Prop := backoffBreaksRow.holds Try.pinned (OpenSpec.ofChange backoffBreaksSpec)

/-- ITS FALSE NEIGHBOUR: 'it returns false'. Refute it at one input. -/
def backoffBreaksWrong : ChangeSpec := { name := "backoffBreaks", fn := fun _ => fun
  | [d1, d2, d3, d4] => { results := [.lit (.bool false)], args := [d1, d2, d3, d4] }
  | _ => none }
def BackoffBreaksWrongFalsely : Prop := backoffBreaksRow.holds Try.pinned (OpenSpec.ofChange backoffBreaksWrong)

/-- 'aqueductlaw47.BackoffNone': WHATEVER THE INPUT: true; the input reads as it did. -/
def backoffNoneSpec : ChangeSpec := { name := "backoffNone", fn := fun _ => fun
  | [d] => { results := [.lit (.bool true)], args := [d] }
  | _ => none }
def backoffNoneRow : OpenClaim := { program := "ytafjfllcebdjdaa", sum := "c014faa7e3215e85334a3b2b3946c7feb1b4ae9fc33f18f1eea4729e4b2a9e6f", func := "aqueduct/aqueductlaw47.BackoffNone", spec := "backoffNone", unfollowed := true, recurses := true, apart := false }
def BackoffNoneSaid : Prop := backoffNoneRow.holds Try.pinned (OpenSpec.ofChange backoffNoneSpec)

/-- ITS FALSE NEIGHBOUR: 'it returns false'. Refute it at one input. -/
def backoffNoneWrong : ChangeSpec := { name := "backoffNone", fn := fun _ => fun
  | [d] => { results := [.lit (.bool false)], args := [d] }
  | _ => none }
def BackoffNoneWrongFalsely : Prop := backoffNoneRow.holds Try.pinned (OpenSpec.ofChange backoffNoneWrong)

/- THE SECOND FORM. 'bulk': how many values and letters a reading holds, each counted each time it is reached (what is shared counts as often as it is met; a slice's spare places count too). A statement '..UptoSaid' is the law's where the arguments, and the package variables that the reading takes, are together of bulk at most 1048576: NARROWER than '..Said'. Prove '..Said' where nothing that the law and all that it calls make is longer than what came in: it says more and counts as full. Else prove '..UptoSaid'. A law counts once. -/
mutual
def uptoBulk {H : Type} : DataW H → Nat
  | .lit (.string bytes) => bytes.length + 1
  | .lit _ => 1
  | .nil => 1
  | .ptr d => uptoBulk d + 1
  | .slice elems spare => uptoBulkAll elems + uptoBulkAll spare + 1
  | .agg parts => uptoBulkAll parts + 1
  | .iface _ d => uptoBulk d + 1
  | .map entries => uptoBulkEntries entries + 1
  | .held _ => 1
def uptoBulkAll {H : Type} : List (DataW H) → Nat
  | [] => 0
  | d :: r => uptoBulk d + uptoBulkAll r
def uptoBulkEntries {H : Type} : List (Lit × DataW H) → Nat
  | [] => 0
  | x :: r => uptoBulkEntry x + uptoBulkEntries r
def uptoBulkEntry {H : Type} : Lit × DataW H → Nat
  | (.string bytes, d) => bytes.length + uptoBulk d + 1
  | (_, d) => uptoBulk d + 1
 end
def uptoSmall : (H : Type) → List (DataW H) → Bool := fun _ ds => decide (uptoBulkAll ds ≤ 1048576)
def OpenSpec.upto (s : _root_.Go.ChangeSpec) : _root_.Go.OpenSpec := { _root_.Go.OpenSpec.ofChange s with cond := some uptoSmall }

/-- 'aqueductlaw47.BackoffDelays', WHERE WHAT IT READS IS OF BULK AT MOST 1048576: true; the input reads as it did. -/
def backoffDelaysUptoRow : OpenClaim := { program := "ytafjfllcebdjdaa", sum := "c014faa7e3215e85334a3b2b3946c7feb1b4ae9fc33f18f1eea4729e4b2a9e6f", func := "aqueduct/aqueductlaw47.BackoffDelays", spec := "backoffDelays", unfollowed := true, recurses := true, apart := false, narrowed := true }
def BackoffDelaysUptoSaid : Prop := backoffDelaysUptoRow.holds Try.pinned (OpenSpec.upto backoffDelaysSpec)

/-- 'aqueductlaw47.BackoffTimes', WHERE WHAT IT READS IS OF BULK AT MOST 1048576: true; the input reads as it did. -/
def backoffTimesUptoRow : OpenClaim := { program := "ytafjfllcebdjdaa", sum := "c014faa7e3215e85334a3b2b3946c7feb1b4ae9fc33f18f1eea4729e4b2a9e6f", func := "aqueduct/aqueductlaw47.BackoffTimes", spec := "backoffTimes", unfollowed := true, recurses := true, apart := false, narrowed := true }
def BackoffTimesUptoSaid : Prop := backoffTimesUptoRow.holds Try.pinned (OpenSpec.upto backoffTimesSpec)

/-- 'aqueductlaw47.BackoffHolds', WHERE WHAT IT READS IS OF BULK AT MOST 1048576: true; the input reads as it did. -/
def backoffHoldsUptoRow : OpenClaim := { program := "ytafjfllcebdjdaa", sum := "c014faa7e3215e85334a3b2b3946c7feb1b4ae9fc33f18f1eea4729e4b2a9e6f", func := "aqueduct/aqueductlaw47.BackoffHolds", spec := "backoffHolds", unfollowed := true, recurses := true, apart := false, narrowed := true }
def BackoffHoldsUptoSaid : Prop := backoffHoldsUptoRow.holds Try.pinned (OpenSpec.upto backoffHoldsSpec)

/-- 'aqueductlaw47.BackoffBreaks', WHERE WHAT IT READS IS OF BULK AT MOST 1048576: true; the input reads as it did. -/
def backoffBreaksUptoRow : OpenClaim := { program := "ytafjfllcebdjdaa", sum := "c014faa7e3215e85334a3b2b3946c7feb1b4ae9fc33f18f1eea4729e4b2a9e6f", func := "aqueduct/aqueductlaw47.BackoffBreaks", spec := "backoffBreaks", unfollowed := true, recurses := true, apart := false, narrowed := true }
def BackoffBreaksUptoSaid : Prop := backoffBreaksUptoRow.holds Try.pinned (OpenSpec.upto backoffBreaksSpec)

/-- 'aqueductlaw47.BackoffNone', WHERE WHAT IT READS IS OF BULK AT MOST 1048576: true; the input reads as it did. -/
def backoffNoneUptoRow : OpenClaim := { program := "ytafjfllcebdjdaa", sum := "c014faa7e3215e85334a3b2b3946c7feb1b4ae9fc33f18f1eea4729e4b2a9e6f", func := "aqueduct/aqueductlaw47.BackoffNone", spec := "backoffNone", unfollowed := true, recurses := true, apart := false, narrowed := true }
def BackoffNoneUptoSaid : Prop := backoffNoneUptoRow.holds Try.pinned (OpenSpec.upto backoffNoneSpec)

end Rows
end Go.Proofs.Ytafjfllcebdjdaa

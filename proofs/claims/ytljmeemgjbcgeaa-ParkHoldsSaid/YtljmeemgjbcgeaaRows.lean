/-
  No cell of these rows narrows 'for every input' (looked for: loops, veiled, ifaces, maps, wideKeys, modest, calm, conditions, laid).
  DERIVED. THE GIVEN ROWS OF THIS SEAT. 5 by the template 'for every input the law returns true; each argument reads behind the call as it read before'; 0 by the template 'total and deterministic' (their statements: YtljmeemgjbcgeaaTotals.lean).
  GIVEN WITH THE SEED: the statements are not yours to turn. If you find one false, say at which input.
  Laid BY PROGRAM, IN A SANDBOX (cutbox-rows.mjs): the forced cells as the released guide's own fill.sh prints them over the translation 919e3f374bd9d064… (all of the seat's roots in one cut). By AI agents, Wed Nov 11 2026. No macro, syntax, notation, axiom, sorry.
-/
import Derived.Test.YtljmeemgjbcgeaaChecked
import GoSem.Claim
import GoSem.ClaimJoined
import GoSem.ClaimMapViews
import Derived.JoinedTies
import Derived.KernelRfl
namespace Go.Proofs.Ytljmeemgjbcgeaa
/- THE CELL 'sum', in the pinned program and in every row, IS THE sha256 OF THE DUMP (.gsa) THAT YtljmeemgjbcgeaaProg.lean LOADS. Nothing in Lean hashes anything: it is a label: what it is worth is what the hold of that sum in a sandbox is worth. -/
noncomputable def Try.pinned : Pinned := { name := "ytljmeemgjbcgeaa", sum := "919e3f374bd9d064ecec722255ed572a0fd2eb2746a0fe907607010071c7537c", checked := Try.checked }
namespace Rows
def none {H : Type} : Left H := { results := [], args := [] }

/-- 'aqueductlaw09.ParkQueues': WHATEVER THE INPUT: true; the input reads as it did. -/
def parkQueuesSpec : ChangeSpec := { name := "parkQueues", fn := fun _ => fun
  | [d1, d2, d3, d4] => { results := [.lit (.bool true)], args := [d1, d2, d3, d4] }
  | _ => none }
def parkQueuesRow : OpenClaim := { program := "ytljmeemgjbcgeaa", sum := "919e3f374bd9d064ecec722255ed572a0fd2eb2746a0fe907607010071c7537c", func := "aqueduct/aqueductlaw09.ParkQueues", spec := "parkQueues", inPlace := ["maps.clone"], unfollowed := true, recurses := true, plainKeys := false, apart := false }
def ParkQueuesSaid : Prop := parkQueuesRow.holds Try.pinned (OpenSpec.ofChange parkQueuesSpec)

/-- ITS FALSE NEIGHBOUR: 'it returns false'. Refute it at one input. -/
def parkQueuesWrong : ChangeSpec := { name := "parkQueues", fn := fun _ => fun
  | [d1, d2, d3, d4] => { results := [.lit (.bool false)], args := [d1, d2, d3, d4] }
  | _ => none }
def ParkQueuesWrongFalsely : Prop := parkQueuesRow.holds Try.pinned (OpenSpec.ofChange parkQueuesWrong)

/-- 'aqueductlaw09.ParkHolds': WHATEVER THE INPUT: true; the input reads as it did. -/
def parkHoldsSpec : ChangeSpec := { name := "parkHolds", fn := fun _ => fun
  | [d1, d2, d3, d4] => { results := [.lit (.bool true)], args := [d1, d2, d3, d4] }
  | _ => none }
def parkHoldsRow : OpenClaim := { program := "ytljmeemgjbcgeaa", sum := "919e3f374bd9d064ecec722255ed572a0fd2eb2746a0fe907607010071c7537c", func := "aqueduct/aqueductlaw09.ParkHolds", spec := "parkHolds", inPlace := ["maps.clone"], unfollowed := true, recurses := true, plainKeys := false, apart := false }
def ParkHoldsSaid : Prop := parkHoldsRow.holds Try.pinned (OpenSpec.ofChange parkHoldsSpec)

/-- ITS FALSE NEIGHBOUR: 'it returns false'. Refute it at one input. -/
def parkHoldsWrong : ChangeSpec := { name := "parkHolds", fn := fun _ => fun
  | [d1, d2, d3, d4] => { results := [.lit (.bool false)], args := [d1, d2, d3, d4] }
  | _ => none }
def ParkHoldsWrongFalsely : Prop := parkHoldsRow.holds Try.pinned (OpenSpec.ofChange parkHoldsWrong)

/-- 'aqueductlaw09.ParkPlays': WHATEVER THE INPUT: true; the input reads as it did. -/
def parkPlaysSpec : ChangeSpec := { name := "parkPlays", fn := fun _ => fun
  | [d1, d2] => { results := [.lit (.bool true)], args := [d1, d2] }
  | _ => none }
def parkPlaysRow : OpenClaim := { program := "ytljmeemgjbcgeaa", sum := "919e3f374bd9d064ecec722255ed572a0fd2eb2746a0fe907607010071c7537c", func := "aqueduct/aqueductlaw09.ParkPlays", spec := "parkPlays", inPlace := ["maps.clone"], unfollowed := true, recurses := true, plainKeys := false, apart := false }
def ParkPlaysSaid : Prop := parkPlaysRow.holds Try.pinned (OpenSpec.ofChange parkPlaysSpec)

/-- ITS FALSE NEIGHBOUR: 'it returns false'. Refute it at one input. -/
def parkPlaysWrong : ChangeSpec := { name := "parkPlays", fn := fun _ => fun
  | [d1, d2] => { results := [.lit (.bool false)], args := [d1, d2] }
  | _ => none }
def ParkPlaysWrongFalsely : Prop := parkPlaysRow.holds Try.pinned (OpenSpec.ofChange parkPlaysWrong)

/-- 'aqueductlaw09.ParkOwn': WHATEVER THE INPUT: true; the input reads as it did. -/
def parkOwnSpec : ChangeSpec := { name := "parkOwn", fn := fun _ => fun
  | [d1, d2] => { results := [.lit (.bool true)], args := [d1, d2] }
  | _ => none }
def parkOwnRow : OpenClaim := { program := "ytljmeemgjbcgeaa", sum := "919e3f374bd9d064ecec722255ed572a0fd2eb2746a0fe907607010071c7537c", func := "aqueduct/aqueductlaw09.ParkOwn", spec := "parkOwn", inPlace := ["maps.clone"], unfollowed := true, recurses := true, plainKeys := false, apart := false }
def ParkOwnSaid : Prop := parkOwnRow.holds Try.pinned (OpenSpec.ofChange parkOwnSpec)

/-- ITS FALSE NEIGHBOUR: 'it returns false'. Refute it at one input. -/
def parkOwnWrong : ChangeSpec := { name := "parkOwn", fn := fun _ => fun
  | [d1, d2] => { results := [.lit (.bool false)], args := [d1, d2] }
  | _ => none }
def ParkOwnWrongFalsely : Prop := parkOwnRow.holds Try.pinned (OpenSpec.ofChange parkOwnWrong)

/-- 'aqueductlaw09.ParkNil': WHATEVER THE INPUT: true; the input reads as it did. -/
def parkNilSpec : ChangeSpec := { name := "parkNil", fn := fun _ => fun
  | [d1, d2] => { results := [.lit (.bool true)], args := [d1, d2] }
  | _ => none }
def parkNilRow : OpenClaim := { program := "ytljmeemgjbcgeaa", sum := "919e3f374bd9d064ecec722255ed572a0fd2eb2746a0fe907607010071c7537c", func := "aqueduct/aqueductlaw09.ParkNil", spec := "parkNil", inPlace := ["maps.clone"], unfollowed := true, recurses := true, plainKeys := false, apart := false }
def ParkNilSaid : Prop := parkNilRow.holds Try.pinned (OpenSpec.ofChange parkNilSpec)

/-- ITS FALSE NEIGHBOUR: 'it returns false'. Refute it at one input. -/
def parkNilWrong : ChangeSpec := { name := "parkNil", fn := fun _ => fun
  | [d1, d2] => { results := [.lit (.bool false)], args := [d1, d2] }
  | _ => none }
def ParkNilWrongFalsely : Prop := parkNilRow.holds Try.pinned (OpenSpec.ofChange parkNilWrong)

/- THE SECOND FORM. 'bulk': how many values and letters a reading holds, each counted each time it is reached (what is shared counts as often as it is met; a slice's spare places count too). A statement '..UptoSaid' is the law's where the arguments, and the package variables that the reading takes, are together of bulk at most 1048576: NARROWER than '..Said'. Prove '..Said' where nothing that the law and all that it calls make is longer than what came in: it says more and counts as full. Else prove '..UptoSaid'. A law counts once. -/
mutual
def uptoBulk {H : Type} : DataW H → Nat
  | .lit (.string bytes) => bytes.length + 1
  | .lit _ => 1
  | .nil => 1
  | .ptr d => uptoBulk d + 1
  | .slice elems spare => uptoBulkAll elems + uptoBulkAll spare + 1
  | .agg parts => uptoBulkAll parts + 1
  | .iface _ d => uptoBulk d + 1
  | .map entries => uptoBulkEntries entries + 1
  | .held _ => 1
def uptoBulkAll {H : Type} : List (DataW H) → Nat
  | [] => 0
  | d :: r => uptoBulk d + uptoBulkAll r
def uptoBulkEntries {H : Type} : List (Lit × DataW H) → Nat
  | [] => 0
  | x :: r => uptoBulkEntry x + uptoBulkEntries r
def uptoBulkEntry {H : Type} : Lit × DataW H → Nat
  | (.string bytes, d) => bytes.length + uptoBulk d + 1
  | (_, d) => uptoBulk d + 1
 end
def uptoSmall : (H : Type) → List (DataW H) → Bool := fun _ ds => decide (uptoBulkAll ds ≤ 1048576)
def OpenSpec.upto (s : _root_.Go.ChangeSpec) : _root_.Go.OpenSpec := { _root_.Go.OpenSpec.ofChange s with cond := some uptoSmall }

/-- 'aqueductlaw09.ParkQueues', WHERE WHAT IT READS IS OF BULK AT MOST 1048576: true; the input reads as it did. -/
def parkQueuesUptoRow : OpenClaim := { program := "ytljmeemgjbcgeaa", sum := "919e3f374bd9d064ecec722255ed572a0fd2eb2746a0fe907607010071c7537c", func := "aqueduct/aqueductlaw09.ParkQueues", spec := "parkQueues", inPlace := ["maps.clone"], unfollowed := true, recurses := true, plainKeys := false, apart := false, narrowed := true }
def ParkQueuesUptoSaid : Prop := parkQueuesUptoRow.holds Try.pinned (OpenSpec.upto parkQueuesSpec)

/-- 'aqueductlaw09.ParkHolds', WHERE WHAT IT READS IS OF BULK AT MOST 1048576: true; the input reads as it did. -/
def parkHoldsUptoRow : OpenClaim := { program := "ytljmeemgjbcgeaa", sum := "919e3f374bd9d064ecec722255ed572a0fd2eb2746a0fe907607010071c7537c", func := "aqueduct/aqueductlaw09.ParkHolds", spec := "parkHolds", inPlace := ["maps.clone"], unfollowed := true, recurses := true, plainKeys := false, apart := false, narrowed := true }
def ParkHoldsUptoSaid : Prop := parkHoldsUptoRow.holds Try.pinned (OpenSpec.upto parkHoldsSpec)

/-- 'aqueductlaw09.ParkPlays', WHERE WHAT IT READS IS OF BULK AT MOST 1048576: true; the input reads as it did. -/
def parkPlaysUptoRow : OpenClaim := { program := "ytljmeemgjbcgeaa", sum := "919e3f374bd9d064ecec722255ed572a0fd2eb2746a0fe907607010071c7537c", func := "aqueduct/aqueductlaw09.ParkPlays", spec := "parkPlays", inPlace := ["maps.clone"], unfollowed := true, recurses := true, plainKeys := false, apart := false, narrowed := true }
def ParkPlaysUptoSaid : Prop := parkPlaysUptoRow.holds Try.pinned (OpenSpec.upto parkPlaysSpec)

/-- 'aqueductlaw09.ParkOwn', WHERE WHAT IT READS IS OF BULK AT MOST 1048576: true; the input reads as it did. -/
def parkOwnUptoRow : OpenClaim := { program := "ytljmeemgjbcgeaa", sum := "919e3f374bd9d064ecec722255ed572a0fd2eb2746a0fe907607010071c7537c", func := "aqueduct/aqueductlaw09.ParkOwn", spec := "parkOwn", inPlace := ["maps.clone"], unfollowed := true, recurses := true, plainKeys := false, apart := false, narrowed := true }
def ParkOwnUptoSaid : Prop := parkOwnUptoRow.holds Try.pinned (OpenSpec.upto parkOwnSpec)

/-- 'aqueductlaw09.ParkNil', WHERE WHAT IT READS IS OF BULK AT MOST 1048576: true; the input reads as it did. -/
def parkNilUptoRow : OpenClaim := { program := "ytljmeemgjbcgeaa", sum := "919e3f374bd9d064ecec722255ed572a0fd2eb2746a0fe907607010071c7537c", func := "aqueduct/aqueductlaw09.ParkNil", spec := "parkNil", inPlace := ["maps.clone"], unfollowed := true, recurses := true, plainKeys := false, apart := false, narrowed := true }
def ParkNilUptoSaid : Prop := parkNilUptoRow.holds Try.pinned (OpenSpec.upto parkNilSpec)

end Rows
end Go.Proofs.Ytljmeemgjbcgeaa

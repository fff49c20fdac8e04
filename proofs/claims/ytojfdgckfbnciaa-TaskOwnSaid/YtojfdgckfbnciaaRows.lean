/-
  No cell of these rows narrows 'for every input' (looked for: loops, veiled, ifaces, maps, wideKeys, modest, calm, conditions, laid).
  DERIVED. THE GIVEN ROWS OF THIS SEAT. 5 by the template 'for every input the law returns true; each argument reads behind the call as it read before'; 0 by the template 'total and deterministic' (their statements: YtojfdgckfbnciaaTotals.lean).
  GIVEN WITH THE SEED: the statements are not yours to turn. If you find one false, say at which input.
  Laid BY PROGRAM, IN A SANDBOX (cutbox-rows.mjs): the forced cells as the released guide's own fill.sh prints them over the translation 53087b6ee7f4b225… (all of the seat's roots in one cut). By AI agents, Wed Nov 11 2026. No macro, syntax, notation, axiom, sorry.
-/
import Derived.Test.YtojfdgckfbnciaaChecked
import GoSem.Claim
import GoSem.ClaimJoined
import GoSem.ClaimMapViews
import Derived.JoinedTies
import Derived.KernelRfl
namespace Go.Proofs.Ytojfdgckfbnciaa
/- THE CELL 'sum', in the pinned program and in every row, IS THE sha256 OF THE DUMP (.gsa) THAT YtojfdgckfbnciaaProg.lean LOADS. Nothing in Lean hashes anything: it is a label: what it is worth is what the hold of that sum in a sandbox is worth. -/
noncomputable def Try.pinned : Pinned := { name := "ytojfdgckfbnciaa", sum := "53087b6ee7f4b22540409f16a51c048b21123ba9030a237341cdf7b2891593fc", checked := Try.checked }
namespace Rows
def none {H : Type} : Left H := { results := [], args := [] }

/-- 'aqueductlaw08.TaskRounds': WHATEVER THE INPUT: true; the input reads as it did. -/
def taskRoundsSpec : ChangeSpec := { name := "taskRounds", fn := fun _ => fun
  | [d1, d2, d3] => { results := [.lit (.bool true)], args := [d1, d2, d3] }
  | _ => none }
def taskRoundsRow : OpenClaim := { program := "ytojfdgckfbnciaa", sum := "53087b6ee7f4b22540409f16a51c048b21123ba9030a237341cdf7b2891593fc", func := "aqueduct/aqueductlaw08.TaskRounds", spec := "taskRounds", inPlace := ["maps.clone"], unfollowed := true, recurses := true, apart := false }
def TaskRoundsSaid : Prop := taskRoundsRow.holds Try.pinned (OpenSpec.ofChange taskRoundsSpec)

/-- ITS FALSE NEIGHBOUR: 'it returns false'. Refute it at one input. -/
def taskRoundsWrong : ChangeSpec := { name := "taskRounds", fn := fun _ => fun
  | [d1, d2, d3] => { results := [.lit (.bool false)], args := [d1, d2, d3] }
  | _ => none }
def TaskRoundsWrongFalsely : Prop := taskRoundsRow.holds Try.pinned (OpenSpec.ofChange taskRoundsWrong)

/-- 'aqueductlaw08.TaskHolds': WHATEVER THE INPUT: true; the input reads as it did. -/
def taskHoldsSpec : ChangeSpec := { name := "taskHolds", fn := fun _ => fun
  | [d1, d2] => { results := [.lit (.bool true)], args := [d1, d2] }
  | _ => none }
def taskHoldsRow : OpenClaim := { program := "ytojfdgckfbnciaa", sum := "53087b6ee7f4b22540409f16a51c048b21123ba9030a237341cdf7b2891593fc", func := "aqueduct/aqueductlaw08.TaskHolds", spec := "taskHolds", inPlace := ["maps.clone"], unfollowed := true, recurses := true, apart := false }
def TaskHoldsSaid : Prop := taskHoldsRow.holds Try.pinned (OpenSpec.ofChange taskHoldsSpec)

/-- ITS FALSE NEIGHBOUR: 'it returns false'. Refute it at one input. -/
def taskHoldsWrong : ChangeSpec := { name := "taskHolds", fn := fun _ => fun
  | [d1, d2] => { results := [.lit (.bool false)], args := [d1, d2] }
  | _ => none }
def TaskHoldsWrongFalsely : Prop := taskHoldsRow.holds Try.pinned (OpenSpec.ofChange taskHoldsWrong)

/-- 'aqueductlaw08.TaskPlays': WHATEVER THE INPUT: true; the input reads as it did. -/
def taskPlaysSpec : ChangeSpec := { name := "taskPlays", fn := fun _ => fun
  | [d1, d2] => { results := [.lit (.bool true)], args := [d1, d2] }
  | _ => none }
def taskPlaysRow : OpenClaim := { program := "ytojfdgckfbnciaa", sum := "53087b6ee7f4b22540409f16a51c048b21123ba9030a237341cdf7b2891593fc", func := "aqueduct/aqueductlaw08.TaskPlays", spec := "taskPlays", inPlace := ["maps.clone"], unfollowed := true, recurses := true, apart := false }
def TaskPlaysSaid : Prop := taskPlaysRow.holds Try.pinned (OpenSpec.ofChange taskPlaysSpec)

/-- ITS FALSE NEIGHBOUR: 'it returns false'. Refute it at one input. -/
def taskPlaysWrong : ChangeSpec := { name := "taskPlays", fn := fun _ => fun
  | [d1, d2] => { results := [.lit (.bool false)], args := [d1, d2] }
  | _ => none }
def TaskPlaysWrongFalsely : Prop := taskPlaysRow.holds Try.pinned (OpenSpec.ofChange taskPlaysWrong)

/-- 'aqueductlaw08.TaskOwn': WHATEVER THE INPUT: true; the input reads as it did. -/
def taskOwnSpec : ChangeSpec := { name := "taskOwn", fn := fun _ => fun
  | [d1, d2] => { results := [.lit (.bool true)], args := [d1, d2] }
  | _ => none }
def taskOwnRow : OpenClaim := { program := "ytojfdgckfbnciaa", sum := "53087b6ee7f4b22540409f16a51c048b21123ba9030a237341cdf7b2891593fc", func := "aqueduct/aqueductlaw08.TaskOwn", spec := "taskOwn", inPlace := ["maps.clone"], unfollowed := true, recurses := true, apart := false }
def TaskOwnSaid : Prop := taskOwnRow.holds Try.pinned (OpenSpec.ofChange taskOwnSpec)

/-- ITS FALSE NEIGHBOUR: 'it returns false'. Refute it at one input. -/
def taskOwnWrong : ChangeSpec := { name := "taskOwn", fn := fun _ => fun
  | [d1, d2] => { results := [.lit (.bool false)], args := [d1, d2] }
  | _ => none }
def TaskOwnWrongFalsely : Prop := taskOwnRow.holds Try.pinned (OpenSpec.ofChange taskOwnWrong)

/-- 'aqueductlaw08.TaskNil': WHATEVER THE INPUT: true; the input reads as it did. -/
def taskNilSpec : ChangeSpec := { name := "taskNil", fn := fun _ => fun
  | [d] => { results := [.lit (.bool true)], args := [d] }
  | _ => none }
def taskNilRow : OpenClaim := { program := "ytojfdgckfbnciaa", sum := "53087b6ee7f4b22540409f16a51c048b21123ba9030a237341cdf7b2891593fc", func := "aqueduct/aqueductlaw08.TaskNil", spec := "taskNil", inPlace := ["maps.clone"], unfollowed := true, recurses := true, apart := false }
def TaskNilSaid : Prop := taskNilRow.holds Try.pinned (OpenSpec.ofChange taskNilSpec)

/-- ITS FALSE NEIGHBOUR: 'it returns false'. Refute it at one input. -/
def taskNilWrong : ChangeSpec := { name := "taskNil", fn := fun _ => fun
  | [d] => { results := [.lit (.bool false)], args := [d] }
  | _ => none }
def TaskNilWrongFalsely : Prop := taskNilRow.holds Try.pinned (OpenSpec.ofChange taskNilWrong)

/- THE SECOND FORM. 'bulk': how many values and letters a reading holds, each counted each time it is reached (what is shared counts as often as it is met; a slice's spare places count too). A statement '..UptoSaid' is the law's where the arguments, and the package variables that the reading takes, are together of bulk at most 1048576: NARROWER than '..Said'. Prove '..Said' where nothing that the law and all that it calls make is longer than what came in: it says more and counts as full. Else prove '..UptoSaid'. A law counts once. -/
mutual
def uptoBulk {H : Type} : DataW H → Nat
  | .lit (.string bytes) => bytes.length + 1
  | .lit _ => 1
  | .nil => 1
  | .ptr d => uptoBulk d + 1
  | .slice elems spare => uptoBulkAll elems + uptoBulkAll spare + 1
  | .agg parts => uptoBulkAll parts + 1
  | .iface _ d => uptoBulk d + 1
  | .map entries => uptoBulkEntries entries + 1
  | .held _ => 1
def uptoBulkAll {H : Type} : List (DataW H) → Nat
  | [] => 0
  | d :: r => uptoBulk d + uptoBulkAll r
def uptoBulkEntries {H : Type} : List (Lit × DataW H) → Nat
  | [] => 0
  | x :: r => uptoBulkEntry x + uptoBulkEntries r
def uptoBulkEntry {H : Type} : Lit × DataW H → Nat
  | (.string bytes, d) => bytes.length + uptoBulk d + 1
  | (_, d) => uptoBulk d + 1
 end
def uptoSmall : (H : Type) → List (DataW H) → Bool := fun _ ds => decide (uptoBulkAll ds ≤ 1048576)
def OpenSpec.upto (s : _root_.Go.ChangeSpec) : _root_.Go.OpenSpec := { _root_.Go.OpenSpec.ofChange s with cond := some uptoSmall }

/-- 'aqueductlaw08.TaskRounds', WHERE WHAT IT READS IS OF BULK AT MOST 1048576: true; the input reads as it did. -/
def taskRoundsUptoRow : OpenClaim := { program := "ytojfdgckfbnciaa", sum := "53087b6ee7f4b22540409f16a51c048b21123ba9030a237341cdf7b2891593fc", func := "aqueduct/aqueductlaw08.TaskRounds", spec := "taskRounds", inPlace := ["maps.clone"], unfollowed := true, recurses := true, apart := false, narrowed := true }
def TaskRoundsUptoSaid : Prop := taskRoundsUptoRow.holds Try.pinned (OpenSpec.upto taskRoundsSpec)

/-- 'aqueductlaw08.TaskHolds', WHERE WHAT IT READS IS OF BULK AT MOST 1048576: true; the input reads as it did. -/
def taskHoldsUptoRow : OpenClaim := { program := "ytojfdgckfbnciaa", sum := "53087b6ee7f4b22540409f16a51c048b21123ba9030a237341cdf7b2891593fc", func := "aqueduct/aqueductlaw08.TaskHolds", spec := "taskHolds", inPlace := ["maps.clone"], unfollowed := true, recurses := true, apart := false, narrowed := true }
def TaskHoldsUptoSaid : Prop := taskHoldsUptoRow.holds Try.pinned (OpenSpec.upto taskHoldsSpec)

/-- 'aqueductlaw08.TaskPlays', WHERE WHAT IT READS IS OF BULK AT MOST 1048576: true; the input reads as it did. -/
def taskPlaysUptoRow : OpenClaim := { program := "ytojfdgckfbnciaa", sum := "53087b6ee7f4b22540409f16a51c048b21123ba9030a237341cdf7b2891593fc", func := "aqueduct/aqueductlaw08.TaskPlays", spec := "taskPlays", inPlace := ["maps.clone"], unfollowed := true, recurses := true, apart := false, narrowed := true }
def TaskPlaysUptoSaid : Prop := taskPlaysUptoRow.holds Try.pinned (OpenSpec.upto taskPlaysSpec)

/-- 'aqueductlaw08.TaskOwn', WHERE WHAT IT READS IS OF BULK AT MOST 1048576: true; the input reads as it did. -/
def taskOwnUptoRow : OpenClaim := { program := "ytojfdgckfbnciaa", sum := "53087b6ee7f4b22540409f16a51c048b21123ba9030a237341cdf7b2891593fc", func := "aqueduct/aqueductlaw08.TaskOwn", spec := "taskOwn", inPlace := ["maps.clone"], unfollowed := true, recurses := true, apart := false, narrowed := true }
def TaskOwnUptoSaid : Prop := taskOwnUptoRow.holds Try.pinned (OpenSpec.upto taskOwnSpec)

/-- 'aqueductlaw08.TaskNil', WHERE WHAT IT READS IS OF BULK AT MOST 1048576: true; the input reads as it did. -/
def taskNilUptoRow : OpenClaim := { program := "ytojfdgckfbnciaa", sum := "53087b6ee7f4b22540409f16a51c048b21123ba9030a237341cdf7b2891593fc", func := "aqueduct/aqueductlaw08.TaskNil", spec := "taskNil", inPlace := ["maps.clone"], unfollowed := true, recurses := true, apart := false, narrowed := true }
def TaskNilUptoSaid : Prop := taskNilUptoRow.holds Try.pinned (OpenSpec.upto taskNilSpec)

end Rows
end Go.Proofs.Ytojfdgckfbnciaa

/-
  No cell of these rows narrows 'for every input' (looked for: loops, veiled, ifaces, maps, wideKeys, modest, calm, conditions, laid).
  DERIVED. THE GIVEN ROWS OF THIS SEAT. 5 by the template 'for every input the law returns true; each argument reads behind the call as it read before'; 0 by the template 'total and deterministic' (their statements: YtbaagjiailmlhaaTotals.lean).
  GIVEN WITH THE SEED: the statements are not yours to turn. If you find one false, say at which input.
  Laid BY PROGRAM, IN A SANDBOX (cutbox-rows.mjs): the forced cells as the released guide's own fill.sh prints them over the translation c951caebbb2aecc7… (all of the seat's roots in one cut). By AI agents, Wed Nov 11 2026. No macro, syntax, notation, axiom, sorry.
-/
import Derived.Test.YtbaagjiailmlhaaChecked
import GoSem.Claim
import GoSem.ClaimJoined
import GoSem.ClaimMapViews
import Derived.JoinedTies
import Derived.KernelRfl
namespace Go.Proofs.Ytbaagjiailmlhaa
/- THE CELL 'sum', in the pinned program and in every row, IS THE sha256 OF THE DUMP (.gsa) THAT YtbaagjiailmlhaaProg.lean LOADS. Nothing in Lean hashes anything: it is a label: what it is worth is what the hold of that sum in a sandbox is worth. -/
noncomputable def Try.pinned : Pinned := { name := "ytbaagjiailmlhaa", sum := "c951caebbb2aecc7117eddcb5ebe97055c9db1ddbba1259a9a57645370b9ebb2", checked := Try.checked }
namespace Rows
def none {H : Type} : Left H := { results := [], args := [] }

/-- 'aqueductlaw03.TimerFulls': WHATEVER THE INPUT: true; the input reads as it did. -/
def timerFullsSpec : ChangeSpec := { name := "timerFulls", fn := fun _ => fun
  | [d1, d2] => { results := [.lit (.bool true)], args := [d1, d2] }
  | _ => none }
def timerFullsRow : OpenClaim := { program := "ytbaagjiailmlhaa", sum := "c951caebbb2aecc7117eddcb5ebe97055c9db1ddbba1259a9a57645370b9ebb2", func := "aqueduct/aqueductlaw03.TimerFulls", spec := "timerFulls", unfollowed := true, recurses := true, apart := false }
def TimerFullsSaid : Prop := timerFullsRow.holds Try.pinned (OpenSpec.ofChange timerFullsSpec)

/-- ITS FALSE NEIGHBOUR: 'it returns false'. Refute it at one input. -/
def timerFullsWrong : ChangeSpec := { name := "timerFulls", fn := fun _ => fun
  | [d1, d2] => { results := [.lit (.bool false)], args := [d1, d2] }
  | _ => none }
def TimerFullsWrongFalsely : Prop := timerFullsRow.holds Try.pinned (OpenSpec.ofChange timerFullsWrong)

/-- 'aqueductlaw03.TimerResets': WHATEVER THE INPUT: true; the input reads as it did. -/
def timerResetsSpec : ChangeSpec := { name := "timerResets", fn := fun _ => fun
  | [d1, d2] => { results := [.lit (.bool true)], args := [d1, d2] }
  | _ => none }
def timerResetsRow : OpenClaim := { program := "ytbaagjiailmlhaa", sum := "c951caebbb2aecc7117eddcb5ebe97055c9db1ddbba1259a9a57645370b9ebb2", func := "aqueduct/aqueductlaw03.TimerResets", spec := "timerResets", unfollowed := true, recurses := true, apart := false }
def TimerResetsSaid : Prop := timerResetsRow.holds Try.pinned (OpenSpec.ofChange timerResetsSpec)

/-- ITS FALSE NEIGHBOUR: 'it returns false'. Refute it at one input. -/
def timerResetsWrong : ChangeSpec := { name := "timerResets", fn := fun _ => fun
  | [d1, d2] => { results := [.lit (.bool false)], args := [d1, d2] }
  | _ => none }
def TimerResetsWrongFalsely : Prop := timerResetsRow.holds Try.pinned (OpenSpec.ofChange timerResetsWrong)

/-- 'aqueductlaw03.TimerHolds': WHATEVER THE INPUT: true; the input reads as it did. -/
def timerHoldsSpec : ChangeSpec := { name := "timerHolds", fn := fun _ => fun
  | [d1, d2, d3] => { results := [.lit (.bool true)], args := [d1, d2, d3] }
  | _ => none }
def timerHoldsRow : OpenClaim := { program := "ytbaagjiailmlhaa", sum := "c951caebbb2aecc7117eddcb5ebe97055c9db1ddbba1259a9a57645370b9ebb2", func := "aqueduct/aqueductlaw03.TimerHolds", spec := "timerHolds", unfollowed := true, recurses := true, apart := false }
def TimerHoldsSaid : Prop := timerHoldsRow.holds Try.pinned (OpenSpec.ofChange timerHoldsSpec)

/-- ITS FALSE NEIGHBOUR: 'it returns false'. Refute it at one input. -/
def timerHoldsWrong : ChangeSpec := { name := "timerHolds", fn := fun _ => fun
  | [d1, d2, d3] => { results := [.lit (.bool false)], args := [d1, d2, d3] }
  | _ => none }
def TimerHoldsWrongFalsely : Prop := timerHoldsRow.holds Try.pinned (OpenSpec.ofChange timerHoldsWrong)

/-- 'aqueductlaw03.TimerPlays': WHATEVER THE INPUT: true; the input reads as it did. -/
def timerPlaysSpec : ChangeSpec := { name := "timerPlays", fn := fun _ => fun
  | [d] => { results := [.lit (.bool true)], args := [d] }
  | _ => none }
def timerPlaysRow : OpenClaim := { program := "ytbaagjiailmlhaa", sum := "c951caebbb2aecc7117eddcb5ebe97055c9db1ddbba1259a9a57645370b9ebb2", func := "aqueduct/aqueductlaw03.TimerPlays", spec := "timerPlays", unfollowed := true, recurses := true, apart := false }
def TimerPlaysSaid : Prop := timerPlaysRow.holds Try.pinned (OpenSpec.ofChange timerPlaysSpec)

/-- ITS FALSE NEIGHBOUR: 'it returns false'. Refute it at one input. -/
def timerPlaysWrong : ChangeSpec := { name := "timerPlays", fn := fun _ => fun
  | [d] => { results := [.lit (.bool false)], args := [d] }
  | _ => none }
def TimerPlaysWrongFalsely : Prop := timerPlaysRow.holds Try.pinned (OpenSpec.ofChange timerPlaysWrong)

/-- 'aqueductlaw03.TimerNil': WHATEVER THE INPUT: true; the input reads as it did. -/
def timerNilSpec : ChangeSpec := { name := "timerNil", fn := fun _ => fun
  | [d1, d2, d3] => { results := [.lit (.bool true)], args := [d1, d2, d3] }
  | _ => none }
def timerNilRow : OpenClaim := { program := "ytbaagjiailmlhaa", sum := "c951caebbb2aecc7117eddcb5ebe97055c9db1ddbba1259a9a57645370b9ebb2", func := "aqueduct/aqueductlaw03.TimerNil", spec := "timerNil", unfollowed := true, recurses := true, apart := false }
def TimerNilSaid : Prop := timerNilRow.holds Try.pinned (OpenSpec.ofChange timerNilSpec)

/-- ITS FALSE NEIGHBOUR: 'it returns false'. Refute it at one input. -/
def timerNilWrong : ChangeSpec := { name := "timerNil", fn := fun _ => fun
  | [d1, d2, d3] => { results := [.lit (.bool false)], args := [d1, d2, d3] }
  | _ => none }
def TimerNilWrongFalsely : Prop := timerNilRow.holds Try.pinned (OpenSpec.ofChange timerNilWrong)

/- THE SECOND FORM. 'bulk': how many values and letters a reading holds, each counted each time it is reached (what is shared counts as often as it is met; a slice's spare places count too). A statement '..UptoSaid' is the law's where the arguments, and the package variables that the reading takes, are together of bulk at most 1048576: NARROWER than '..Said'. Prove '..Said' where nothing that the law and all that it calls make is longer than what came in: it says more and counts as full. Else prove '..UptoSaid'. A law counts once. -/
mutual
def uptoBulk {H : Type} : DataW H → Nat
  | .lit (.string bytes) => bytes.length + 1
  | .lit _ => 1
  | .nil => 1
  | .ptr d => uptoBulk d + 1
  | .slice elems spare => uptoBulkAll elems + uptoBulkAll spare + 1
  | .agg parts => uptoBulkAll parts + 1
  | .iface _ d => uptoBulk d + 1
  | .map entries => uptoBulkEntries entries + 1
  | .held _ => 1
def uptoBulkAll {H : Type} : List (DataW H) → Nat
  | [] => 0
  | d :: r => uptoBulk d + uptoBulkAll r
def uptoBulkEntries {H : Type} : List (Lit × DataW H) → Nat
  | [] => 0
  | x :: r => uptoBulkEntry x + uptoBulkEntries r
def uptoBulkEntry {H : Type} : Lit × DataW H → Nat
  | (.string bytes, d) => bytes.length + uptoBulk d + 1
  | (_, d) => uptoBulk d + 1
 end
def uptoSmall : (H : Type) → List (DataW H) → Bool := fun _ ds => decide (uptoBulkAll ds ≤ 1048576)
def OpenSpec.upto (s : _root_.Go.ChangeSpec) : _root_.Go.OpenSpec := { _root_.Go.OpenSpec.ofChange s with cond := some uptoSmall }

/-- 'aqueductlaw03.TimerFulls', WHERE WHAT IT READS IS OF BULK AT MOST 1048576: true; the input reads as it did. -/
def timerFullsUptoRow : OpenClaim := { program := "ytbaagjiailmlhaa", sum := "c951caebbb2aecc7117eddcb5ebe97055c9db1ddbba1259a9a57645370b9ebb2", func := "aqueduct/aqueductlaw03.TimerFulls", spec := "timerFulls", unfollowed := true, recurses := true, apart := false, narrowed := true }
def TimerFullsUptoSaid : Prop := timerFullsUptoRow.holds Try.pinned (OpenSpec.upto timerFullsSpec)

/-- 'aqueductlaw03.TimerResets', WHERE WHAT IT READS IS OF BULK AT MOST 1048576: true; the input reads as it did. -/
def timerResetsUptoRow : OpenClaim := { program := "ytbaagjiailmlhaa", sum := "c951caebbb2aecc7117eddcb5ebe97055c9db1ddbba1259a9a57645370b9ebb2", func := "aqueduct/aqueductlaw03.TimerResets", spec := "timerResets", unfollowed := true, recurses := true, apart := false, narrowed := true }
def TimerResetsUptoSaid : Prop := timerResetsUptoRow.holds Try.pinned (OpenSpec.upto timerResetsSpec)

/-- 'aqueductlaw03.TimerHolds', WHERE WHAT IT READS IS OF BULK AT MOST 1048576: true; the input reads as it did. -/
def timerHoldsUptoRow : OpenClaim := { program := "ytbaagjiailmlhaa", sum := "c951caebbb2aecc7117eddcb5ebe97055c9db1ddbba1259a9a57645370b9ebb2", func := "aqueduct/aqueductlaw03.TimerHolds", spec := "timerHolds", unfollowed := true, recurses := true, apart := false, narrowed := true }
def TimerHoldsUptoSaid : Prop := timerHoldsUptoRow.holds Try.pinned (OpenSpec.upto timerHoldsSpec)

/-- 'aqueductlaw03.TimerPlays', WHERE WHAT IT READS IS OF BULK AT MOST 1048576: true; the input reads as it did. -/
def timerPlaysUptoRow : OpenClaim := { program := "ytbaagjiailmlhaa", sum := "c951caebbb2aecc7117eddcb5ebe97055c9db1ddbba1259a9a57645370b9ebb2", func := "aqueduct/aqueductlaw03.TimerPlays", spec := "timerPlays", unfollowed := true, recurses := true, apart := false, narrowed := true }
def TimerPlaysUptoSaid : Prop := timerPlaysUptoRow.holds Try.pinned (OpenSpec.upto timerPlaysSpec)

/-- 'aqueductlaw03.TimerNil', WHERE WHAT IT READS IS OF BULK AT MOST 1048576: true; the input reads as it did. -/
def timerNilUptoRow : OpenClaim := { program := "ytbaagjiailmlhaa", sum := "c951caebbb2aecc7117eddcb5ebe97055c9db1ddbba1259a9a57645370b9ebb2", func := "aqueduct/aqueductlaw03.TimerNil", spec := "timerNil", unfollowed := true, recurses := true, apart := false, narrowed := true }
def TimerNilUptoSaid : Prop := timerNilUptoRow.holds Try.pinned (OpenSpec.upto timerNilSpec)

end Rows
end Go.Proofs.Ytbaagjiailmlhaa

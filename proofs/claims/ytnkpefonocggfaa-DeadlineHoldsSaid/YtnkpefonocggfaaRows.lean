/-
  No cell of these rows narrows 'for every input' (looked for: loops, veiled, ifaces, maps, wideKeys, modest, calm, conditions, laid).
  DERIVED. THE GIVEN ROWS OF THIS SEAT. 5 by the template 'for every input the law returns true; each argument reads behind the call as it read before'; 0 by the template 'total and deterministic' (their statements: YtnkpefonocggfaaTotals.lean).
  GIVEN WITH THE SEED: the statements are not yours to turn. If you find one false, say at which input.
  Laid BY PROGRAM, IN A SANDBOX (cutbox-rows.mjs): the forced cells as the released guide's own fill.sh prints them over the translation 0daa5c44e8a7c943… (all of the seat's roots in one cut). By AI agents, Wed Nov 11 2026. No macro, syntax, notation, axiom, sorry.
-/
import Derived.Test.YtnkpefonocggfaaChecked
import GoSem.Claim
import GoSem.ClaimJoined
import GoSem.ClaimMapViews
import Derived.JoinedTies
import Derived.KernelRfl
namespace Go.Proofs.Ytnkpefonocggfaa
/- THE CELL 'sum', in the pinned program and in every row, IS THE sha256 OF THE DUMP (.gsa) THAT YtnkpefonocggfaaProg.lean LOADS. Nothing in Lean hashes anything: it is a label: what it is worth is what the hold of that sum in a sandbox is worth. -/
noncomputable def Try.pinned : Pinned := { name := "ytnkpefonocggfaa", sum := "0daa5c44e8a7c94358c3a4a93d6a9f47bdb254f77fbc03a9e00606e0c255c4c8", checked := Try.checked }
namespace Rows
def none {H : Type} : Left H := { results := [], args := [] }

/-- 'aqueductlaw10.DeadlineAgain': WHATEVER THE INPUT: true; the input reads as it did. -/
def deadlineAgainSpec : ChangeSpec := { name := "deadlineAgain", fn := fun _ => fun
  | [d1, d2, d3] => { results := [.lit (.bool true)], args := [d1, d2, d3] }
  | _ => none }
def deadlineAgainRow : OpenClaim := { program := "ytnkpefonocggfaa", sum := "0daa5c44e8a7c94358c3a4a93d6a9f47bdb254f77fbc03a9e00606e0c255c4c8", func := "aqueduct/aqueductlaw10.DeadlineAgain", spec := "deadlineAgain", unfollowed := true, recurses := true, apart := false }
def DeadlineAgainSaid : Prop := deadlineAgainRow.holds Try.pinned (OpenSpec.ofChange deadlineAgainSpec)

/-- ITS FALSE NEIGHBOUR: 'it returns false'. Refute it at one input. -/
def deadlineAgainWrong : ChangeSpec := { name := "deadlineAgain", fn := fun _ => fun
  | [d1, d2, d3] => { results := [.lit (.bool false)], args := [d1, d2, d3] }
  | _ => none }
def DeadlineAgainWrongFalsely : Prop := deadlineAgainRow.holds Try.pinned (OpenSpec.ofChange deadlineAgainWrong)

/-- 'aqueductlaw10.DeadlineAll': WHATEVER THE INPUT: true; the input reads as it did. -/
def deadlineAllSpec : ChangeSpec := { name := "deadlineAll", fn := fun _ => fun
  | [d1, d2, d3] => { results := [.lit (.bool true)], args := [d1, d2, d3] }
  | _ => none }
def deadlineAllRow : OpenClaim := { program := "ytnkpefonocggfaa", sum := "0daa5c44e8a7c94358c3a4a93d6a9f47bdb254f77fbc03a9e00606e0c255c4c8", func := "aqueduct/aqueductlaw10.DeadlineAll", spec := "deadlineAll", unfollowed := true, recurses := true, apart := false }
def DeadlineAllSaid : Prop := deadlineAllRow.holds Try.pinned (OpenSpec.ofChange deadlineAllSpec)

/-- ITS FALSE NEIGHBOUR: 'it returns false'. Refute it at one input. -/
def deadlineAllWrong : ChangeSpec := { name := "deadlineAll", fn := fun _ => fun
  | [d1, d2, d3] => { results := [.lit (.bool false)], args := [d1, d2, d3] }
  | _ => none }
def DeadlineAllWrongFalsely : Prop := deadlineAllRow.holds Try.pinned (OpenSpec.ofChange deadlineAllWrong)

/-- 'aqueductlaw10.DeadlinePlays': WHATEVER THE INPUT: true; the input reads as it did. -/
def deadlinePlaysSpec : ChangeSpec := { name := "deadlinePlays", fn := fun _ => fun
  | [d1, d2] => { results := [.lit (.bool true)], args := [d1, d2] }
  | _ => none }
def deadlinePlaysRow : OpenClaim := { program := "ytnkpefonocggfaa", sum := "0daa5c44e8a7c94358c3a4a93d6a9f47bdb254f77fbc03a9e00606e0c255c4c8", func := "aqueduct/aqueductlaw10.DeadlinePlays", spec := "deadlinePlays", unfollowed := true, recurses := true, apart := false }
def DeadlinePlaysSaid : Prop := deadlinePlaysRow.holds Try.pinned (OpenSpec.ofChange deadlinePlaysSpec)

/-- ITS FALSE NEIGHBOUR: 'it returns false'. Refute it at one input. -/
def deadlinePlaysWrong : ChangeSpec := { name := "deadlinePlays", fn := fun _ => fun
  | [d1, d2] => { results := [.lit (.bool false)], args := [d1, d2] }
  | _ => none }
def DeadlinePlaysWrongFalsely : Prop := deadlinePlaysRow.holds Try.pinned (OpenSpec.ofChange deadlinePlaysWrong)

/-- 'aqueductlaw10.DeadlineNil': WHATEVER THE INPUT: true; the input reads as it did. -/
def deadlineNilSpec : ChangeSpec := { name := "deadlineNil", fn := fun _ => fun
  | [d1, d2] => { results := [.lit (.bool true)], args := [d1, d2] }
  | _ => none }
def deadlineNilRow : OpenClaim := { program := "ytnkpefonocggfaa", sum := "0daa5c44e8a7c94358c3a4a93d6a9f47bdb254f77fbc03a9e00606e0c255c4c8", func := "aqueduct/aqueductlaw10.DeadlineNil", spec := "deadlineNil", unfollowed := true, recurses := true, apart := false }
def DeadlineNilSaid : Prop := deadlineNilRow.holds Try.pinned (OpenSpec.ofChange deadlineNilSpec)

/-- ITS FALSE NEIGHBOUR: 'it returns false'. Refute it at one input. -/
def deadlineNilWrong : ChangeSpec := { name := "deadlineNil", fn := fun _ => fun
  | [d1, d2] => { results := [.lit (.bool false)], args := [d1, d2] }
  | _ => none }
def DeadlineNilWrongFalsely : Prop := deadlineNilRow.holds Try.pinned (OpenSpec.ofChange deadlineNilWrong)

/-- 'aqueductlaw10.DeadlineHolds': WHATEVER THE INPUT: true; the input reads as it did. -/
def deadlineHoldsSpec : ChangeSpec := { name := "deadlineHolds", fn := fun _ => fun
  | [d1, d2, d3, d4] => { results := [.lit (.bool true)], args := [d1, d2, d3, d4] }
  | _ => none }
def deadlineHoldsRow : OpenClaim := { program := "ytnkpefonocggfaa", sum := "0daa5c44e8a7c94358c3a4a93d6a9f47bdb254f77fbc03a9e00606e0c255c4c8", func := "aqueduct/aqueductlaw10.DeadlineHolds", spec := "deadlineHolds", unfollowed := true, recurses := true, apart := false }
def DeadlineHoldsSaid : Prop := deadlineHoldsRow.holds Try.pinned (OpenSpec.ofChange deadlineHoldsSpec)

/-- ITS FALSE NEIGHBOUR: 'it returns false'. Refute it at one input. -/
def deadlineHoldsWrong : ChangeSpec := { name := "deadlineHolds", fn := fun _ => fun
  | [d1, d2, d3, d4] => { results := [.lit (.bool false)], args := [d1, d2, d3, d4] }
  | _ => none }
def DeadlineHoldsWrongFalsely : Prop := deadlineHoldsRow.holds Try.pinned (OpenSpec.ofChange deadlineHoldsWrong)

/- THE SECOND FORM. 'bulk': how many values and letters a reading holds, each counted each time it is reached (what is shared counts as often as it is met; a slice's spare places count too). A statement '..UptoSaid' is the law's where the arguments, and the package variables that the reading takes, are together of bulk at most 1048576: NARROWER than '..Said'. Prove '..Said' where nothing that the law and all that it calls make is longer than what came in: it says more and counts as full. Else prove '..UptoSaid'. A law counts once. -/
mutual
def uptoBulk {H : Type} : DataW H → Nat
  | .lit (.string bytes) => bytes.length + 1
  | .lit _ => 1
  | .nil => 1
  | .ptr d => uptoBulk d + 1
  | .slice elems spare => uptoBulkAll elems + uptoBulkAll spare + 1
  | .agg parts => uptoBulkAll parts + 1
  | .iface _ d => uptoBulk d + 1
  | .map entries => uptoBulkEntries entries + 1
  | .held _ => 1
def uptoBulkAll {H : Type} : List (DataW H) → Nat
  | [] => 0
  | d :: r => uptoBulk d + uptoBulkAll r
def uptoBulkEntries {H : Type} : List (Lit × DataW H) → Nat
  | [] => 0
  | x :: r => uptoBulkEntry x + uptoBulkEntries r
def uptoBulkEntry {H : Type} : Lit × DataW H → Nat
  | (.string bytes, d) => bytes.length + uptoBulk d + 1
  | (_, d) => uptoBulk d + 1
 end
def uptoSmall : (H : Type) → List (DataW H) → Bool := fun _ ds => decide (uptoBulkAll ds ≤ 1048576)
def OpenSpec.upto (s : _root_.Go.ChangeSpec) : _root_.Go.OpenSpec := { _root_.Go.OpenSpec.ofChange s with cond := some uptoSmall }

/-- 'aqueductlaw10.DeadlineAgain', WHERE WHAT IT READS IS OF BULK AT MOST 1048576: true; the input reads as it did. -/
def deadlineAgainUptoRow : OpenClaim := { program := "ytnkpefonocggfaa", sum := "0daa5c44e8a7c94358c3a4a93d6a9f47bdb254f77fbc03a9e00606e0c255c4c8", func := "aqueduct/aqueductlaw10.DeadlineAgain", spec := "deadlineAgain", unfollowed := true, recurses := true, apart := false, narrowed := true }
def DeadlineAgainUptoSaid : Prop := deadlineAgainUptoRow.holds Try.pinned (OpenSpec.upto deadlineAgainSpec)

/-- 'aqueductlaw10.DeadlineAll', WHERE WHAT IT READS IS OF BULK AT MOST 1048576: true; the input reads as it did. -/
def deadlineAllUptoRow : OpenClaim := { program := "ytnkpefonocggfaa", sum := "0daa5c44e8a7c94358c3a4a93d6a9f47bdb254f77fbc03a9e00606e0c255c4c8", func := "aqueduct/aqueductlaw10.DeadlineAll", spec := "deadlineAll", unfollowed := true, recurses := true, apart := false, narrowed := true }
def DeadlineAllUptoSaid : Prop := deadlineAllUptoRow.holds Try.pinned (OpenSpec.upto deadlineAllSpec)

/-- 'aqueductlaw10.DeadlinePlays', WHERE WHAT IT READS IS OF BULK AT MOST 1048576: true; the input reads as it did. -/
def deadlinePlaysUptoRow : OpenClaim := { program := "ytnkpefonocggfaa", sum := "0daa5c44e8a7c94358c3a4a93d6a9f47bdb254f77fbc03a9e00606e0c255c4c8", func := "aqueduct/aqueductlaw10.DeadlinePlays", spec := "deadlinePlays", unfollowed := true, recurses := true, apart := false, narrowed := true }
def DeadlinePlaysUptoSaid : Prop := deadlinePlaysUptoRow.holds Try.pinned (OpenSpec.upto deadlinePlaysSpec)

/-- 'aqueductlaw10.DeadlineNil', WHERE WHAT IT READS IS OF BULK AT MOST 1048576: true; the input reads as it did. -/
def deadlineNilUptoRow : OpenClaim := { program := "ytnkpefonocggfaa", sum := "0daa5c44e8a7c94358c3a4a93d6a9f47bdb254f77fbc03a9e00606e0c255c4c8", func := "aqueduct/aqueductlaw10.DeadlineNil", spec := "deadlineNil", unfollowed := true, recurses := true, apart := false, narrowed := true }
def DeadlineNilUptoSaid : Prop := deadlineNilUptoRow.holds Try.pinned (OpenSpec.upto deadlineNilSpec)

/-- 'aqueductlaw10.DeadlineHolds', WHERE WHAT IT READS IS OF BULK AT MOST 1048576: true; the input reads as it did. -/
def deadlineHoldsUptoRow : OpenClaim := { program := "ytnkpefonocggfaa", sum := "0daa5c44e8a7c94358c3a4a93d6a9f47bdb254f77fbc03a9e00606e0c255c4c8", func := "aqueduct/aqueductlaw10.DeadlineHolds", spec := "deadlineHolds", unfollowed := true, recurses := true, apart := false, narrowed := true }
def DeadlineHoldsUptoSaid : Prop := deadlineHoldsUptoRow.holds Try.pinned (OpenSpec.upto deadlineHoldsSpec)

end Rows
end Go.Proofs.Ytnkpefonocggfaa

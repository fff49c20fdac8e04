/-
  No cell of these rows narrows 'for every input' (looked for: loops, veiled, ifaces, maps, wideKeys, modest, calm, conditions, laid).
  DERIVED. THE GIVEN ROWS OF THIS SEAT. 4 by the template 'for every input the law returns true; each argument reads behind the call as it read before'; 0 by the template 'total and deterministic' (their statements: YtiokpmgbabpikaaTotals.lean).
  GIVEN WITH THE SEED: the statements are not yours to turn. If you find one false, say at which input.
  Laid BY PROGRAM, IN A SANDBOX (cutbox-rows.mjs): the forced cells as the released guide's own fill.sh prints them over the translation 1f487a94d93e75e3… (all of the seat's roots in one cut). By AI agents, Wed Nov 11 2026. No macro, syntax, notation, axiom, sorry.
-/
import Derived.Test.YtiokpmgbabpikaaChecked
import GoSem.Claim
import GoSem.ClaimJoined
import GoSem.ClaimMapViews
import Derived.JoinedTies
import Derived.KernelRfl
namespace Go.Proofs.Ytiokpmgbabpikaa
/- THE CELL 'sum', in the pinned program and in every row, IS THE sha256 OF THE DUMP (.gsa) THAT YtiokpmgbabpikaaProg.lean LOADS. Nothing in Lean hashes anything: it is a label: what it is worth is what the hold of that sum in a sandbox is worth. -/
noncomputable def Try.pinned : Pinned := { name := "ytiokpmgbabpikaa", sum := "1f487a94d93e75e3ef91b152b3c3775a6a14e64303273e9f24dd33d162e26139", checked := Try.checked }
namespace Rows
def none {H : Type} : Left H := { results := [], args := [] }

/-- 'aqueductlaw48.BalanceScores': WHATEVER THE INPUT: true; the input reads as it did. -/
def balanceScoresSpec : ChangeSpec := { name := "balanceScores", fn := fun _ => fun
  | [d1, d2] => { results := [.lit (.bool true)], args := [d1, d2] }
  | _ => none }
def balanceScoresRow : OpenClaim := { program := "ytiokpmgbabpikaa", sum := "1f487a94d93e75e3ef91b152b3c3775a6a14e64303273e9f24dd33d162e26139", func := "aqueduct/aqueductlaw48.BalanceScores", spec := "balanceScores", unfollowed := true, recurses := true, apart := false }
def BalanceScoresSaid : Prop := balanceScoresRow.holds Try.pinned (OpenSpec.ofChange balanceScoresSpec)

/-- ITS FALSE NEIGHBOUR: 'it returns false'. Refute it at one input. -/
def balanceScoresWrong : ChangeSpec := { name := "balanceScores", fn := fun _ => fun
  | [d1, d2] => { results := [.lit (.bool false)], args := [d1, d2] }
  | _ => none }
def BalanceScoresWrongFalsely : Prop := balanceScoresRow.holds Try.pinned (OpenSpec.ofChange balanceScoresWrong)

/-- 'aqueductlaw48.BalanceHolds': WHATEVER THE INPUT: true; the input reads as it did. -/
def balanceHoldsSpec : ChangeSpec := { name := "balanceHolds", fn := fun _ => fun
  | [d1, d2, d3, d4] => { results := [.lit (.bool true)], args := [d1, d2, d3, d4] }
  | _ => none }
def balanceHoldsRow : OpenClaim := { program := "ytiokpmgbabpikaa", sum := "1f487a94d93e75e3ef91b152b3c3775a6a14e64303273e9f24dd33d162e26139", func := "aqueduct/aqueductlaw48.BalanceHolds", spec := "balanceHolds", unfollowed := true, recurses := true, apart := false }
def BalanceHoldsSaid : Prop := balanceHoldsRow.holds Try.pinned (OpenSpec.ofChange balanceHoldsSpec)

/-- ITS FALSE NEIGHBOUR: 'it returns false'. Refute it at one input. -/
def balanceHoldsWrong : ChangeSpec := { name := "balanceHolds", fn := fun _ => fun
  | [d1, d2, d3, d4] => { results := [.lit (.bool false)], args := [d1, d2, d3, d4] }
  | _ => none }
def BalanceHoldsWrongFalsely : Prop := balanceHoldsRow.holds Try.pinned (OpenSpec.ofChange balanceHoldsWrong)

/-- 'aqueductlaw48.BalancePlays': WHATEVER THE INPUT: true; the input reads as it did. -/
def balancePlaysSpec : ChangeSpec := { name := "balancePlays", fn := fun _ => fun
  | [d1, d2, d3, d4, d5] => { results := [.lit (.bool true)], args := [d1, d2, d3, d4, d5] }
  | _ => none }
def balancePlaysRow : OpenClaim := { program := "ytiokpmgbabpikaa", sum := "1f487a94d93e75e3ef91b152b3c3775a6a14e64303273e9f24dd33d162e26139", func := "aqueduct/aqueductlaw48.BalancePlays", spec := "balancePlays", inPlace := ["maps.clone"], unfollowed := true, recurses := true, apart := false }
def BalancePlaysSaid : Prop := balancePlaysRow.holds Try.pinned (OpenSpec.ofChange balancePlaysSpec)

/-- ITS FALSE NEIGHBOUR: 'it returns false'. Refute it at one input. -/
def balancePlaysWrong : ChangeSpec := { name := "balancePlays", fn := fun _ => fun
  | [d1, d2, d3, d4, d5] => { results := [.lit (.bool false)], args := [d1, d2, d3, d4, d5] }
  | _ => none }
def BalancePlaysWrongFalsely : Prop := balancePlaysRow.holds Try.pinned (OpenSpec.ofChange balancePlaysWrong)

/-- 'aqueductlaw48.BalanceNone': WHATEVER THE INPUT: true; the input reads as it did. -/
def balanceNoneSpec : ChangeSpec := { name := "balanceNone", fn := fun _ => fun
  | [d] => { results := [.lit (.bool true)], args := [d] }
  | _ => none }
def balanceNoneRow : OpenClaim := { program := "ytiokpmgbabpikaa", sum := "1f487a94d93e75e3ef91b152b3c3775a6a14e64303273e9f24dd33d162e26139", func := "aqueduct/aqueductlaw48.BalanceNone", spec := "balanceNone", inPlace := ["maps.clone"], unfollowed := true, recurses := true, apart := false }
def BalanceNoneSaid : Prop := balanceNoneRow.holds Try.pinned (OpenSpec.ofChange balanceNoneSpec)

/-- ITS FALSE NEIGHBOUR: 'it returns false'. Refute it at one input. -/
def balanceNoneWrong : ChangeSpec := { name := "balanceNone", fn := fun _ => fun
  | [d] => { results := [.lit (.bool false)], args := [d] }
  | _ => none }
def BalanceNoneWrongFalsely : Prop := balanceNoneRow.holds Try.pinned (OpenSpec.ofChange balanceNoneWrong)

/- THE SECOND FORM. 'bulk': how many values and letters a reading holds, each counted each time it is reached (what is shared counts as often as it is met; a slice's spare places count too). A statement '..UptoSaid' is the law's where the arguments, and the package variables that the reading takes, are together of bulk at most 1048576: NARROWER than '..Said'. Prove '..Said' where nothing that the law and all that it calls make is longer than what came in: it says more and counts as full. Else prove '..UptoSaid'. A law counts once. -/
mutual
def uptoBulk {H : Type} : DataW H → Nat
  | .lit (.string bytes) => bytes.length + 1
  | .lit _ => 1
  | .nil => 1
  | .ptr d => uptoBulk d + 1
  | .slice elems spare => uptoBulkAll elems + uptoBulkAll spare + 1
  | .agg parts => uptoBulkAll parts + 1
  | .iface _ d => uptoBulk d + 1
  | .map entries => uptoBulkEntries entries + 1
  | .held _ => 1
def uptoBulkAll {H : Type} : List (DataW H) → Nat
  | [] => 0
  | d :: r => uptoBulk d + uptoBulkAll r
def uptoBulkEntries {H : Type} : List (Lit × DataW H) → Nat
  | [] => 0
  | x :: r => uptoBulkEntry x + uptoBulkEntries r
def uptoBulkEntry {H : Type} : Lit × DataW H → Nat
  | (.string bytes, d) => bytes.length + uptoBulk d + 1
  | (_, d) => uptoBulk d + 1
 end
def uptoSmall : (H : Type) → List (DataW H) → Bool := fun _ ds => decide (uptoBulkAll ds ≤ 1048576)
def OpenSpec.upto (s : _root_.Go.ChangeSpec) : _root_.Go.OpenSpec := { _root_.Go.OpenSpec.ofChange s with cond := some uptoSmall }

/-- 'aqueductlaw48.BalanceScores', WHERE WHAT IT READS IS OF BULK AT MOST 1048576: true; the input reads as it did. -/
def balanceScoresUptoRow : OpenClaim := { program := "ytiokpmgbabpikaa", sum := "1f487a94d93e75e3ef91b152b3c3775a6a14e64303273e9f24dd33d162e26139", func := "aqueduct/aqueductlaw48.BalanceScores", spec := "balanceScores", unfollowed := true, recurses := true, apart := false, narrowed := true }
def BalanceScoresUptoSaid : Prop := balanceScoresUptoRow.holds Try.pinned (OpenSpec.upto balanceScoresSpec)

/-- 'aqueductlaw48.BalanceHolds', WHERE WHAT IT READS IS OF BULK AT MOST 1048576: true; the input reads as it did. -/
def balanceHoldsUptoRow : OpenClaim := { program := "ytiokpmgbabpikaa", sum := "1f487a94d93e75e3ef91b152b3c3775a6a14e64303273e9f24dd33d162e26139", func := "aqueduct/aqueductlaw48.BalanceHolds", spec := "balanceHolds", unfollowed := true, recurses := true, apart := false, narrowed := true }
def BalanceHoldsUptoSaid : Prop := balanceHoldsUptoRow.holds Try.pinned (OpenSpec.upto balanceHoldsSpec)

/-- 'aqueductlaw48.BalancePlays', WHERE WHAT IT READS IS OF BULK AT MOST 1048576: true; the input reads as it did. -/
def balancePlaysUptoRow : OpenClaim := { program := "ytiokpmgbabpikaa", sum := "1f487a94d93e75e3ef91b152b3c3775a6a14e64303273e9f24dd33d162e26139", func := "aqueduct/aqueductlaw48.BalancePlays", spec := "balancePlays", inPlace := ["maps.clone"], unfollowed := true, recurses := true, apart := false, narrowed := true }
def BalancePlaysUptoSaid : Prop := balancePlaysUptoRow.holds Try.pinned (OpenSpec.upto balancePlaysSpec)

/-- 'aqueductlaw48.BalanceNone', WHERE WHAT IT READS IS OF BULK AT MOST 1048576: true; the input reads as it did. -/
def balanceNoneUptoRow : OpenClaim := { program := "ytiokpmgbabpikaa", sum := "1f487a94d93e75e3ef91b152b3c3775a6a14e64303273e9f24dd33d162e26139", func := "aqueduct/aqueductlaw48.BalanceNone", spec := "balanceNone", inPlace := ["maps.clone"], unfollowed := true, recurses := true, apart := false, narrowed := true }
def BalanceNoneUptoSaid : Prop := balanceNoneUptoRow.holds Try.pinned (OpenSpec.upto balanceNoneSpec)

end Rows
end Go.Proofs.Ytiokpmgbabpikaa

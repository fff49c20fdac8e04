/-
  No cell of these rows narrows 'for every input' (looked for: loops, veiled, ifaces, maps, wideKeys, modest, calm, conditions, laid).
  DERIVED. THE GIVEN ROWS OF THIS SEAT. 5 by the template 'for every input the law returns true; each argument reads behind the call as it read before'; 0 by the template 'total and deterministic' (their statements: YtbkdebnkoidicaaGreatTotals.lean).
  GIVEN WITH THE SEED: the statements are not yours to turn. If you find one false, say at which input.
  Laid BY PROGRAM, IN A SANDBOX (cutbox-rows.mjs): the forced cells as the released guide's own fill.sh prints them over the translation ec7bc8b4d21efeb9… (all of the seat's roots in one cut). By AI agents, Wed Nov 11 2026. No macro, syntax, notation, axiom, sorry.
-/
import Derived.Test.YtbkdebnkoidicaaGreatChecked
import GoSem.Claim
import GoSem.ClaimJoined
import GoSem.ClaimMapViews
import Derived.JoinedTies
import Derived.KernelRfl
namespace Go.Proofs.YtbkdebnkoidicaaGreat
/- THE CELL 'sum', in the pinned program and in every row, IS THE sha256 OF THE DUMP (.gsa) THAT YtbkdebnkoidicaaGreatProg.lean LOADS. Nothing in Lean hashes anything: it is a label: what it is worth is what the hold of that sum in a sandbox is worth. -/
noncomputable def Tryz.pinned : Pinned := { name := "ytbkdebnkoidicaagreat", sum := "ec7bc8b4d21efeb9913ff816c4efc1d14e489d0a073c30d9abddfa35ea634c49", checked := Tryz.checked }
namespace Rows
def none {H : Type} : Left H := { results := [], args := [] }

/-- 'aqueductlaw11.PollerFulls': WHATEVER THE INPUT: true; the input reads as it did. -/
def pollerFullsSpec : ChangeSpec := { name := "pollerFulls", fn := fun _ => fun
  | [d1, d2] => { results := [.lit (.bool true)], args := [d1, d2] }
  | _ => none }
def pollerFullsRow : OpenClaim := { program := "ytbkdebnkoidicaagreat", sum := "ec7bc8b4d21efeb9913ff816c4efc1d14e489d0a073c30d9abddfa35ea634c49", func := "aqueduct/aqueductlaw11.PollerFulls", spec := "pollerFulls", inPlace := ["maps.clone"], unfollowed := true, recurses := true, plainKeys := false, apart := false }
def PollerFullsSaid : Prop := pollerFullsRow.holds Tryz.pinned (OpenSpec.ofChange pollerFullsSpec)

/-- ITS FALSE NEIGHBOUR: 'it returns false'. Refute it at one input. -/
def pollerFullsWrong : ChangeSpec := { name := "pollerFulls", fn := fun _ => fun
  | [d1, d2] => { results := [.lit (.bool false)], args := [d1, d2] }
  | _ => none }
def PollerFullsWrongFalsely : Prop := pollerFullsRow.holds Tryz.pinned (OpenSpec.ofChange pollerFullsWrong)

/-- 'aqueductlaw11.PollerWakes': WHATEVER THE INPUT: true; the input reads as it did. -/
def pollerWakesSpec : ChangeSpec := { name := "pollerWakes", fn := fun _ => fun
  | [d1, d2, d3, d4] => { results := [.lit (.bool true)], args := [d1, d2, d3, d4] }
  | _ => none }
def pollerWakesRow : OpenClaim := { program := "ytbkdebnkoidicaagreat", sum := "ec7bc8b4d21efeb9913ff816c4efc1d14e489d0a073c30d9abddfa35ea634c49", func := "aqueduct/aqueductlaw11.PollerWakes", spec := "pollerWakes", inPlace := ["maps.clone"], unfollowed := true, recurses := true, plainKeys := false, apart := false }
def PollerWakesSaid : Prop := pollerWakesRow.holds Tryz.pinned (OpenSpec.ofChange pollerWakesSpec)

/-- ITS FALSE NEIGHBOUR: 'it returns false'. Refute it at one input. -/
def pollerWakesWrong : ChangeSpec := { name := "pollerWakes", fn := fun _ => fun
  | [d1, d2, d3, d4] => { results := [.lit (.bool false)], args := [d1, d2, d3, d4] }
  | _ => none }
def PollerWakesWrongFalsely : Prop := pollerWakesRow.holds Tryz.pinned (OpenSpec.ofChange pollerWakesWrong)

/-- 'aqueductlaw11.PollerHolds': WHATEVER THE INPUT: true; the input reads as it did. -/
def pollerHoldsSpec : ChangeSpec := { name := "pollerHolds", fn := fun _ => fun
  | [d1, d2, d3] => { results := [.lit (.bool true)], args := [d1, d2, d3] }
  | _ => none }
def pollerHoldsRow : OpenClaim := { program := "ytbkdebnkoidicaagreat", sum := "ec7bc8b4d21efeb9913ff816c4efc1d14e489d0a073c30d9abddfa35ea634c49", func := "aqueduct/aqueductlaw11.PollerHolds", spec := "pollerHolds", inPlace := ["maps.clone"], unfollowed := true, recurses := true, plainKeys := false, apart := false }
def PollerHoldsSaid : Prop := pollerHoldsRow.holds Tryz.pinned (OpenSpec.ofChange pollerHoldsSpec)

/-- ITS FALSE NEIGHBOUR: 'it returns false'. Refute it at one input. -/
def pollerHoldsWrong : ChangeSpec := { name := "pollerHolds", fn := fun _ => fun
  | [d1, d2, d3] => { results := [.lit (.bool false)], args := [d1, d2, d3] }
  | _ => none }
def PollerHoldsWrongFalsely : Prop := pollerHoldsRow.holds Tryz.pinned (OpenSpec.ofChange pollerHoldsWrong)

/-- 'aqueductlaw11.PollerPlays': WHATEVER THE INPUT: true; the input reads as it did. -/
def pollerPlaysSpec : ChangeSpec := { name := "pollerPlays", fn := fun _ => fun
  | [d1, d2, d3] => { results := [.lit (.bool true)], args := [d1, d2, d3] }
  | _ => none }
def pollerPlaysRow : OpenClaim := { program := "ytbkdebnkoidicaagreat", sum := "ec7bc8b4d21efeb9913ff816c4efc1d14e489d0a073c30d9abddfa35ea634c49", func := "aqueduct/aqueductlaw11.PollerPlays", spec := "pollerPlays", inPlace := ["maps.clone"], unfollowed := true, recurses := true, plainKeys := false, apart := false }
def PollerPlaysSaid : Prop := pollerPlaysRow.holds Tryz.pinned (OpenSpec.ofChange pollerPlaysSpec)

/-- ITS FALSE NEIGHBOUR: 'it returns false'. Refute it at one input. -/
def pollerPlaysWrong : ChangeSpec := { name := "pollerPlays", fn := fun _ => fun
  | [d1, d2, d3] => { results := [.lit (.bool false)], args := [d1, d2, d3] }
  | _ => none }
def PollerPlaysWrongFalsely : Prop := pollerPlaysRow.holds Tryz.pinned (OpenSpec.ofChange pollerPlaysWrong)

/-- 'aqueductlaw11.PollerNil': WHATEVER THE INPUT: true; the input reads as it did. -/
def pollerNilSpec : ChangeSpec := { name := "pollerNil", fn := fun _ => fun
  | [d1, d2, d3, d4] => { results := [.lit (.bool true)], args := [d1, d2, d3, d4] }
  | _ => none }
def pollerNilRow : OpenClaim := { program := "ytbkdebnkoidicaagreat", sum := "ec7bc8b4d21efeb9913ff816c4efc1d14e489d0a073c30d9abddfa35ea634c49", func := "aqueduct/aqueductlaw11.PollerNil", spec := "pollerNil", inPlace := ["maps.clone"], unfollowed := true, recurses := true, plainKeys := false, apart := false }
def PollerNilSaid : Prop := pollerNilRow.holds Tryz.pinned (OpenSpec.ofChange pollerNilSpec)

/-- ITS FALSE NEIGHBOUR: 'it returns false'. Refute it at one input. -/
def pollerNilWrong : ChangeSpec := { name := "pollerNil", fn := fun _ => fun
  | [d1, d2, d3, d4] => { results := [.lit (.bool false)], args := [d1, d2, d3, d4] }
  | _ => none }
def PollerNilWrongFalsely : Prop := pollerNilRow.holds Tryz.pinned (OpenSpec.ofChange pollerNilWrong)

/- THE SECOND FORM. 'bulk': how many values and letters a reading holds, each counted each time it is reached (what is shared counts as often as it is met; a slice's spare places count too). A statement '..UptoSaid' is the law's where the arguments, and the package variables that the reading takes, are together of bulk at most 1048576: NARROWER than '..Said'. Prove '..Said' where nothing that the law and all that it calls make is longer than what came in: it says more and counts as full. Else prove '..UptoSaid'. A law counts once. -/
mutual
def uptoBulk {H : Type} : DataW H → Nat
  | .lit (.string bytes) => bytes.length + 1
  | .lit _ => 1
  | .nil => 1
  | .ptr d => uptoBulk d + 1
  | .slice elems spare => uptoBulkAll elems + uptoBulkAll spare + 1
  | .agg parts => uptoBulkAll parts + 1
  | .iface _ d => uptoBulk d + 1
  | .map entries => uptoBulkEntries entries + 1
  | .held _ => 1
def uptoBulkAll {H : Type} : List (DataW H) → Nat
  | [] => 0
  | d :: r => uptoBulk d + uptoBulkAll r
def uptoBulkEntries {H : Type} : List (Lit × DataW H) → Nat
  | [] => 0
  | x :: r => uptoBulkEntry x + uptoBulkEntries r
def uptoBulkEntry {H : Type} : Lit × DataW H → Nat
  | (.string bytes, d) => bytes.length + uptoBulk d + 1
  | (_, d) => uptoBulk d + 1
 end
def uptoSmall : (H : Type) → List (DataW H) → Bool := fun _ ds => decide (uptoBulkAll ds ≤ 1048576)
def OpenSpec.upto (s : _root_.Go.ChangeSpec) : _root_.Go.OpenSpec := { _root_.Go.OpenSpec.ofChange s with cond := some uptoSmall }

/-- 'aqueductlaw11.PollerFulls', WHERE WHAT IT READS IS OF BULK AT MOST 1048576: true; the input reads as it did. -/
def pollerFullsUptoRow : OpenClaim := { program := "ytbkdebnkoidicaagreat", sum := "ec7bc8b4d21efeb9913ff816c4efc1d14e489d0a073c30d9abddfa35ea634c49", func := "aqueduct/aqueductlaw11.PollerFulls", spec := "pollerFulls", inPlace := ["maps.clone"], unfollowed := true, recurses := true, plainKeys := false, apart := false, narrowed := true }
def PollerFullsUptoSaid : Prop := pollerFullsUptoRow.holds Tryz.pinned (OpenSpec.upto pollerFullsSpec)

/-- 'aqueductlaw11.PollerWakes', WHERE WHAT IT READS IS OF BULK AT MOST 1048576: true; the input reads as it did. -/
def pollerWakesUptoRow : OpenClaim := { program := "ytbkdebnkoidicaagreat", sum := "ec7bc8b4d21efeb9913ff816c4efc1d14e489d0a073c30d9abddfa35ea634c49", func := "aqueduct/aqueductlaw11.PollerWakes", spec := "pollerWakes", inPlace := ["maps.clone"], unfollowed := true, recurses := true, plainKeys := false, apart := false, narrowed := true }
def PollerWakesUptoSaid : Prop := pollerWakesUptoRow.holds Tryz.pinned (OpenSpec.upto pollerWakesSpec)

/-- 'aqueductlaw11.PollerHolds', WHERE WHAT IT READS IS OF BULK AT MOST 1048576: true; the input reads as it did. -/
def pollerHoldsUptoRow : OpenClaim := { program := "ytbkdebnkoidicaagreat", sum := "ec7bc8b4d21efeb9913ff816c4efc1d14e489d0a073c30d9abddfa35ea634c49", func := "aqueduct/aqueductlaw11.PollerHolds", spec := "pollerHolds", inPlace := ["maps.clone"], unfollowed := true, recurses := true, plainKeys := false, apart := false, narrowed := true }
def PollerHoldsUptoSaid : Prop := pollerHoldsUptoRow.holds Tryz.pinned (OpenSpec.upto pollerHoldsSpec)

/-- 'aqueductlaw11.PollerPlays', WHERE WHAT IT READS IS OF BULK AT MOST 1048576: true; the input reads as it did. -/
def pollerPlaysUptoRow : OpenClaim := { program := "ytbkdebnkoidicaagreat", sum := "ec7bc8b4d21efeb9913ff816c4efc1d14e489d0a073c30d9abddfa35ea634c49", func := "aqueduct/aqueductlaw11.PollerPlays", spec := "pollerPlays", inPlace := ["maps.clone"], unfollowed := true, recurses := true, plainKeys := false, apart := false, narrowed := true }
def PollerPlaysUptoSaid : Prop := pollerPlaysUptoRow.holds Tryz.pinned (OpenSpec.upto pollerPlaysSpec)

/-- 'aqueductlaw11.PollerNil', WHERE WHAT IT READS IS OF BULK AT MOST 1048576: true; the input reads as it did. -/
def pollerNilUptoRow : OpenClaim := { program := "ytbkdebnkoidicaagreat", sum := "ec7bc8b4d21efeb9913ff816c4efc1d14e489d0a073c30d9abddfa35ea634c49", func := "aqueduct/aqueductlaw11.PollerNil", spec := "pollerNil", inPlace := ["maps.clone"], unfollowed := true, recurses := true, plainKeys := false, apart := false, narrowed := true }
def PollerNilUptoSaid : Prop := pollerNilUptoRow.holds Tryz.pinned (OpenSpec.upto pollerNilSpec)

end Rows
end Go.Proofs.YtbkdebnkoidicaaGreat

/-
  No cell of these rows narrows 'for every input' (looked for: loops, veiled, ifaces, maps, wideKeys, modest, calm, conditions, laid).
  DERIVED. THE GIVEN ROWS OF THIS SEAT. 5 by the template 'for every input the law returns true; each argument reads behind the call as it read before'; 0 by the template 'total and deterministic' (their statements: YtiomimjjdbijmaaTotals.lean).
  GIVEN WITH THE SEED: the statements are not yours to turn. If you find one false, say at which input.
  Laid BY PROGRAM, IN A SANDBOX (cutbox-rows.mjs): the forced cells as the released guide's own fill.sh prints them over the translation b0d7e1654cbc6edf… (all of the seat's roots in one cut). By AI agents, Wed Nov 11 2026. No macro, syntax, notation, axiom, sorry.
-/
import Derived.Test.YtiomimjjdbijmaaChecked
import GoSem.Claim
import GoSem.ClaimJoined
import GoSem.ClaimMapViews
import Derived.JoinedTies
import Derived.KernelRfl
namespace Go.Proofs.Ytiomimjjdbijmaa
/- THE CELL 'sum', in the pinned program and in every row, IS THE sha256 OF THE DUMP (.gsa) THAT YtiomimjjdbijmaaProg.lean LOADS. Nothing in Lean hashes anything: it is a label: what it is worth is what the hold of that sum in a sandbox is worth. -/
noncomputable def Try.pinned : Pinned := { name := "ytiomimjjdbijmaa", sum := "b0d7e1654cbc6edfb704b1f6c8cba53c61563af2c55ded221f35eb6902a96144", checked := Try.checked }
namespace Rows
def none {H : Type} : Left H := { results := [], args := [] }

/-- 'aqueductlaw17.RegistryFull': WHATEVER THE INPUT: true; the input reads as it did. -/
def registryFullSpec : ChangeSpec := { name := "registryFull", fn := fun _ => fun
  | [d1, d2, d3] => { results := [.lit (.bool true)], args := [d1, d2, d3] }
  | _ => none }
def registryFullRow : OpenClaim := { program := "ytiomimjjdbijmaa", sum := "b0d7e1654cbc6edfb704b1f6c8cba53c61563af2c55ded221f35eb6902a96144", func := "aqueduct/aqueductlaw17.RegistryFull", spec := "registryFull", inPlace := ["maps.clone", "internal/bytealg.abigen_runtime_cmpstring"], unfollowed := true, recurses := true, plainKeys := false, apart := false }
def RegistryFullSaid : Prop := registryFullRow.holds Try.pinned (OpenSpec.ofChange registryFullSpec)

/-- ITS FALSE NEIGHBOUR: 'it returns false'. Refute it at one input. -/
def registryFullWrong : ChangeSpec := { name := "registryFull", fn := fun _ => fun
  | [d1, d2, d3] => { results := [.lit (.bool false)], args := [d1, d2, d3] }
  | _ => none }
def RegistryFullWrongFalsely : Prop := registryFullRow.holds Try.pinned (OpenSpec.ofChange registryFullWrong)

/-- 'aqueductlaw17.RegistryHolds': WHATEVER THE INPUT: true; the input reads as it did. -/
def registryHoldsSpec : ChangeSpec := { name := "registryHolds", fn := fun _ => fun
  | [d1, d2] => { results := [.lit (.bool true)], args := [d1, d2] }
  | _ => none }
def registryHoldsRow : OpenClaim := { program := "ytiomimjjdbijmaa", sum := "b0d7e1654cbc6edfb704b1f6c8cba53c61563af2c55ded221f35eb6902a96144", func := "aqueduct/aqueductlaw17.RegistryHolds", spec := "registryHolds", inPlace := ["maps.clone", "internal/bytealg.abigen_runtime_cmpstring"], unfollowed := true, recurses := true, plainKeys := false, apart := false }
def RegistryHoldsSaid : Prop := registryHoldsRow.holds Try.pinned (OpenSpec.ofChange registryHoldsSpec)

/-- ITS FALSE NEIGHBOUR: 'it returns false'. Refute it at one input. -/
def registryHoldsWrong : ChangeSpec := { name := "registryHolds", fn := fun _ => fun
  | [d1, d2] => { results := [.lit (.bool false)], args := [d1, d2] }
  | _ => none }
def RegistryHoldsWrongFalsely : Prop := registryHoldsRow.holds Try.pinned (OpenSpec.ofChange registryHoldsWrong)

/-- 'aqueductlaw17.RegistryPlays': WHATEVER THE INPUT: true; the input reads as it did. -/
def registryPlaysSpec : ChangeSpec := { name := "registryPlays", fn := fun _ => fun
  | [d] => { results := [.lit (.bool true)], args := [d] }
  | _ => none }
def registryPlaysRow : OpenClaim := { program := "ytiomimjjdbijmaa", sum := "b0d7e1654cbc6edfb704b1f6c8cba53c61563af2c55ded221f35eb6902a96144", func := "aqueduct/aqueductlaw17.RegistryPlays", spec := "registryPlays", inPlace := ["maps.clone", "internal/bytealg.abigen_runtime_cmpstring"], unfollowed := true, recurses := true, plainKeys := false, apart := false }
def RegistryPlaysSaid : Prop := registryPlaysRow.holds Try.pinned (OpenSpec.ofChange registryPlaysSpec)

/-- ITS FALSE NEIGHBOUR: 'it returns false'. Refute it at one input. -/
def registryPlaysWrong : ChangeSpec := { name := "registryPlays", fn := fun _ => fun
  | [d] => { results := [.lit (.bool false)], args := [d] }
  | _ => none }
def RegistryPlaysWrongFalsely : Prop := registryPlaysRow.holds Try.pinned (OpenSpec.ofChange registryPlaysWrong)

/-- 'aqueductlaw17.RegistryIterates': WHATEVER THE INPUT: true; the input reads as it did. -/
def registryIteratesSpec : ChangeSpec := { name := "registryIterates", fn := fun _ => fun
  | [d1, d2] => { results := [.lit (.bool true)], args := [d1, d2] }
  | _ => none }
def registryIteratesRow : OpenClaim := { program := "ytiomimjjdbijmaa", sum := "b0d7e1654cbc6edfb704b1f6c8cba53c61563af2c55ded221f35eb6902a96144", func := "aqueduct/aqueductlaw17.RegistryIterates", spec := "registryIterates", inPlace := ["maps.clone", "internal/bytealg.abigen_runtime_cmpstring"], unfollowed := true, recurses := true, plainKeys := false, apart := false }
def RegistryIteratesSaid : Prop := registryIteratesRow.holds Try.pinned (OpenSpec.ofChange registryIteratesSpec)

/-- ITS FALSE NEIGHBOUR: 'it returns false'. Refute it at one input. -/
def registryIteratesWrong : ChangeSpec := { name := "registryIterates", fn := fun _ => fun
  | [d1, d2] => { results := [.lit (.bool false)], args := [d1, d2] }
  | _ => none }
def RegistryIteratesWrongFalsely : Prop := registryIteratesRow.holds Try.pinned (OpenSpec.ofChange registryIteratesWrong)

/-- 'aqueductlaw17.RegistryNone': WHATEVER THE INPUT: true; the input reads as it did. -/
def registryNoneSpec : ChangeSpec := { name := "registryNone", fn := fun _ => fun
  | [d1, d2] => { results := [.lit (.bool true)], args := [d1, d2] }
  | _ => none }
def registryNoneRow : OpenClaim := { program := "ytiomimjjdbijmaa", sum := "b0d7e1654cbc6edfb704b1f6c8cba53c61563af2c55ded221f35eb6902a96144", func := "aqueduct/aqueductlaw17.RegistryNone", spec := "registryNone", inPlace := ["maps.clone", "internal/bytealg.abigen_runtime_cmpstring"], unfollowed := true, recurses := true, plainKeys := false, apart := false }
def RegistryNoneSaid : Prop := registryNoneRow.holds Try.pinned (OpenSpec.ofChange registryNoneSpec)

/-- ITS FALSE NEIGHBOUR: 'it returns false'. Refute it at one input. -/
def registryNoneWrong : ChangeSpec := { name := "registryNone", fn := fun _ => fun
  | [d1, d2] => { results := [.lit (.bool false)], args := [d1, d2] }
  | _ => none }
def RegistryNoneWrongFalsely : Prop := registryNoneRow.holds Try.pinned (OpenSpec.ofChange registryNoneWrong)

/- THE SECOND FORM. 'bulk': how many values and letters a reading holds, each counted each time it is reached (what is shared counts as often as it is met; a slice's spare places count too). A statement '..UptoSaid' is the law's where the arguments, and the package variables that the reading takes, are together of bulk at most 1048576: NARROWER than '..Said'. Prove '..Said' where nothing that the law and all that it calls make is longer than what came in: it says more and counts as full. Else prove '..UptoSaid'. A law counts once. -/
mutual
def uptoBulk {H : Type} : DataW H → Nat
  | .lit (.string bytes) => bytes.length + 1
  | .lit _ => 1
  | .nil => 1
  | .ptr d => uptoBulk d + 1
  | .slice elems spare => uptoBulkAll elems + uptoBulkAll spare + 1
  | .agg parts => uptoBulkAll parts + 1
  | .iface _ d => uptoBulk d + 1
  | .map entries => uptoBulkEntries entries + 1
  | .held _ => 1
def uptoBulkAll {H : Type} : List (DataW H) → Nat
  | [] => 0
  | d :: r => uptoBulk d + uptoBulkAll r
def uptoBulkEntries {H : Type} : List (Lit × DataW H) → Nat
  | [] => 0
  | x :: r => uptoBulkEntry x + uptoBulkEntries r
def uptoBulkEntry {H : Type} : Lit × DataW H → Nat
  | (.string bytes, d) => bytes.length + uptoBulk d + 1
  | (_, d) => uptoBulk d + 1
 end
def uptoSmall : (H : Type) → List (DataW H) → Bool := fun _ ds => decide (uptoBulkAll ds ≤ 1048576)
def OpenSpec.upto (s : _root_.Go.ChangeSpec) : _root_.Go.OpenSpec := { _root_.Go.OpenSpec.ofChange s with cond := some uptoSmall }

/-- 'aqueductlaw17.RegistryFull', WHERE WHAT IT READS IS OF BULK AT MOST 1048576: true; the input reads as it did. -/
def registryFullUptoRow : OpenClaim := { program := "ytiomimjjdbijmaa", sum := "b0d7e1654cbc6edfb704b1f6c8cba53c61563af2c55ded221f35eb6902a96144", func := "aqueduct/aqueductlaw17.RegistryFull", spec := "registryFull", inPlace := ["maps.clone", "internal/bytealg.abigen_runtime_cmpstring"], unfollowed := true, recurses := true, plainKeys := false, apart := false, narrowed := true }
def RegistryFullUptoSaid : Prop := registryFullUptoRow.holds Try.pinned (OpenSpec.upto registryFullSpec)

/-- 'aqueductlaw17.RegistryHolds', WHERE WHAT IT READS IS OF BULK AT MOST 1048576: true; the input reads as it did. -/
def registryHoldsUptoRow : OpenClaim := { program := "ytiomimjjdbijmaa", sum := "b0d7e1654cbc6edfb704b1f6c8cba53c61563af2c55ded221f35eb6902a96144", func := "aqueduct/aqueductlaw17.RegistryHolds", spec := "registryHolds", inPlace := ["maps.clone", "internal/bytealg.abigen_runtime_cmpstring"], unfollowed := true, recurses := true, plainKeys := false, apart := false, narrowed := true }
def RegistryHoldsUptoSaid : Prop := registryHoldsUptoRow.holds Try.pinned (OpenSpec.upto registryHoldsSpec)

/-- 'aqueductlaw17.RegistryPlays', WHERE WHAT IT READS IS OF BULK AT MOST 1048576: true; the input reads as it did. -/
def registryPlaysUptoRow : OpenClaim := { program := "ytiomimjjdbijmaa", sum := "b0d7e1654cbc6edfb704b1f6c8cba53c61563af2c55ded221f35eb6902a96144", func := "aqueduct/aqueductlaw17.RegistryPlays", spec := "registryPlays", inPlace := ["maps.clone", "internal/bytealg.abigen_runtime_cmpstring"], unfollowed := true, recurses := true, plainKeys := false, apart := false, narrowed := true }
def RegistryPlaysUptoSaid : Prop := registryPlaysUptoRow.holds Try.pinned (OpenSpec.upto registryPlaysSpec)

/-- 'aqueductlaw17.RegistryIterates', WHERE WHAT IT READS IS OF BULK AT MOST 1048576: true; the input reads as it did. -/
def registryIteratesUptoRow : OpenClaim := { program := "ytiomimjjdbijmaa", sum := "b0d7e1654cbc6edfb704b1f6c8cba53c61563af2c55ded221f35eb6902a96144", func := "aqueduct/aqueductlaw17.RegistryIterates", spec := "registryIterates", inPlace := ["maps.clone", "internal/bytealg.abigen_runtime_cmpstring"], unfollowed := true, recurses := true, plainKeys := false, apart := false, narrowed := true }
def RegistryIteratesUptoSaid : Prop := registryIteratesUptoRow.holds Try.pinned (OpenSpec.upto registryIteratesSpec)

/-- 'aqueductlaw17.RegistryNone', WHERE WHAT IT READS IS OF BULK AT MOST 1048576: true; the input reads as it did. -/
def registryNoneUptoRow : OpenClaim := { program := "ytiomimjjdbijmaa", sum := "b0d7e1654cbc6edfb704b1f6c8cba53c61563af2c55ded221f35eb6902a96144", func := "aqueduct/aqueductlaw17.RegistryNone", spec := "registryNone", inPlace := ["maps.clone", "internal/bytealg.abigen_runtime_cmpstring"], unfollowed := true, recurses := true, plainKeys := false, apart := false, narrowed := true }
def RegistryNoneUptoSaid : Prop := registryNoneUptoRow.holds Try.pinned (OpenSpec.upto registryNoneSpec)

end Rows
end Go.Proofs.Ytiomimjjdbijmaa

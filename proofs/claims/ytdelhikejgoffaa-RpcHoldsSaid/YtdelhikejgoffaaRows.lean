/-
  No cell of these rows narrows 'for every input' (looked for: loops, veiled, ifaces, maps, wideKeys, modest, calm, conditions, laid).
  DERIVED. THE GIVEN ROWS OF THIS SEAT. 3 by the template 'for every input the law returns true; each argument reads behind the call as it read before'; 0 by the template 'total and deterministic' (their statements: YtdelhikejgoffaaTotals.lean).
  GIVEN WITH THE SEED: the statements are not yours to turn. If you find one false, say at which input.
  Laid BY PROGRAM, IN A SANDBOX (cutbox-rows.mjs): the forced cells as the released guide's own fill.sh prints them over the translation 7a9de3f623187e10… (all of the seat's roots in one cut). By AI agents, Wed Nov 11 2026. No macro, syntax, notation, axiom, sorry.
-/
import Derived.Test.YtdelhikejgoffaaChecked
import GoSem.Claim
import GoSem.ClaimJoined
import GoSem.ClaimMapViews
import Derived.JoinedTies
import Derived.KernelRfl
namespace Go.Proofs.Ytdelhikejgoffaa
/- THE CELL 'sum', in the pinned program and in every row, IS THE sha256 OF THE DUMP (.gsa) THAT YtdelhikejgoffaaProg.lean LOADS. Nothing in Lean hashes anything: it is a label: what it is worth is what the hold of that sum in a sandbox is worth. -/
noncomputable def Try.pinned : Pinned := { name := "ytdelhikejgoffaa", sum := "7a9de3f623187e10a6b644edf51b0b7012a1e8e7e9bec760b34ddfa519d2c83b", checked := Try.checked }
namespace Rows
def none {H : Type} : Left H := { results := [], args := [] }

/-- 'aqueductlaw45.RpcFulls': WHATEVER THE INPUT: true; the input reads as it did. -/
def rpcFullsSpec : ChangeSpec := { name := "rpcFulls", fn := fun _ => fun
  | [d] => { results := [.lit (.bool true)], args := [d] }
  | _ => none }
def rpcFullsRow : OpenClaim := { program := "ytdelhikejgoffaa", sum := "7a9de3f623187e10a6b644edf51b0b7012a1e8e7e9bec760b34ddfa519d2c83b", func := "aqueduct/aqueductlaw45.RpcFulls", spec := "rpcFulls", inPlace := ["internal/bytealg.MakeNoZero"], unfollowed := true, recurses := true, apart := false }
def RpcFullsSaid : Prop := rpcFullsRow.holds Try.pinned (OpenSpec.ofChange rpcFullsSpec)

/-- ITS FALSE NEIGHBOUR: 'it returns false'. Refute it at one input. -/
def rpcFullsWrong : ChangeSpec := { name := "rpcFulls", fn := fun _ => fun
  | [d] => { results := [.lit (.bool false)], args := [d] }
  | _ => none }
def RpcFullsWrongFalsely : Prop := rpcFullsRow.holds Try.pinned (OpenSpec.ofChange rpcFullsWrong)

/-- 'aqueductlaw45.RpcHolds': WHATEVER THE INPUT: true; the input reads as it did. -/
def rpcHoldsSpec : ChangeSpec := { name := "rpcHolds", fn := fun _ => fun
  | [d] => { results := [.lit (.bool true)], args := [d] }
  | _ => none }
def rpcHoldsRow : OpenClaim := { program := "ytdelhikejgoffaa", sum := "7a9de3f623187e10a6b644edf51b0b7012a1e8e7e9bec760b34ddfa519d2c83b", func := "aqueduct/aqueductlaw45.RpcHolds", spec := "rpcHolds", inPlace := ["internal/bytealg.MakeNoZero"], unfollowed := true, recurses := true, apart := false }
def RpcHoldsSaid : Prop := rpcHoldsRow.holds Try.pinned (OpenSpec.ofChange rpcHoldsSpec)

/-- ITS FALSE NEIGHBOUR: 'it returns false'. Refute it at one input. -/
def rpcHoldsWrong : ChangeSpec := { name := "rpcHolds", fn := fun _ => fun
  | [d] => { results := [.lit (.bool false)], args := [d] }
  | _ => none }
def RpcHoldsWrongFalsely : Prop := rpcHoldsRow.holds Try.pinned (OpenSpec.ofChange rpcHoldsWrong)

/-- 'aqueductlaw45.RpcNone': WHATEVER THE INPUT: true; the input reads as it did. -/
def rpcNoneSpec : ChangeSpec := { name := "rpcNone", fn := fun _ => fun
  | [d] => { results := [.lit (.bool true)], args := [d] }
  | _ => none }
def rpcNoneRow : OpenClaim := { program := "ytdelhikejgoffaa", sum := "7a9de3f623187e10a6b644edf51b0b7012a1e8e7e9bec760b34ddfa519d2c83b", func := "aqueduct/aqueductlaw45.RpcNone", spec := "rpcNone", inPlace := ["internal/bytealg.MakeNoZero"], unfollowed := true, recurses := true, apart := false }
def RpcNoneSaid : Prop := rpcNoneRow.holds Try.pinned (OpenSpec.ofChange rpcNoneSpec)

/-- ITS FALSE NEIGHBOUR: 'it returns false'. Refute it at one input. -/
def rpcNoneWrong : ChangeSpec := { name := "rpcNone", fn := fun _ => fun
  | [d] => { results := [.lit (.bool false)], args := [d] }
  | _ => none }
def RpcNoneWrongFalsely : Prop := rpcNoneRow.holds Try.pinned (OpenSpec.ofChange rpcNoneWrong)

/- THE SECOND FORM. 'bulk': how many values and letters a reading holds, each counted each time it is reached (what is shared counts as often as it is met; a slice's spare places count too). A statement '..UptoSaid' is the law's where the arguments, and the package variables that the reading takes, are together of bulk at most 1048576: NARROWER than '..Said'. Prove '..Said' where nothing that the law and all that it calls make is longer than what came in: it says more and counts as full. Else prove '..UptoSaid'. A law counts once. -/
mutual
def uptoBulk {H : Type} : DataW H → Nat
  | .lit (.string bytes) => bytes.length + 1
  | .lit _ => 1
  | .nil => 1
  | .ptr d => uptoBulk d + 1
  | .slice elems spare => uptoBulkAll elems + uptoBulkAll spare + 1
  | .agg parts => uptoBulkAll parts + 1
  | .iface _ d => uptoBulk d + 1
  | .map entries => uptoBulkEntries entries + 1
  | .held _ => 1
def uptoBulkAll {H : Type} : List (DataW H) → Nat
  | [] => 0
  | d :: r => uptoBulk d + uptoBulkAll r
def uptoBulkEntries {H : Type} : List (Lit × DataW H) → Nat
  | [] => 0
  | x :: r => uptoBulkEntry x + uptoBulkEntries r
def uptoBulkEntry {H : Type} : Lit × DataW H → Nat
  | (.string bytes, d) => bytes.length + uptoBulk d + 1
  | (_, d) => uptoBulk d + 1
 end
def uptoSmall : (H : Type) → List (DataW H) → Bool := fun _ ds => decide (uptoBulkAll ds ≤ 1048576)
def OpenSpec.upto (s : _root_.Go.ChangeSpec) : _root_.Go.OpenSpec := { _root_.Go.OpenSpec.ofChange s with cond := some uptoSmall }

/-- 'aqueductlaw45.RpcFulls', WHERE WHAT IT READS IS OF BULK AT MOST 1048576: true; the input reads as it did. -/
def rpcFullsUptoRow : OpenClaim := { program := "ytdelhikejgoffaa", sum := "7a9de3f623187e10a6b644edf51b0b7012a1e8e7e9bec760b34ddfa519d2c83b", func := "aqueduct/aqueductlaw45.RpcFulls", spec := "rpcFulls", inPlace := ["internal/bytealg.MakeNoZero"], unfollowed := true, recurses := true, apart := false, narrowed := true }
def RpcFullsUptoSaid : Prop := rpcFullsUptoRow.holds Try.pinned (OpenSpec.upto rpcFullsSpec)

/-- 'aqueductlaw45.RpcHolds', WHERE WHAT IT READS IS OF BULK AT MOST 1048576: true; the input reads as it did. -/
def rpcHoldsUptoRow : OpenClaim := { program := "ytdelhikejgoffaa", sum := "7a9de3f623187e10a6b644edf51b0b7012a1e8e7e9bec760b34ddfa519d2c83b", func := "aqueduct/aqueductlaw45.RpcHolds", spec := "rpcHolds", inPlace := ["internal/bytealg.MakeNoZero"], unfollowed := true, recurses := true, apart := false, narrowed := true }
def RpcHoldsUptoSaid : Prop := rpcHoldsUptoRow.holds Try.pinned (OpenSpec.upto rpcHoldsSpec)

/-- 'aqueductlaw45.RpcNone', WHERE WHAT IT READS IS OF BULK AT MOST 1048576: true; the input reads as it did. -/
def rpcNoneUptoRow : OpenClaim := { program := "ytdelhikejgoffaa", sum := "7a9de3f623187e10a6b644edf51b0b7012a1e8e7e9bec760b34ddfa519d2c83b", func := "aqueduct/aqueductlaw45.RpcNone", spec := "rpcNone", inPlace := ["internal/bytealg.MakeNoZero"], unfollowed := true, recurses := true, apart := false, narrowed := true }
def RpcNoneUptoSaid : Prop := rpcNoneUptoRow.holds Try.pinned (OpenSpec.upto rpcNoneSpec)

end Rows
end Go.Proofs.Ytdelhikejgoffaa

/-
  No cell of these rows narrows 'for every input' (looked for: loops, veiled, ifaces, maps, wideKeys, modest, calm, conditions, laid).
  DERIVED. THE GIVEN ROWS OF THIS SEAT. 4 by the template 'for every input the law returns true; each argument reads behind the call as it read before'; 0 by the template 'total and deterministic' (their statements: YtelmlkdibcdebaaGreatTotals.lean).
  GIVEN WITH THE SEED: the statements are not yours to turn. If you find one false, say at which input.
  Laid BY PROGRAM, IN A SANDBOX (cutbox-rows.mjs): the forced cells as the released guide's own fill.sh prints them over the translation b4af12a4ca61f5d8… (all of the seat's roots in one cut). By AI agents, Wed Nov 11 2026. No macro, syntax, notation, axiom, sorry.
-/
import Derived.Test.YtelmlkdibcdebaaGreatChecked
import GoSem.Claim
import GoSem.ClaimJoined
import GoSem.ClaimMapViews
import Derived.JoinedTies
import Derived.KernelRfl
namespace Go.Proofs.YtelmlkdibcdebaaGreat
/- THE CELL 'sum', in the pinned program and in every row, IS THE sha256 OF THE DUMP (.gsa) THAT YtelmlkdibcdebaaGreatProg.lean LOADS. Nothing in Lean hashes anything: it is a label: what it is worth is what the hold of that sum in a sandbox is worth. -/
noncomputable def Tryz.pinned : Pinned := { name := "ytelmlkdibcdebaagreat", sum := "b4af12a4ca61f5d8b065c4336d77860fe80f3c49f1b834607e6136561e02e5f5", checked := Tryz.checked }
namespace Rows
def none {H : Type} : Left H := { results := [], args := [] }

/-- 'aqueductlaw49.ProxyStarts': WHATEVER THE INPUT: true; the input reads as it did. -/
def proxyStartsSpec : ChangeSpec := { name := "proxyStarts", fn := fun _ => fun
  | [d] => { results := [.lit (.bool true)], args := [d] }
  | _ => none }
def proxyStartsRow : OpenClaim := { program := "ytelmlkdibcdebaagreat", sum := "b4af12a4ca61f5d8b065c4336d77860fe80f3c49f1b834607e6136561e02e5f5", func := "aqueduct/aqueductlaw49.ProxyStarts", spec := "proxyStarts", unfollowed := true, recurses := true, apart := false }
def ProxyStartsSaid : Prop := proxyStartsRow.holds Tryz.pinned (OpenSpec.ofChange proxyStartsSpec)

/-- ITS FALSE NEIGHBOUR: 'it returns false'. Refute it at one input. -/
def proxyStartsWrong : ChangeSpec := { name := "proxyStarts", fn := fun _ => fun
  | [d] => { results := [.lit (.bool false)], args := [d] }
  | _ => none }
def ProxyStartsWrongFalsely : Prop := proxyStartsRow.holds Tryz.pinned (OpenSpec.ofChange proxyStartsWrong)

/-- 'aqueductlaw49.ProxyHolds': WHATEVER THE INPUT: true; the input reads as it did. -/
def proxyHoldsSpec : ChangeSpec := { name := "proxyHolds", fn := fun _ => fun
  | [d1, d2] => { results := [.lit (.bool true)], args := [d1, d2] }
  | _ => none }
def proxyHoldsRow : OpenClaim := { program := "ytelmlkdibcdebaagreat", sum := "b4af12a4ca61f5d8b065c4336d77860fe80f3c49f1b834607e6136561e02e5f5", func := "aqueduct/aqueductlaw49.ProxyHolds", spec := "proxyHolds", unfollowed := true, recurses := true, apart := false }
def ProxyHoldsSaid : Prop := proxyHoldsRow.holds Tryz.pinned (OpenSpec.ofChange proxyHoldsSpec)

/-- ITS FALSE NEIGHBOUR: 'it returns false'. Refute it at one input. -/
def proxyHoldsWrong : ChangeSpec := { name := "proxyHolds", fn := fun _ => fun
  | [d1, d2] => { results := [.lit (.bool false)], args := [d1, d2] }
  | _ => none }
def ProxyHoldsWrongFalsely : Prop := proxyHoldsRow.holds Tryz.pinned (OpenSpec.ofChange proxyHoldsWrong)

/-- 'aqueductlaw49.ProxyPlays': WHATEVER THE INPUT: true; the input reads as it did. -/
def proxyPlaysSpec : ChangeSpec := { name := "proxyPlays", fn := fun _ => fun
  | [d1, d2] => { results := [.lit (.bool true)], args := [d1, d2] }
  | _ => none }
def proxyPlaysRow : OpenClaim := { program := "ytelmlkdibcdebaagreat", sum := "b4af12a4ca61f5d8b065c4336d77860fe80f3c49f1b834607e6136561e02e5f5", func := "aqueduct/aqueductlaw49.ProxyPlays", spec := "proxyPlays", inPlace := ["maps.clone"], unfollowed := true, recurses := true, apart := false }
def ProxyPlaysSaid : Prop := proxyPlaysRow.holds Tryz.pinned (OpenSpec.ofChange proxyPlaysSpec)

/-- ITS FALSE NEIGHBOUR: 'it returns false'. Refute it at one input. -/
def proxyPlaysWrong : ChangeSpec := { name := "proxyPlays", fn := fun _ => fun
  | [d1, d2] => { results := [.lit (.bool false)], args := [d1, d2] }
  | _ => none }
def ProxyPlaysWrongFalsely : Prop := proxyPlaysRow.holds Tryz.pinned (OpenSpec.ofChange proxyPlaysWrong)

/-- 'aqueductlaw49.ProxyNone': WHATEVER THE INPUT: true; the input reads as it did. -/
def proxyNoneSpec : ChangeSpec := { name := "proxyNone", fn := fun _ => fun
  | [d] => { results := [.lit (.bool true)], args := [d] }
  | _ => none }
def proxyNoneRow : OpenClaim := { program := "ytelmlkdibcdebaagreat", sum := "b4af12a4ca61f5d8b065c4336d77860fe80f3c49f1b834607e6136561e02e5f5", func := "aqueduct/aqueductlaw49.ProxyNone", spec := "proxyNone", inPlace := ["maps.clone"], unfollowed := true, recurses := true, apart := false }
def ProxyNoneSaid : Prop := proxyNoneRow.holds Tryz.pinned (OpenSpec.ofChange proxyNoneSpec)

/-- ITS FALSE NEIGHBOUR: 'it returns false'. Refute it at one input. -/
def proxyNoneWrong : ChangeSpec := { name := "proxyNone", fn := fun _ => fun
  | [d] => { results := [.lit (.bool false)], args := [d] }
  | _ => none }
def ProxyNoneWrongFalsely : Prop := proxyNoneRow.holds Tryz.pinned (OpenSpec.ofChange proxyNoneWrong)

/- THE SECOND FORM. 'bulk': how many values and letters a reading holds, each counted each time it is reached (what is shared counts as often as it is met; a slice's spare places count too). A statement '..UptoSaid' is the law's where the arguments, and the package variables that the reading takes, are together of bulk at most 1048576: NARROWER than '..Said'. Prove '..Said' where nothing that the law and all that it calls make is longer than what came in: it says more and counts as full. Else prove '..UptoSaid'. A law counts once. -/
mutual
def uptoBulk {H : Type} : DataW H → Nat
  | .lit (.string bytes) => bytes.length + 1
  | .lit _ => 1
  | .nil => 1
  | .ptr d => uptoBulk d + 1
  | .slice elems spare => uptoBulkAll elems + uptoBulkAll spare + 1
  | .agg parts => uptoBulkAll parts + 1
  | .iface _ d => uptoBulk d + 1
  | .map entries => uptoBulkEntries entries + 1
  | .held _ => 1
def uptoBulkAll {H : Type} : List (DataW H) → Nat
  | [] => 0
  | d :: r => uptoBulk d + uptoBulkAll r
def uptoBulkEntries {H : Type} : List (Lit × DataW H) → Nat
  | [] => 0
  | x :: r => uptoBulkEntry x + uptoBulkEntries r
def uptoBulkEntry {H : Type} : Lit × DataW H → Nat
  | (.string bytes, d) => bytes.length + uptoBulk d + 1
  | (_, d) => uptoBulk d + 1
 end
def uptoSmall : (H : Type) → List (DataW H) → Bool := fun _ ds => decide (uptoBulkAll ds ≤ 1048576)
def OpenSpec.upto (s : _root_.Go.ChangeSpec) : _root_.Go.OpenSpec := { _root_.Go.OpenSpec.ofChange s with cond := some uptoSmall }

/-- 'aqueductlaw49.ProxyStarts', WHERE WHAT IT READS IS OF BULK AT MOST 1048576: true; the input reads as it did. -/
def proxyStartsUptoRow : OpenClaim := { program := "ytelmlkdibcdebaagreat", sum := "b4af12a4ca61f5d8b065c4336d77860fe80f3c49f1b834607e6136561e02e5f5", func := "aqueduct/aqueductlaw49.ProxyStarts", spec := "proxyStarts", unfollowed := true, recurses := true, apart := false, narrowed := true }
def ProxyStartsUptoSaid : Prop := proxyStartsUptoRow.holds Tryz.pinned (OpenSpec.upto proxyStartsSpec)

/-- 'aqueductlaw49.ProxyHolds', WHERE WHAT IT READS IS OF BULK AT MOST 1048576: true; the input reads as it did. -/
def proxyHoldsUptoRow : OpenClaim := { program := "ytelmlkdibcdebaagreat", sum := "b4af12a4ca61f5d8b065c4336d77860fe80f3c49f1b834607e6136561e02e5f5", func := "aqueduct/aqueductlaw49.ProxyHolds", spec := "proxyHolds", unfollowed := true, recurses := true, apart := false, narrowed := true }
def ProxyHoldsUptoSaid : Prop := proxyHoldsUptoRow.holds Tryz.pinned (OpenSpec.upto proxyHoldsSpec)

/-- 'aqueductlaw49.ProxyPlays', WHERE WHAT IT READS IS OF BULK AT MOST 1048576: true; the input reads as it did. -/
def proxyPlaysUptoRow : OpenClaim := { program := "ytelmlkdibcdebaagreat", sum := "b4af12a4ca61f5d8b065c4336d77860fe80f3c49f1b834607e6136561e02e5f5", func := "aqueduct/aqueductlaw49.ProxyPlays", spec := "proxyPlays", inPlace := ["maps.clone"], unfollowed := true, recurses := true, apart := false, narrowed := true }
def ProxyPlaysUptoSaid : Prop := proxyPlaysUptoRow.holds Tryz.pinned (OpenSpec.upto proxyPlaysSpec)

/-- 'aqueductlaw49.ProxyNone', WHERE WHAT IT READS IS OF BULK AT MOST 1048576: true; the input reads as it did. -/
def proxyNoneUptoRow : OpenClaim := { program := "ytelmlkdibcdebaagreat", sum := "b4af12a4ca61f5d8b065c4336d77860fe80f3c49f1b834607e6136561e02e5f5", func := "aqueduct/aqueductlaw49.ProxyNone", spec := "proxyNone", inPlace := ["maps.clone"], unfollowed := true, recurses := true, apart := false, narrowed := true }
def ProxyNoneUptoSaid : Prop := proxyNoneUptoRow.holds Tryz.pinned (OpenSpec.upto proxyNoneSpec)

end Rows
end Go.Proofs.YtelmlkdibcdebaaGreat

/-
  No cell of these rows narrows 'for every input' (looked for: loops, veiled, ifaces, maps, wideKeys, modest, calm, conditions, laid).
  DERIVED. THE GIVEN ROWS OF THIS SEAT. 5 by the template 'for every input the law returns true; each argument reads behind the call as it read before'; 0 by the template 'total and deterministic' (their statements: YtliffiahoolemaaTotals.lean).
  GIVEN WITH THE SEED: the statements are not yours to turn. If you find one false, say at which input.
  Laid BY PROGRAM, IN A SANDBOX (cutbox-rows.mjs): the forced cells as the released guide's own fill.sh prints them over the translation 92fdd7a5548fbc59… (all of the seat's roots in one cut). By AI agents, Wed Nov 11 2026. No macro, syntax, notation, axiom, sorry.
-/
import Derived.Test.YtliffiahoolemaaChecked
import GoSem.Claim
import GoSem.ClaimJoined
import GoSem.ClaimMapViews
import Derived.JoinedTies
import Derived.KernelRfl
namespace Go.Proofs.Ytliffiahoolemaa
/- THE CELL 'sum', in the pinned program and in every row, IS THE sha256 OF THE DUMP (.gsa) THAT YtliffiahoolemaaProg.lean LOADS. Nothing in Lean hashes anything: it is a label: what it is worth is what the hold of that sum in a sandbox is worth. -/
noncomputable def Try.pinned : Pinned := { name := "ytliffiahoolemaa", sum := "92fdd7a5548fbc594aae90114b840a022a9eb1fd4a2ce22d46fa446c18e8335c", checked := Try.checked }
namespace Rows
def none {H : Type} : Left H := { results := [], args := [] }

/-- 'aqueductlaw02.HeapFulls': WHATEVER THE INPUT: true; the input reads as it did. -/
def heapFullsSpec : ChangeSpec := { name := "heapFulls", fn := fun _ => fun
  | [d1, d2] => { results := [.lit (.bool true)], args := [d1, d2] }
  | _ => none }
def heapFullsRow : OpenClaim := { program := "ytliffiahoolemaa", sum := "92fdd7a5548fbc594aae90114b840a022a9eb1fd4a2ce22d46fa446c18e8335c", func := "aqueduct/aqueductlaw02.HeapFulls", spec := "heapFulls", unfollowed := true, recurses := true, apart := false }
def HeapFullsSaid : Prop := heapFullsRow.holds Try.pinned (OpenSpec.ofChange heapFullsSpec)

/-- ITS FALSE NEIGHBOUR: 'it returns false'. Refute it at one input. -/
def heapFullsWrong : ChangeSpec := { name := "heapFulls", fn := fun _ => fun
  | [d1, d2] => { results := [.lit (.bool false)], args := [d1, d2] }
  | _ => none }
def HeapFullsWrongFalsely : Prop := heapFullsRow.holds Try.pinned (OpenSpec.ofChange heapFullsWrong)

/-- 'aqueductlaw02.HeapHolds': WHATEVER THE INPUT: true; the input reads as it did. -/
def heapHoldsSpec : ChangeSpec := { name := "heapHolds", fn := fun _ => fun
  | [d] => { results := [.lit (.bool true)], args := [d] }
  | _ => none }
def heapHoldsRow : OpenClaim := { program := "ytliffiahoolemaa", sum := "92fdd7a5548fbc594aae90114b840a022a9eb1fd4a2ce22d46fa446c18e8335c", func := "aqueduct/aqueductlaw02.HeapHolds", spec := "heapHolds", unfollowed := true, recurses := true, apart := false }
def HeapHoldsSaid : Prop := heapHoldsRow.holds Try.pinned (OpenSpec.ofChange heapHoldsSpec)

/-- ITS FALSE NEIGHBOUR: 'it returns false'. Refute it at one input. -/
def heapHoldsWrong : ChangeSpec := { name := "heapHolds", fn := fun _ => fun
  | [d] => { results := [.lit (.bool false)], args := [d] }
  | _ => none }
def HeapHoldsWrongFalsely : Prop := heapHoldsRow.holds Try.pinned (OpenSpec.ofChange heapHoldsWrong)

/-- 'aqueductlaw02.HeapIterates': WHATEVER THE INPUT: true; the input reads as it did. -/
def heapIteratesSpec : ChangeSpec := { name := "heapIterates", fn := fun _ => fun
  | [d1, d2] => { results := [.lit (.bool true)], args := [d1, d2] }
  | _ => none }
def heapIteratesRow : OpenClaim := { program := "ytliffiahoolemaa", sum := "92fdd7a5548fbc594aae90114b840a022a9eb1fd4a2ce22d46fa446c18e8335c", func := "aqueduct/aqueductlaw02.HeapIterates", spec := "heapIterates", unfollowed := true, recurses := true, apart := false }
def HeapIteratesSaid : Prop := heapIteratesRow.holds Try.pinned (OpenSpec.ofChange heapIteratesSpec)

/-- ITS FALSE NEIGHBOUR: 'it returns false'. Refute it at one input. -/
def heapIteratesWrong : ChangeSpec := { name := "heapIterates", fn := fun _ => fun
  | [d1, d2] => { results := [.lit (.bool false)], args := [d1, d2] }
  | _ => none }
def HeapIteratesWrongFalsely : Prop := heapIteratesRow.holds Try.pinned (OpenSpec.ofChange heapIteratesWrong)

/-- 'aqueductlaw02.HeapPlays': WHATEVER THE INPUT: true; the input reads as it did. -/
def heapPlaysSpec : ChangeSpec := { name := "heapPlays", fn := fun _ => fun
  | [d] => { results := [.lit (.bool true)], args := [d] }
  | _ => none }
def heapPlaysRow : OpenClaim := { program := "ytliffiahoolemaa", sum := "92fdd7a5548fbc594aae90114b840a022a9eb1fd4a2ce22d46fa446c18e8335c", func := "aqueduct/aqueductlaw02.HeapPlays", spec := "heapPlays", unfollowed := true, recurses := true, apart := false }
def HeapPlaysSaid : Prop := heapPlaysRow.holds Try.pinned (OpenSpec.ofChange heapPlaysSpec)

/-- ITS FALSE NEIGHBOUR: 'it returns false'. Refute it at one input. -/
def heapPlaysWrong : ChangeSpec := { name := "heapPlays", fn := fun _ => fun
  | [d] => { results := [.lit (.bool false)], args := [d] }
  | _ => none }
def HeapPlaysWrongFalsely : Prop := heapPlaysRow.holds Try.pinned (OpenSpec.ofChange heapPlaysWrong)

/-- 'aqueductlaw02.HeapNil': WHATEVER THE INPUT: true; the input reads as it did. -/
def heapNilSpec : ChangeSpec := { name := "heapNil", fn := fun _ => fun
  | [d1, d2] => { results := [.lit (.bool true)], args := [d1, d2] }
  | _ => none }
def heapNilRow : OpenClaim := { program := "ytliffiahoolemaa", sum := "92fdd7a5548fbc594aae90114b840a022a9eb1fd4a2ce22d46fa446c18e8335c", func := "aqueduct/aqueductlaw02.HeapNil", spec := "heapNil", unfollowed := true, recurses := true, apart := false }
def HeapNilSaid : Prop := heapNilRow.holds Try.pinned (OpenSpec.ofChange heapNilSpec)

/-- ITS FALSE NEIGHBOUR: 'it returns false'. Refute it at one input. -/
def heapNilWrong : ChangeSpec := { name := "heapNil", fn := fun _ => fun
  | [d1, d2] => { results := [.lit (.bool false)], args := [d1, d2] }
  | _ => none }
def HeapNilWrongFalsely : Prop := heapNilRow.holds Try.pinned (OpenSpec.ofChange heapNilWrong)

/- THE SECOND FORM. 'bulk': how many values and letters a reading holds, each counted each time it is reached (what is shared counts as often as it is met; a slice's spare places count too). A statement '..UptoSaid' is the law's where the arguments, and the package variables that the reading takes, are together of bulk at most 1048576: NARROWER than '..Said'. Prove '..Said' where nothing that the law and all that it calls make is longer than what came in: it says more and counts as full. Else prove '..UptoSaid'. A law counts once. -/
mutual
def uptoBulk {H : Type} : DataW H → Nat
  | .lit (.string bytes) => bytes.length + 1
  | .lit _ => 1
  | .nil => 1
  | .ptr d => uptoBulk d + 1
  | .slice elems spare => uptoBulkAll elems + uptoBulkAll spare + 1
  | .agg parts => uptoBulkAll parts + 1
  | .iface _ d => uptoBulk d + 1
  | .map entries => uptoBulkEntries entries + 1
  | .held _ => 1
def uptoBulkAll {H : Type} : List (DataW H) → Nat
  | [] => 0
  | d :: r => uptoBulk d + uptoBulkAll r
def uptoBulkEntries {H : Type} : List (Lit × DataW H) → Nat
  | [] => 0
  | x :: r => uptoBulkEntry x + uptoBulkEntries r
def uptoBulkEntry {H : Type} : Lit × DataW H → Nat
  | (.string bytes, d) => bytes.length + uptoBulk d + 1
  | (_, d) => uptoBulk d + 1
 end
def uptoSmall : (H : Type) → List (DataW H) → Bool := fun _ ds => decide (uptoBulkAll ds ≤ 1048576)
def OpenSpec.upto (s : _root_.Go.ChangeSpec) : _root_.Go.OpenSpec := { _root_.Go.OpenSpec.ofChange s with cond := some uptoSmall }

/-- 'aqueductlaw02.HeapFulls', WHERE WHAT IT READS IS OF BULK AT MOST 1048576: true; the input reads as it did. -/
def heapFullsUptoRow : OpenClaim := { program := "ytliffiahoolemaa", sum := "92fdd7a5548fbc594aae90114b840a022a9eb1fd4a2ce22d46fa446c18e8335c", func := "aqueduct/aqueductlaw02.HeapFulls", spec := "heapFulls", unfollowed := true, recurses := true, apart := false, narrowed := true }
def HeapFullsUptoSaid : Prop := heapFullsUptoRow.holds Try.pinned (OpenSpec.upto heapFullsSpec)

/-- 'aqueductlaw02.HeapHolds', WHERE WHAT IT READS IS OF BULK AT MOST 1048576: true; the input reads as it did. -/
def heapHoldsUptoRow : OpenClaim := { program := "ytliffiahoolemaa", sum := "92fdd7a5548fbc594aae90114b840a022a9eb1fd4a2ce22d46fa446c18e8335c", func := "aqueduct/aqueductlaw02.HeapHolds", spec := "heapHolds", unfollowed := true, recurses := true, apart := false, narrowed := true }
def HeapHoldsUptoSaid : Prop := heapHoldsUptoRow.holds Try.pinned (OpenSpec.upto heapHoldsSpec)

/-- 'aqueductlaw02.HeapIterates', WHERE WHAT IT READS IS OF BULK AT MOST 1048576: true; the input reads as it did. -/
def heapIteratesUptoRow : OpenClaim := { program := "ytliffiahoolemaa", sum := "92fdd7a5548fbc594aae90114b840a022a9eb1fd4a2ce22d46fa446c18e8335c", func := "aqueduct/aqueductlaw02.HeapIterates", spec := "heapIterates", unfollowed := true, recurses := true, apart := false, narrowed := true }
def HeapIteratesUptoSaid : Prop := heapIteratesUptoRow.holds Try.pinned (OpenSpec.upto heapIteratesSpec)

/-- 'aqueductlaw02.HeapPlays', WHERE WHAT IT READS IS OF BULK AT MOST 1048576: true; the input reads as it did. -/
def heapPlaysUptoRow : OpenClaim := { program := "ytliffiahoolemaa", sum := "92fdd7a5548fbc594aae90114b840a022a9eb1fd4a2ce22d46fa446c18e8335c", func := "aqueduct/aqueductlaw02.HeapPlays", spec := "heapPlays", unfollowed := true, recurses := true, apart := false, narrowed := true }
def HeapPlaysUptoSaid : Prop := heapPlaysUptoRow.holds Try.pinned (OpenSpec.upto heapPlaysSpec)

/-- 'aqueductlaw02.HeapNil', WHERE WHAT IT READS IS OF BULK AT MOST 1048576: true; the input reads as it did. -/
def heapNilUptoRow : OpenClaim := { program := "ytliffiahoolemaa", sum := "92fdd7a5548fbc594aae90114b840a022a9eb1fd4a2ce22d46fa446c18e8335c", func := "aqueduct/aqueductlaw02.HeapNil", spec := "heapNil", unfollowed := true, recurses := true, apart := false, narrowed := true }
def HeapNilUptoSaid : Prop := heapNilUptoRow.holds Try.pinned (OpenSpec.upto heapNilSpec)

end Rows
end Go.Proofs.Ytliffiahoolemaa

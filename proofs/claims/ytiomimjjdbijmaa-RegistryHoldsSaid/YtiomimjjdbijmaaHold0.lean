/-
  Chapter 17 (registry), part Hold0: contracts of functions that the laws call, each for the heap it names.
-/
import Derived.Test.YtiomimjjdbijmaaRows
import Derived.Test.YtiomimjjdbijmaaZB
import Derived.Test.YtiomimjjdbijmaaSLMapJ
import Derived.Test.YtiomimjjdbijmaaSLScope
import Derived.Test.YtiomimjjdbijmaaTab
import Derived.Test.YtiomimjjdbijmaaHoldL
set_option linter.unusedVariables false
set_option maxRecDepth 20000
set_option maxHeartbeats 2000000
namespace Go.Proofs.Ytiomimjjdbijmaa


theorem rfree_any {W : List Bd} {r : Rg} (hr : RgIs W r) (s : ByteArray) : Spec Try.prog 20 [ptrR r.p, .string s] (rgH r) (fun x H' => x = .tuple #[.int .i64 (freeR W s).1, .int .i64 (freeR W s).2] ∧ H' = rgH r) :=
  (rfree_ok hr s).mono fun x H' ⟨h1, h2⟩ => ⟨by rw [h1]; unfold freeR; split <;> rfl, h2⟩
theorem orel_ok {W : List Bd} (hsr : SrtB W) {name : ByteArray} {q : Rg} (hq : RgIs (onN name W) q) (s : ByteArray) (p : Int) (h : s = name) : Spec Try.prog 18 [ptrR q.p, .agg #[.string s, .int .i64 p]] (rgH q) (fun x H' => ∃ q', x = .tuple #[.int .i64 (lookR W (s, p)).1, .int .i64 (lookR W (s, p)).2] ∧ H' = rgH q' ∧ q'.p = q.p ∧ RgIs (onN name (relW W (s, p))) q') := by
  rw [← onN_rel (a := (s, p)) hsr h, ← onN_look (a := (s, p)) hsr h]
  exact rrel_ok hq s p
theorem obinds_ok {W : List Bd} (hsr : SrtB W) (hl : W.length < 128) {name : ByteArray} {q : Rg} (hq : RgIs (onN name W) q) (s : ByteArray) (p v : Int) (ws : ByteArray) (wp e : Int) (hw : bndR W (s, p) v = (ws, wp) ∧ bndE W (s, p) v = e) (h : s = name) : Spec Try.prog 12 [ptrR q.p, .agg #[.string s, .int .i64 p], .int .i64 v, .agg #[.string ws, .int .i64 wp], .int .i64 e] (rgH q)
    (fun x H' => x = .bool true ∧ ∃ q', H' = rgH q' ∧ q'.p = q.p ∧ RgIs (onN name (bndW W (s, p) v)) q') := by
  rw [← onN_bndR (a := (s, p)) h hl, ← onN_bndE (a := (s, p)) h hl] at hw
  rw [← onN_bndW (a := (s, p)) hsr h hl]
  exact binds_run hq s p v ws wp e _ hw rfl

end Go.Proofs.Ytiomimjjdbijmaa

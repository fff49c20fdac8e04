/-
  Chapter 48 (balance), part ScoL: contracts of functions that the laws call, each for the heap it names.
-/
import Derived.Test.YtiokpmgbabpikaaCmpL
import Derived.Test.YtiokpmgbabpikaaSLStr
set_option linter.unusedVariables false
set_option maxRecDepth 20000
namespace Go.Proofs.Ytiokpmgbabpikaa


def stp (x b : Nat) : Nat := (x ^^^ b) * 16777619 % 4294967296
def mix (x : Nat) : Nat := (x ^^^ x / 65536) * 2246822519 % 4294967296
def fld (l : List UInt8) : Nat := l.foldl (fun x b => stp x b.toNat) 2166136261
def ib (i : Int) : Nat := (i % 256).toNat
/-- The score of an index for a key. -/
def sco (s : ByteArray) (i : Int) : Nat := mix (stp (fld (byt s)) (ib i)) ^^^ mix (stp (fld (byt s)) (ib i)) / 8192
theorem stp_lt (x b : Nat) : stp x b < 4294967296 := by
  unfold stp; exact Nat.mod_lt _ (by omega)
theorem mix_lt (x : Nat) : mix x < 4294967296 := by
  unfold mix; exact Nat.mod_lt _ (by omega)
theorem ib_lt (i : Int) : ib i < 256 := by unfold ib; omega
theorem fld_next {l : List UInt8} {k : Nat} {b : UInt8} (h : l[k]? = some b) : fld (l.take (k + 1)) = stp (fld (l.take k)) b.toNat := by
  unfold fld
  rw [take_next h, List.foldl_append, List.foldl_cons, List.foldl_nil]
theorem foldl_lt (f : Nat → UInt8 → Nat) (N : Nat) (hf : ∀ x b, f x b < N) : ∀ (l : List UInt8) (x : Nat), x < N → l.foldl f x < N := by
  intro l
  induction l with
  | nil => intro x h; exact h
  | cons b r ih => intro x _; rw [List.foldl_cons]; exact ih _ (hf x b)
theorem fld_lt (l : List UInt8) : fld l < 4294967296 := by
  unfold fld
  exact foldl_lt _ _ (fun x b => stp_lt x b.toNat) l 2166136261 (by omega)
theorem sco_lt (s : ByteArray) (i : Int) : sco s i < 4294967296 := by
  have h := mix_lt (stp (fld (byt s)) (ib i))
  exact Nat.xor_lt_two_pow (n := 32) h (by omega)
theorem x32 {a b : Nat} (ha : a < 4294967296) (hb : b < 4294967296) : a ^^^ b < 4294967296 := Nat.xor_lt_two_pow (n := 32) ha hb
structure ScW where
  k : Nat
  x : Nat

end Go.Proofs.Ytiokpmgbabpikaa

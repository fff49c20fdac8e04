/-
  Chapter 03 (timer), part HoldL: contracts of functions that the laws call, each for the heap it names.
-/
import Derived.Test.YtbaagjiailmlhaaTimerC
import Derived.Test.YtbaagjiailmlhaaSmall
set_option linter.unusedVariables false
set_option maxRecDepth 20000
namespace Go.Proofs.Ytbaagjiailmlhaa


structure Ac where
  what : Int
  own : Int
  tm : Nat
  N : Int
  G : Int
abbrev encA (a : Ac) : List Value := [.int .i64 a.what, .int .i64 a.own, .int .u64 (a.tm : Int), .int .i64 a.N, .int .i64 a.G]
def OkA (a : Ac) : Prop := a.tm ≤ 18446744073709551615 ∧ -9223372036854775808 ≤ a.G ∧ a.G ≤ 9223372036854775807
abbrev encNm (x : Nat × Nat) : List Value := [.int .i64 (x.1 : Int), .int .i64 (x.2 : Int)]
theorem encNm2 (x : Nat × Nat) : (encNm x).length = 2 := rfl
structure HW3 where
  k : Nat
  L : List Tm
  nm : List (Nat × Nat)
  m : TmM
  on : Option Nat
  cn : Nat
  tn : List Value
theorem xL_nms {L : List Tm} {gv : List Nat} {n now : Nat} (r : TRel L gv n) : nms (xL now L).1 = nms L := by
  unfold xL; split
  · rfl
  · exact nms_eL r
theorem xL_le {L : List Tm} {gv : List Nat} {n now : Nat} (r : TRel L gv n) {j : Nat} {t : Tm} (h : (xL now L).2[j]? = some t) : t.tm ≤ now := by
  unfold xL at h; split at h
  · cases h
  · exact (eL_mem r t (List.mem_of_getElem? h)).2.2
theorem xL_len {L : List Tm} {gv : List Nat} {n now : Nat} (r : TRel L gv n) : (xL now L).2.length ≤ L.length := by
  unfold xL; split
  · exact Nat.zero_le _
  · exact eL_len r
theorem nm_new {L : List Tm} {gv : List Nat} {n a j : Nat} {q : Nat × Nat} (r : TRel L gv n) (h : (nms L)[j]? = some q) : ¬ ((a : Int) = (q.1 : Int) ∧ ((cnt L a : Nat) : Int) = (q.2 : Int)) := by
  rw [nms, List.getElem?_map] at h
  cases ht : L[j]? with
  | none => rw [ht] at h; cases h
  | some t =>
    rw [ht] at h
    simp only [Option.map_some, Option.some.injEq] at h
    subst h
    rintro ⟨h1, h2⟩
    have := r.lt t (List.mem_of_getElem? ht)
    dsimp only at h1 h2
    have e : a = t.n := by omega
    subst e
    omega

end Go.Proofs.Ytbaagjiailmlhaa

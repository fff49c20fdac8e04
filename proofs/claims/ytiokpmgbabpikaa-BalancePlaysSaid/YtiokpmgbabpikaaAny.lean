/-
  Chapter 48 (balance), part Any: contracts of functions that the laws call, each for the heap it names.
-/
import Derived.Test.YtiokpmgbabpikaaRows
import Derived.Test.YtiokpmgbabpikaaZSLOpt
import Derived.Test.YtiokpmgbabpikaaTab
import Derived.Test.YtiokpmgbabpikaaStep1
import Derived.Test.YtiokpmgbabpikaaStep2
import Derived.Test.YtiokpmgbabpikaaStep3
import Derived.Test.YtiokpmgbabpikaaValid
set_option linter.unusedVariables false
set_option maxRecDepth 20000
namespace Go.Proofs.Ytiokpmgbabpikaa


theorem st_any {N : Nat} {m : Bm} {s : BS} {l : Lm} (hb : BIs N m s) (hl : LmIs N l) (hr : Rel s l) (hN : N ≤ 8000) (wt n : Int) (now : Nat) (key : ByteArray) (good : Bool) (h2 : now ≤ 18446744073709551615) : Spec Try.prog 15 [ptrB m.p, lmV l, .agg #[.int .i64 wt, .int .i64 n, .int .u64 (now : Int), .string key, .bool good]] (balH m ++ lmH l) (fun r H' => ∃ m2 s2 l2, r = .tuple #[ptrB m2.p, lmV l2, .bool true] ∧ H' = balH m2 ++ lmH l2 ∧ BIs (N + 1) m2 s2 ∧ LmIs (N + 1) l2 ∧ Rel s2 l2) := by
  by_cases e0 : wt = 0
  · by_cases hk : key.size ≤ 64
    · by_cases hlate : now < l.last ∨ now = 18446744073709551615
      · exact st_late0 hb hl hr hN wt n now key good h2 hlate e0 hk
      · by_cases hc : s.cand now = []
        · exact st_none hb hl hr hN wt n now key good (by omega) (by omega) e0 hk hc
        · exact st_pick hb hl hr hN wt n now key good (by omega) (by omega) e0 hk hc
    · exact st_long hb hl hr hN wt n now key good e0 (by omega)
  · by_cases e1 : wt = 1
    · by_cases hlate : now < l.last ∨ now = 18446744073709551615
      · exact st_late1 hb hl hr hN wt n now key good h2 hlate e1
      · by_cases hc : n ∈ s.C.map (·.1)
        · exact st_done hb hl hr hN wt n now key good (by omega) (by omega) e1 hc
        · exact st_nocall hb hl hr hN wt n now key good (by omega) (by omega) e1 hc
    · by_cases e2 : wt = 2
      · by_cases hi : n < 0 ∨ (l.n : Int) ≤ n
        · exact st_badup hb hl hr hN wt n now key good e2 hi
        · obtain ⟨i, rfl⟩ := Int.eq_ofNat_of_zero_le (show 0 ≤ n by omega)
          exact st_up hb hl hr hN wt i now key good e2 i rfl (by omega)
      · exact st_copy hb hl hr hN wt n now key good (by omega)
theorem bnew_bad (k : Int) (W : List Int) (oa : Option Addr) (c : Nat) (ent : Ent) (ha : Rd oa ent W) (limit : Int) (op : Nat) (h : ¬ VOk k W limit op) : Spec Try.prog 11 [.int .i64 k, .slice oa W.length c, .int .i64 limit, .int .u64 (op : Int)] [ent] (fun r H' => r = .tuple #[.pointer none, .int .i64 2] ∧ H' = [ent]) := by
  by_cases h1 : k < 1 ∨ 4 < k
  · exact bnew_badK k h1 W oa c ent ha limit op
  obtain ⟨k, rfl⟩ := Int.eq_ofNat_of_zero_le (show 0 ≤ k by omega)
  have hk : 1 ≤ k ∧ k ≤ 4 := by omega
  by_cases h2 : W.length = 0 ∨ 64 < W.length
  · exact bnew_badN k hk W oa c ent ha limit op h2
  have h3 : 1 ≤ W.length ∧ W.length ≤ 64 := by omega
  by_cases hR : OkR limit 1 op
  · by_cases hW : ∀ w ∈ W, 1 ≤ w ∧ w ≤ 100
    · exact absurd ⟨by omega, h3, hW, hR⟩ h
    · exact bnew_badW k hk W oa c ent ha limit op h3 hR hW
  · exact bnew_badR k hk W oa c ent ha limit op h3 hR
structure PA where
  wt : Int
  n : Int
  now : Nat
  key : ByteArray
  good : Bool
abbrev encP (a : PA) : List Value := [.int .i64 a.wt, .int .i64 a.n, .int .u64 (a.now : Int), .string a.key, .bool a.good]
structure ZW where
  j : Nat
  V : List Int
structure PW where
  i : Nat
  m : Bm
  s : BS
  l : Lm
theorem ivs_get (W : List Int) (j : Nat) : (ivs W)[j]? = (W[j]?).map (fun v => .int .i64 v) := by
  have : ivs W = W.map (fun v => Value.int .i64 v) := by
    unfold ivs
    induction W with
    | nil => rfl
    | cons a r ih => rw [List.flatMap_cons, List.map_cons, ih]; rfl
  rw [this, List.getElem?_map]
theorem rd_in {oa : Option Addr} {x : Ent} {W : List Int} {H : Heap} (h : Rd oa x W) (hm : x ∈ H) (hl : 0 < W.length) : ∃ b k cs e2 fr, oa = some ⟨b, k, none⟩ ∧ (⟨some b, .cells (List.toArray cs) e2 fr⟩ : Ent) ∈ H ∧ At cs k (ivs W) := by
  obtain ⟨b, k, cs, e, fr, h1, rfl, h3⟩ := h hl
  refine ⟨b, k, cs, e, fr, h1, hm, fun j v hj => ?_⟩
  rw [ivs_get] at hj
  cases hw : W[j]? with
  | none => rw [hw] at hj; cases hj
  | some u =>
    rw [hw] at hj
    have := h3 j u hw
    rw [Nat.mul_one] at this
    rw [this]; exact hj

end Go.Proofs.Ytiokpmgbabpikaa

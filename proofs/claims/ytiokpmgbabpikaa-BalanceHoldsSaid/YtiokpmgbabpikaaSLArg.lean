/-
  A slice argument opened: what it reads as, and the block that holds it.
-/
import Derived.Test.YtiokpmgbabpikaaSLMore
import Derived.Test.YtiokpmgbabpikaaSLRow
namespace Go.Proofs.Ytiokpmgbabpikaa
open Go.ChangeShapes Go.WideShapes Go.ChangeAt Go.RowKit Go.Joins Go.Deep
theorem list_choose {α : Type} {R : Nat → α → Prop} : ∀ n : Nat, (∀ i, i < n → ∃ x, R i x) → ∃ l : List α, l.length = n ∧ ∀ (i : Nat) (y : α), l[i]? = some y → R i y
  | 0, _ => ⟨[], rfl, fun i y h => by simp at h⟩
  | n + 1, h => by
    obtain ⟨l, hl, hR⟩ := list_choose n (fun i hi => h i (by omega))
    obtain ⟨x, hx⟩ := h n (by omega)
    refine ⟨l ++ [x], by simp [hl], fun i y hy => ?_⟩
    rw [List.getElem?_append] at hy
    split at hy
    · exact hR i y hy
    · rename_i hge
      rw [List.getElem?_singleton] at hy
      split at hy
      · obtain rfl : i = n := by omega
        cases hy; exact hx
      · cases hy
section
variable {H : Type} {enc : TypeId × Value → H} {P : Program} {W : World} {sp : Nat → Bool} {held : Bool} {α : Type} {enc' : α → List Value} {G : α → Prop} {sz : Nat}
theorem open_arg {t e : TypeId} {r : Reach} {b0 : Nat} {v : Value} {d : DataW H} {ps : List MemPlace} (ht : P.underlying t = some (.slice e)) (hsz : P.cellsOf e = sz) (hpos : 0 < sz)
    (dec : ∀ (m : Nat) (cs : List Value) (y : DataW H × List MemPlace), DataW.trod enc P W 0 sp held m e cs = some y → ∃ x : α, cs = enc' x ∧ G x)
    (hval : Value.okWide P W r b0 t v) (h : DataW.Trod enc P W 0 sp held t v d ps) :
    ∃ (oa : Option Addr) (x : Ent) (l : List α) (c : Nat), v = .slice oa l.length c ∧ Arg oa x sz enc' l ∧ x.ok W ∧ l.length ≤ maxLen ∧ ∀ y ∈ l, G y := by
  obtain ⟨a0, len, cap, rfl⟩ := okWide_slice ht hval
  obtain ⟨fuel, hf⟩ := h
  rcases open_slice ht hf with ⟨hc, _⟩ | ⟨a, len', cap', m, n, D, Pl, hc, hb, hl, hm, hmm, _, hx⟩
  · simp [Value.cells] at hc
    obtain ⟨rfl, rfl, rfl⟩ := hc
    exact ⟨none, ⟨none, cl [] 0⟩, [], 0, rfl, .inl ⟨rfl, rfl⟩, ⟨0, rfl⟩, Nat.zero_le _, fun y hy => by cases hy⟩
  · simp [Value.cells] at hc
    obtain ⟨rfl, rfl, rfl⟩ := hc
    have hml : len ≤ m := by rw [hmm]; split <;> omega
    obtain ⟨l, hll, hlx⟩ := list_choose (R := fun i (x : α) => W.cells? 0 (a.add (i * sz)) sz = some (enc' x) ∧ G x) len (fun i hi => by
      obtain ⟨cs', h1, h2⟩ := hx i (by omega)
      obtain ⟨x, rfl, hg⟩ := dec _ _ _ h2
      exact ⟨x, by rw [← hsz]; exact h1, hg⟩)
    have hG : ∀ y ∈ l, G y := fun y hy => by
      obtain ⟨i, hi⟩ := List.mem_iff_getElem?.1 hy
      exact (hlx i y hi).2
    subst hll
    cases l with
    | nil => exact ⟨some a, ⟨none, cl [] 0⟩, [], cap, rfl, .inl ⟨rfl, rfl⟩, ⟨0, rfl⟩, Nat.zero_le _, hG⟩
    | cons y0 l0 =>
      obtain ⟨_, hn0, hc0⟩ := World.cells?_some (hlx 0 y0 rfl).1
      have hcell := hc0 0 hpos
      have hsome : ∃ u, (enc' y0)[0]? = some u := ⟨_, List.getElem?_eq_getElem (by omega)⟩
      obtain ⟨u, hu⟩ := hsome
      rw [hu] at hcell
      obtain ⟨b, k, s⟩ := a
      have a0 : ∀ a : Addr, a.add 0 = a := fun a => by simp [Addr.add]
      rw [Nat.zero_mul, a0, a0] at hcell
      simp only [World.cell?] at hcell
      split at hcell
      · rename_i cs e' fr hblk
        cases s with
        | some s => simp at hcell
        | none =>
          refine ⟨some ⟨b, k, none⟩, ⟨some b, .cells cs e' fr⟩, y0 :: l0, cap, rfl, .inr ⟨b, k, cs.toList, e', fr, rfl, by simp, fun i y hy j v hv => ?_⟩, hblk, by omega, hG⟩
          obtain ⟨_, hn1, hc1⟩ := World.cells?_some (hlx i y hy).1
          have hj : j < sz := by
            have := (List.getElem?_eq_some_iff.1 hv).1
            omega
          have := hc1 j hj
          rw [hv] at this
          rw [add_at, add_at] at this
          simp only [World.cell?] at this
          rw [hblk] at this
          simpa using this
      · cases hcell
end

/-! ### Structs of numbers, truth values and structs, taken apart -/
theorem drop_cons {cs : List Value} {k : Nat} {v : Value} (e : (cs.drop k).take 1 = [v]) : cs.drop k = v :: cs.drop (k + 1) := by
  cases h : cs.drop k with
  | nil => rw [h] at e; cases e
  | cons a r =>
    rw [h] at e
    have h2 : cs.drop (k + 1) = r := by rw [← List.drop_drop, h]; rfl
    rw [h2]
    simp at e
    rw [e]
theorem sub_at (cs : List Value) (a s o n : Nat) (h : o + n ≤ s) : (((cs.drop a).take s).drop o).take n = (cs.drop (a + o)).take n := by
  rw [List.drop_take, List.drop_drop, List.take_take, Nat.min_eq_left (by omega)]
section
variable {H : Type} {enc : TypeId × Value → H} {P : Program} {W : World} {sp : Nat → Bool} {held : Bool}
theorem trod_fld {t : TypeId} {fs : Array Field} {m : Nat} {cs : List Value} {x : DataW H × List MemPlace} (ht : P.underlying t = some (.struct fs)) (h : DataW.trod enc P W 0 sp held m t cs = some x) {i : Nat} {f : Field} (hi : fs[i]? = some f) :
    ∃ n y, DataW.trod enc P W 0 sp held n f.type ((cs.drop f.offset).take (P.cellsOf f.type)) = some y := by
  obtain ⟨xs, n, _, _, _, hlen, hf⟩ := DataW.trod_struct ht h
  have hlt : i < xs.length := by rw [hlen]; exact (Array.getElem?_eq_some_iff.1 hi).1
  exact ⟨n, xs[i], by rw [hf i f hi]; exact List.getElem?_eq_getElem hlt⟩
theorem trod_len {t : TypeId} {fs : Array Field} {m : Nat} {cs : List Value} {x : DataW H × List MemPlace} (ht : P.underlying t = some (.struct fs)) (h : DataW.trod enc P W 0 sp held m t cs = some x) : cs.length = P.cellsOf t := by
  obtain ⟨_, _, _, _, hl, _⟩ := DataW.trod_struct ht h
  exact hl
theorem open_str {r : Reach} {b0 : Nat} {t : TypeId} {v : Value} {d : DataW H} {ps : List MemPlace} (ht : P.underlying t = some .string) (hval : Value.okWide P W r b0 t v) (hd : DataW.Trod enc P W 0 sp held t v d ps) :
    ∃ s : ByteArray, v = .string s ∧ d = .lit (.string s.data.toList) ∧ ps = [] ∧ s.size ≤ maxLen := by
  obtain ⟨s, rfl⟩ := okWide_string ht hval
  obtain ⟨fuel, hf⟩ := hd
  obtain ⟨s', h, hx, hs⟩ := DataW.trod_string ht hf
  simp [Value.cells] at h
  subst h
  simp only [Prod.mk.injEq] at hx
  exact ⟨s, rfl, hx.1, hx.2, hs⟩
theorem open_struct {t : TypeId} {fs : Array Field} {r : Reach} {b0 : Nat} {v : Value} {d : DataW H} {ps : List MemPlace} (ht : P.underlying t = some (.struct fs)) (hval : Value.okWide P W r b0 t v) (h : DataW.Trod enc P W 0 sp held t v d ps) :
    ∃ cs m y, v = .agg (List.toArray cs) ∧ DataW.trod enc P W 0 sp held m t cs = some y := by
  obtain ⟨cs, rfl, _⟩ := okWide_struct ht hval
  obtain ⟨fuel, hf⟩ := h
  exact ⟨cs.toList, fuel, _, by simp, by simpa [Value.cells] using hf⟩
end
theorem wf_u64 {n : Int} (h : (Lit.int .u64 n).wf = true) : ∃ k : Nat, n = (k : Int) ∧ k ≤ 18446744073709551615 := by
  have h1 : (0 : Int) ≤ n ∧ n ≤ 18446744073709551615 := by simpa [Lit.wf, IntKind.min, IntKind.max, IntKind.bits, IntKind.signed] using h
  exact ⟨n.toNat, by omega, by omega⟩
theorem wf_u32 {n : Int} (h : (Lit.int .u32 n).wf = true) : ∃ k : Nat, n = (k : Int) ∧ k < 4294967296 := by
  have h1 : (0 : Int) ≤ n ∧ n ≤ 4294967295 := by simpa [Lit.wf, IntKind.min, IntKind.max, IntKind.bits, IntKind.signed] using h
  exact ⟨n.toNat, by omega, by omega⟩
theorem wf_u16 {n : Int} (h : (Lit.int .u16 n).wf = true) : ∃ k : Nat, n = (k : Int) ∧ k < 65536 := by
  have h1 : (0 : Int) ≤ n ∧ n ≤ 65535 := by simpa [Lit.wf, IntKind.min, IntKind.max, IntKind.bits, IntKind.signed] using h
  exact ⟨n.toNat, by omega, by omega⟩
theorem wf_u8 {n : Int} (h : (Lit.int .u8 n).wf = true) : ∃ k : Nat, n = (k : Int) ∧ k < 256 := by
  have h1 : (0 : Int) ≤ n ∧ n ≤ 255 := by simpa [Lit.wf, IntKind.min, IntKind.max, IntKind.bits, IntKind.signed] using h
  exact ⟨n.toNat, by omega, by omega⟩
theorem wf_i64 {n : Int} (h : (Lit.int .i64 n).wf = true) : -9223372036854775808 ≤ n ∧ n ≤ 9223372036854775807 := by
  simpa [Lit.wf, IntKind.min, IntKind.max, IntKind.bits, IntKind.signed] using h
end Go.Proofs.Ytiokpmgbabpikaa

/-
  slices.SortFunc at elements of k cells (structs), and at no element: the library's contracts as ours.
-/
import Derived.Test.YteofigbgdbpjgaaSLSort
import Derived.Test.YteofigbgdbpjgaaZA
namespace Go.Proofs.Yteofigbgdbpjgaa
open Go.Shelf Go.RowKit Go.Lib Go.Sort
section
variable {α : Type} [Inhabited α] {enc : α → List Value} {k : Nat}
theorem flat_eq (hk : ∀ x, (enc x).length = k) (d : List α) : flatK enc k d.toArray = (d.flatMap enc).toArray := by
  have hs : (d.flatMap enc).length = d.length * k := fm_length hk d
  apply Array.ext
  · simp [hs]
  · intro t h1 h2
    have ht : t < d.length * k := by simpa using h1
    have k0 : 0 < k := by rcases Nat.eq_zero_or_pos k with h | h; · subst h; simp at ht
                          · exact h
    have hi : t / k < d.length := Nat.div_lt_of_lt_mul (by rw [Nat.mul_comm]; exact ht)
    have hj : t % k < k := Nat.mod_lt t k0
    have hg := get_flatK enc k d.toArray t (by simpa using ht)
    rw [getElem!_pos _ t h1] at hg
    have hx : d[t / k]? = some d[t / k] := List.getElem?_eq_getElem hi
    have hf := fm_get hk hx hj []
    rw [List.append_nil, show t / k * k + t % k = t from by rw [Nat.mul_comm]; exact Nat.div_add_mod t k] at hf
    rw [hg]
    have e1 : d.toArray[t / k]! = d[t / k] := by simp [hi]
    rw [e1, getElem!_pos _ _ (by rw [hk]; exact hj)]
    have h3 : t < (d.flatMap enc).length := by simpa using h2
    rw [List.getElem?_eq_getElem h3, List.getElem?_eq_getElem (by rw [hk]; exact hj)] at hf
    simpa using (Option.some.inj hf).symm
theorem sortK_ok {P : Program} {ρ : Ren} (L : SlLaysF0.n6 P ρ) (f : Nat) (hf : ρ.f 6 = f) (aE : ∀ w, (isAgg (ρ.t 24)).run P w = .ok true w) (zE : ∀ w, (Go.sizeOf (ρ.t 24)).run P w = .ok k w) (hk : ∀ x, (enc x).length = k) (h1 : ∀ x, ∀ v ∈ enc x, v.oneCell' = true)
    (cf : α → α → Int) (hO : SWO (ltOf cf)) (g : Nat) (cb : List Value) (Hc : Heap) (hcmp : ∀ x y, Spec P g ([.agg (enc x).toArray, .agg (enc y).toArray] ++ cb) Hc (fun r H' => r = .int .i64 (cf x y) ∧ H' = Hc)) (hen : Enters P f)
    (b n c : Nat) (e : TypeId) (d : List α) (tl : List Value) (hn : d.length = n) (hsz : n < 4611686018427387904) :
    Spec P f [slV (some b) n c, .func (.func g) #[] cb.toArray] (⟨some b, cl (d.flatMap enc ++ tl) e⟩ :: Hc)
      (fun r H' => ∃ d' : List α, r = .tuple #[] ∧ d'.Perm d ∧ d'.Pairwise (fun x y => ltOf cf y x = false) ∧ H' = ⟨some b, cl (d'.flatMap enc ++ tl) e⟩ :: Hc) := by
  subst hf hn
  refine ⟨hen, fun w hw => callsIn_wide.2 ?_⟩
  have hb : w.heap[b]? = some (cl (d.flatMap enc ++ tl) e) := by
    have := hw.ok _ (List.mem_cons_self ..)
    simpa [Ent.ok] using this
  have hlt := (Array.getElem?_eq_some_iff.1 hb).1
  have hsw : ∀ (m : Nat) (os : Array Obj) (dk : List α), dk.length = d.length → HW (⟨some b, cl (d.flatMap enc ++ tl) e⟩ :: Hc) w (⟨some b, cl (dk.flatMap enc ++ tl) e⟩ :: Hc) (sortWorldK enc k w b 0 m dk.toArray os) := fun m os dk hdk => by
    have hw' : HOK (⟨some b, cl ((d.flatMap enc).map id ++ tl) e⟩ :: Hc) w := by rw [List.map_id]; exact hw
    have := sw_hw (enc := id) (d := d.flatMap enc) (d' := dk.flatMap enc) (tl := tl) hw' (by rw [fm_length hk, fm_length hk, hdk]) m os
    rw [List.map_id, List.map_id, ← flat_eq hk dk] at this
    exact this
  have hc : CmpLays P g cb.toArray enc k cf b 0 d.toArray.size w := fun m os dk hdk x y => by
    have hw2 := hsw m os dk.toList (by simpa using hdk)
    simp only [Array.toArray_toList] at hw2
    have hok : HOK Hc (sortWorldK enc k w b 0 m dk os) := (hw2.perm (by simpa using (List.perm_append_comm (l₁ := [_]) (l₂ := Hc)))).left.hok
    have := callsIn_wide.1 ((hcmp x y).calls _ hok)
    rw [show ((#[Value.agg (enc x).toArray, Value.agg (enc y).toArray] : Array Value) ++ cb.toArray) = ([Value.agg (enc x).toArray, Value.agg (enc y).toArray] ++ cb).toArray from by simp]
    refine this.mono fun e w' ⟨v, H', e1, ⟨e2, e3⟩, e4⟩ => ⟨by rw [e1, e2], ?_⟩
    subst e3
    exact hw_grow hok e4
  have hH : HoldsK enc k w b 0 d.toArray := by
    unfold HoldsK
    rw [flat_eq hk]
    exact holds_of (enc := id) (by rw [List.map_id]; exact hb)
  have := AnyQ.slices_SortFunc L k aE zE enc hk h1 cf hO g cb.toArray b 0 c d.toArray w (hcmp default default).enters hc hH hlt (by simpa using hsz)
  refine this.mono fun e w' ⟨he, d', m, os, hp, hs, hwe⟩ => ?_
  obtain ⟨hs1, _, hp2⟩ := hp
  have hsz2 : d'.size = d.length := by simpa using hs1
  refine ⟨_, _, he, ⟨d'.toList, rfl, ?_, ?_, rfl⟩, ?_⟩
  · have e1 : d'.extract 0 d.toArray.size = d' := by simp [← hsz2]
    have e2 : d.toArray.extract 0 d.toArray.size = d.toArray := by simp
    rw [e1, e2] at hp2
    simpa using hp2
  · rw [List.pairwise_iff_getElem]
    intro i j hi hj hij
    have := hs i j (Nat.zero_le _) hij (by simpa [hsz2] using hj)
    have hi' : i < d'.size := by simpa using hi
    have hj' : j < d'.size := by simpa using hj
    simpa [hi', hj'] using this
  · rw [hwe]
    have := hsw m os d'.toList (by simpa using hsz2)
    simpa only [Array.toArray_toList] using this
end
theorem sort_none {P : Program} {ρ : Ren} (L : SlLaysF0.n6 P ρ) (f : Nat) (hf : ρ.f 6 = f) (hen : Enters P f) (ob : Option Nat) (c : Nat) (fv : Value) : Spec P f [slV ob 0 c, fv] [] (fun r H' => r = .tuple #[] ∧ H' = []) := by
  subst hf
  refine ⟨hen, fun w hw => callsIn_wide.2 ?_⟩
  have h : ∀ p, Calls P (ρ.f 6) #[.slice p 0 c, fv] w fun e w' => e = .returned (.tuple #[]) ∧ w' = w := fun p => AnyF.slices_SortFunc_none L p c fv w
  cases ob with
  | none => exact (h none).mono fun e w' ⟨e1, e2⟩ => ⟨_, _, e1, ⟨rfl, rfl⟩, by rw [e2]; exact HW.start hw⟩
  | some b => exact (h (some ⟨b, 0, none⟩)).mono fun e w' ⟨e1, e2⟩ => ⟨_, _, e1, ⟨rfl, rfl⟩, by rw [e2]; exact HW.start hw⟩
end Go.Proofs.Yteofigbgdbpjgaa

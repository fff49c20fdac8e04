/-
  Chapter 17 (registry), part RegK: contracts of functions that the laws call, each for the heap it names.
-/
import Derived.Test.YtiomimjjdbijmaaRegB
import Derived.Test.YtiomimjjdbijmaaAddrKey
import Derived.Test.YtiomimjjdbijmaaSLAny
set_option linter.unusedVariables false
set_option maxRecDepth 20000
namespace Go.Proofs.Ytiomimjjdbijmaa


structure Ks (W : List Bd) (es : Array MapEntry) (seen : Array Nat) (ys : List Ad) : Prop where
  src : ∀ x ∈ ys, x ∈ kys W
  nd : ys.Nodup
  seen : ∀ e ∈ es.toList, ∀ k : Ad, e.key = adV k → (e.born ∈ seen ↔ k ∈ ys)
structure KyW where
  seen : Array Nat
  ys : List Ad
  hj : Heap
theorem born_inj {es : List MapEntry} (h : (es.map (·.born)).Nodup) {e e2 : MapEntry} (h1 : e ∈ es) (h2 : e2 ∈ es) (h3 : e.born = e2.born) : e = e2 := by
  obtain ⟨i, hi⟩ := List.mem_iff_getElem?.1 h1
  obtain ⟨j, hj⟩ := List.mem_iff_getElem?.1 h2
  have e1 : (es.map (·.born))[i]? = some e2.born := by rw [List.getElem?_map, hi]; exact congrArg some h3
  have e3 : (es.map (·.born))[j]? = some e2.born := by rw [List.getElem?_map, hj]; rfl
  obtain ⟨l1, q1⟩ := List.getElem?_eq_some_iff.1 e1
  obtain ⟨l2, q2⟩ := List.getElem?_eq_some_iff.1 e3
  have := (List.getElem_inj h).1 (q1.trans q2.symm)
  subst this
  rw [hi] at hj
  exact Option.some.inj hj
theorem Ks.new (W : List Bd) (es : Array MapEntry) : Ks W es #[] [] := ⟨fun x hx => by (cases hx), .nil, fun e _ k _ => by simp⟩
theorem Ks.next {W : List Bd} {es : Array MapEntry} {c : Nat} {seen : Array Nat} {ys : List Ad} (h : Ks W es seen ys) (hM : Mk adV evI es c W) {e : MapEntry} (he : e ∈ es.toList) (hs : e.born ∉ seen) {k : Ad} (hk : e.key = adV k) :
    (k ∈ kys W ∧ k ∉ ys) ∧ Ks W es (seen.push e.born) (ys ++ [k]) := by
  obtain ⟨⟨k', v⟩, hx, e1, _⟩ := hM.back he
  obtain rfl : k' = k := adV_inj _ _ (e1.symm.trans hk)
  have h1 : k' ∈ kys W := in_kys hx
  have h2 : k' ∉ ys := fun hm => hs ((h.seen e he k' hk).2 hm)
  refine ⟨⟨h1, h2⟩, fun x hx => ?_, ?_, fun e2 he2 k2 hk2 => ?_⟩
  · rcases List.mem_append.1 hx with hx | hx
    · exact h.src x hx
    · rw [List.mem_singleton.1 hx]; exact h1
  · rw [List.nodup_append]
    exact ⟨h.nd, by simp, fun a ha b hb => by rw [List.mem_singleton.1 hb]; rintro rfl; exact h2 ha⟩
  · rw [Array.mem_push, List.mem_append, List.mem_singleton, h.seen e2 he2 k2 hk2]
    constructor
    · rintro (q1 | q1)
      · exact .inl q1
      · have := born_inj hM.bnd he2 he q1
        subst this
        exact .inr (adV_inj _ _ (hk2.symm.trans hk))
    · rintro (q1 | rfl)
      · exact .inl q1
      · right
        obtain ⟨⟨k3, v3⟩, hx3, e3, _⟩ := hM.back he2
        have : e2 = e := by
          by_cases hq : e2 = e
          · exact hq
          · exfalso
            have hp := hM.perm
            have hnk : (es.toList.map (fun e => e.key)).Nodup := by
              have h5 : (es.toList.map (fun e => e.key)).Perm (W.map fun x => adV x.1) := by
                have := hp.map Prod.fst
                rw [List.map_map, List.map_map] at this
                exact this
              refine h5.nodup_iff.2 ?_
              have h6 : (W.map fun x => adV x.1) = (kys W).map adV := by unfold kys; rw [List.map_map]; rfl
              rw [h6, List.nodup_iff_pairwise_ne, List.pairwise_map]
              exact List.Pairwise.imp (S := fun a b : Ad => adV a ≠ adV b) (fun {a b} hab e => hab (adV_inj _ _ e)) (List.nodup_iff_pairwise_ne.1 hM.nodup)
            obtain ⟨i, hi⟩ := List.mem_iff_getElem?.1 he2
            obtain ⟨j, hj⟩ := List.mem_iff_getElem?.1 he
            have q3 : (es.toList.map (fun e => e.key))[i]? = some e.key := by rw [List.getElem?_map, hi]; exact congrArg some (hk2.trans hk.symm)
            have q4 : (es.toList.map (fun e => e.key))[j]? = some e.key := by rw [List.getElem?_map, hj]; rfl
            obtain ⟨l1, r1⟩ := List.getElem?_eq_some_iff.1 q3
            obtain ⟨l2, r2⟩ := List.getElem?_eq_some_iff.1 q4
            have := (List.getElem_inj hnk).1 (r1.trans r2.symm)
            subst this
            rw [hi] at hj
            exact hq (Option.some.inj hj)
        rw [this]
theorem Ks.done {W : List Bd} {es : Array MapEntry} {c : Nat} {seen : Array Nat} {ys : List Ad} (h : Ks W es seen ys) (hM : Mk adV evI es c W) (hall : ∀ e ∈ es.toList, e.born ∈ seen) : ys.Perm (kys W) := by
  refine (List.perm_ext_iff_of_nodup h.nd hM.nodup).2 fun a => ⟨h.src a, fun ha => ?_⟩
  obtain ⟨⟨k, v⟩, hx, rfl⟩ := List.mem_map.1 ha
  obtain ⟨e, he, hk, _⟩ := hM.has hx
  exact (h.seen e he k hk).1 (hall e he)
theorem Ks.len {W : List Bd} {es : Array MapEntry} {seen : Array Nat} {ys : List Ad} (h : Ks W es seen ys) : ys.length ≤ W.length := by
  have := pigeonA ys (kys W) h.nd h.src
  unfold kys at this
  rwa [List.length_map] at this

end Go.Proofs.Ytiomimjjdbijmaa

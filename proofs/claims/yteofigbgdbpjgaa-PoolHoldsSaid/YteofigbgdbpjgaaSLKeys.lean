/-
  The keys of a map, as they come one after the other in an order that nobody knows.
-/
import Derived.Test.YteofigbgdbpjgaaSLMapJ
import Derived.Test.YteofigbgdbpjgaaSLAny
set_option linter.unusedVariables false
namespace Go.Proofs.Yteofigbgdbpjgaa
section
variable {κ α : Type} {ek : κ → Value} {ev : α → Value} {W : List (κ × α)} {es : Array MapEntry} {seen : Array Nat} {c : Nat} {ys : List κ}
structure KsG (ek : κ → Value) (W : List (κ × α)) (es : Array MapEntry) (seen : Array Nat) (ys : List κ) : Prop where
  src : ∀ x ∈ ys, x ∈ W.map (·.1)
  nd : ys.Nodup
  seen : ∀ e ∈ es.toList, ∀ k : κ, e.key = ek k → (e.born ∈ seen ↔ k ∈ ys)
theorem born_injG {es : List MapEntry} (h : (es.map (·.born)).Nodup) {e e2 : MapEntry} (h1 : e ∈ es) (h2 : e2 ∈ es) (h3 : e.born = e2.born) : e = e2 := by
  obtain ⟨i, hi⟩ := List.mem_iff_getElem?.1 h1
  obtain ⟨j, hj⟩ := List.mem_iff_getElem?.1 h2
  have e1 : (es.map (·.born))[i]? = some e2.born := by rw [List.getElem?_map, hi]; exact congrArg some h3
  have e3 : (es.map (·.born))[j]? = some e2.born := by rw [List.getElem?_map, hj]; rfl
  obtain ⟨l1, q1⟩ := List.getElem?_eq_some_iff.1 e1
  obtain ⟨l2, q2⟩ := List.getElem?_eq_some_iff.1 e3
  have := (List.getElem_inj h).1 (q1.trans q2.symm)
  subst this
  rw [hi] at hj
  exact Option.some.inj hj
theorem KsG.new (ek : κ → Value) (W : List (κ × α)) (es : Array MapEntry) : KsG ek W es #[] [] := ⟨fun x hx => by (cases hx), .nil, fun e _ k _ => by simp⟩
theorem KsG.next (hinj : ∀ a b, ek a = ek b → a = b) (h : KsG ek W es seen ys) (hM : Mk ek ev es c W) {e : MapEntry} (he : e ∈ es.toList) (hs : e.born ∉ seen) {k : κ} (hk : e.key = ek k) :
    (k ∈ W.map (·.1) ∧ k ∉ ys) ∧ KsG ek W es (seen.push e.born) (ys ++ [k]) := by
  obtain ⟨⟨k', v⟩, hx, e1, _⟩ := hM.back he
  obtain rfl : k' = k := hinj _ _ (e1.symm.trans hk)
  have h1 : k' ∈ W.map (·.1) := List.mem_map.2 ⟨_, hx, rfl⟩
  have h2 : k' ∉ ys := fun hm => hs ((h.seen e he k' hk).2 hm)
  refine ⟨⟨h1, h2⟩, fun x hx => ?_, ?_, fun e2 he2 k2 hk2 => ?_⟩
  · rcases List.mem_append.1 hx with hx | hx
    · exact h.src x hx
    · rw [List.mem_singleton.1 hx]; exact h1
  · rw [List.nodup_append]
    exact ⟨h.nd, by simp, fun a ha b hb => by rw [List.mem_singleton.1 hb]; rintro rfl; exact h2 ha⟩
  · rw [Array.mem_push, List.mem_append, List.mem_singleton, h.seen e2 he2 k2 hk2]
    constructor
    · rintro (q1 | q1)
      · exact .inl q1
      · have := born_injG hM.bnd he2 he q1
        subst this
        exact .inr (hinj _ _ (hk2.symm.trans hk))
    · rintro (q1 | rfl)
      · exact .inl q1
      · right
        have : e2 = e := by
          have hp := hM.perm
          have hnk : (es.toList.map (fun e => e.key)).Nodup := by
            have h5 : (es.toList.map (fun e => e.key)).Perm (W.map fun x => ek x.1) := by
              have := hp.map Prod.fst
              rw [List.map_map, List.map_map] at this
              exact this
            refine h5.nodup_iff.2 ?_
            have h6 : (W.map fun x => ek x.1) = (W.map (·.1)).map ek := by rw [List.map_map]; rfl
            rw [h6, List.nodup_iff_pairwise_ne, List.pairwise_map]
            exact List.Pairwise.imp (S := fun a b : κ => ek a ≠ ek b) (fun {a b} hab e => hab (hinj _ _ e)) (List.nodup_iff_pairwise_ne.1 hM.nodup)
          obtain ⟨i, hi⟩ := List.mem_iff_getElem?.1 he2
          obtain ⟨j, hj⟩ := List.mem_iff_getElem?.1 he
          have q3 : (es.toList.map (fun e => e.key))[i]? = some e.key := by rw [List.getElem?_map, hi]; exact congrArg some (hk2.trans hk.symm)
          have q4 : (es.toList.map (fun e => e.key))[j]? = some e.key := by rw [List.getElem?_map, hj]; rfl
          obtain ⟨l1, r1⟩ := List.getElem?_eq_some_iff.1 q3
          obtain ⟨l2, r2⟩ := List.getElem?_eq_some_iff.1 q4
          have := (List.getElem_inj hnk).1 (r1.trans r2.symm)
          subst this
          rw [hi] at hj
          exact Option.some.inj hj
        rw [this]
theorem KsG.done (h : KsG ek W es seen ys) (hM : Mk ek ev es c W) (hall : ∀ e ∈ es.toList, e.born ∈ seen) : ys.Perm (W.map (·.1)) := by
  classical
  refine (List.perm_ext_iff_of_nodup h.nd hM.nodup).2 fun a => ⟨h.src a, fun ha => ?_⟩
  obtain ⟨⟨k, v⟩, hx, rfl⟩ := List.mem_map.1 ha
  obtain ⟨e, he, hk, _⟩ := hM.has hx
  exact (h.seen e he k hk).1 (hall e he)
theorem pigeonG [DecidableEq κ] : ∀ (ks m : List κ), ks.Nodup → (∀ k ∈ ks, k ∈ m) → ks.length ≤ m.length
  | [], _, _, _ => Nat.zero_le _
  | k :: ks, m, hn, h => by
    have hk : k ∈ m := h k (List.mem_cons_self ..)
    obtain ⟨hk1, hn1⟩ := List.nodup_cons.1 hn
    have := pigeonG ks (m.erase k) hn1 (fun x hx => (List.mem_erase_of_ne (by intro e; subst e; exact hk1 hx)).2 (h x (List.mem_cons_of_mem _ hx)))
    rw [List.length_erase_of_mem hk] at this
    have hp : 0 < m.length := List.length_pos_of_mem hk
    simp only [List.length_cons]
    omega
theorem KsG.len [DecidableEq κ] (h : KsG ek W es seen ys) : ys.length ≤ W.length := by
  have := pigeonG ys (W.map (·.1)) h.nd h.src
  rwa [List.length_map] at this
structure KyG (κ : Type) where
  seen : Array Nat
  ys : List κ
  hj : Heap
/-- What lies there of a key; else 'z'. -/
def getT [DecidableEq κ] (L : List (κ × α)) (k : κ) (z : α) : α := match L.find? (fun x => decide (x.1 = k)) with
  | some x => x.2
  | none => z
theorem getT_in [DecidableEq κ] {L : List (κ × α)} (hn : (L.map (·.1)).Nodup) {k : κ} {a : α} (h : (k, a) ∈ L) (z : α) : getT L k z = a := by
  unfold getT
  cases e : L.find? (fun x => decide (x.1 = k)) with
  | none =>
    have := List.find?_eq_none.1 e (k, a) h
    simp at this
  | some y =>
    have h1 := List.find?_some e
    have h2 := List.mem_of_find?_eq_some e
    simp only [decide_eq_true_eq] at h1
    obtain ⟨k2, a2⟩ := y
    simp only at h1
    subst h1
    exact key_uniq hn h2 h
theorem getT_out [DecidableEq κ] {L : List (κ × α)} {k : κ} (h : k ∉ L.map (·.1)) (z : α) : getT L k z = z := by
  unfold getT
  rw [List.find?_eq_none.2 fun x hx => by
    simp only [decide_eq_true_eq]
    exact fun e => h (List.mem_map.2 ⟨x, hx, e⟩)]
end
/-- v := m[k], whether the key lies there or not. -/
theorem R_lookKT_ {X : Ctx} {E : Env} {H : Heap} {o : Oper} {κ α : Type} [DecidableEq κ] {ek : κ → Value} {ev : α → Value} {es : Array MapEntry} {c b : Nat} {L : List (κ × α)} {mt kt et : TypeId} {x y : Operand} {k : κ} {z : α} (ho : o.op = .lookup mt x y false) (hu : X.P.underlying mt = some (.map kt et)) (K : KeyOk X.P kt ek) (hx : Go.Proofs.Yteofigbgdbpjgaa.ev E x = some (.map (some b))) (hy : Go.Proofs.Yteofigbgdbpjgaa.ev E y = some (ek k)) (hm : (⟨some b, .map es c⟩ : Ent) ∈ H) (hM : Mk ek ev es c L)
    (hz : ∀ w, (zeroValue et).run X.P w = .ok (ev z) w) : Runs X o E H (ev (getT L k z)) := by
  by_cases h : k ∈ L.map (·.1)
  · obtain ⟨⟨k2, a⟩, hxa, rfl⟩ := List.mem_map.1 h
    rw [getT_in hM.nodup hxa]
    exact R_lookK ho hu K hx hy hm hM hxa
  · rw [getT_out h]
    exact R_lookK0 ho hu K hx hy hm hM h hz
end Go.Proofs.Yteofigbgdbpjgaa

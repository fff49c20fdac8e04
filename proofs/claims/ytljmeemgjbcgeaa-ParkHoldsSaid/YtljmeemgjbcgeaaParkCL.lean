/-
  Chapter 09 (park), part ParkCL: contracts of functions that the laws call, each for the heap it names.
-/
import Derived.Test.YtljmeemgjbcgeaaParkK
set_option linter.unusedVariables false
set_option maxRecDepth 20000
namespace Go.Proofs.Ytljmeemgjbcgeaa


theorem nodup_inj {α β : Type} {f : α → β} {l : List α} (h : (l.map f).Nodup) {a b : α} (ha : a ∈ l) (hb : b ∈ l) (e : f a = f b) : a = b := by
  obtain ⟨i, hi, rfl⟩ := List.mem_iff_getElem.1 ha
  obtain ⟨j, hj, rfl⟩ := List.mem_iff_getElem.1 hb
  rw [List.Nodup, List.pairwise_map, List.pairwise_iff_getElem] at h
  rcases Nat.lt_trichotomy i j with q | q | q
  · exact absurd e (h i j hi hj q)
  · subst q; rfl
  · exact absurd e.symm (h j i hj hi q)
theorem mk_keys {mes : Array MapEntry} {mc : Nat} {QL : List (Sp × QM)} (h : Mk ekS evP mes mc QL) : (mes.toList.map (·.key)).Nodup := by
  have h1 : ((mes.toList.map fun e => (e.key, e.val)).map Prod.fst).Perm ((QL.map fun x => (ekS x.1, evP x.2)).map Prod.fst) := h.perm.map _
  rw [List.map_map, List.map_map] at h1
  refine h1.nodup_iff.2 ?_
  have h2 := h.nodup
  rw [List.Nodup, List.pairwise_map] at h2 ⊢
  exact h2.imp fun hne e => hne (ekS_inj _ _ e)
/-- What has been copied. -/
structure Cp (l : PkM) (seen : Array Nat) (QL : List (Sp × QM)) : Prop where
  src : ∀ x ∈ QL, ∃ q, (x.1, q) ∈ l.QL ∧ x.2.l = q.l ∧ x.2.n = q.n ∧ x.2.es = q.es
  seen : ∀ e ∈ l.mes.toList, ∀ k : Sp, e.key = ekS k → (e.born ∈ seen ↔ k ∈ QL.map (·.1))
theorem Cp.new (l : PkM) : Cp l #[] [] := ⟨fun x hx => (by cases hx), fun e _ k _ => by simp⟩
section
variable {N : Nat} {s : PS} {l : PkM} {seen : Array Nat} {QL : List (Sp × QM)}
theorem Cp.fresh (h : Cp l seen QL) {e : MapEntry} (he : e ∈ l.mes.toList) (hs : e.born ∉ seen) {k : Sp} (hk : e.key = ekS k) : k ∉ QL.map (·.1) := fun hm => hs ((h.seen e he k hk).2 hm)
theorem Cp.next (h : Cp l seen QL) (hl : PkIs N s l) {e : MapEntry} (he : e ∈ l.mes.toList) {k : Sp} {q q' : QM} (hk : e.key = ekS k) (hq : (k, q) ∈ l.QL) (h1 : q'.l = q.l) (h2 : q'.n = q.n) (h3 : q'.es = q.es) : Cp l (seen.push e.born) ((k, q') :: QL) := by
  refine ⟨fun x hx => ?_, fun e2 he2 k2 hk2 => ?_⟩
  · rcases List.mem_cons.1 hx with rfl | hx
    · exact ⟨q, hq, h1, h2, h3⟩
    · exact h.src x hx
  · rw [Array.mem_push, List.map_cons, List.mem_cons, h.seen e2 he2 k2 hk2]
    constructor
    · rintro (q1 | q1)
      · exact .inr q1
      · have := nodup_inj hl.mpk.bnd he2 he q1
        subst this
        exact .inl (ekS_inj _ _ (hk2.symm.trans hk))
    · rintro (q1 | q1)
      · have : e2 = e := nodup_inj (mk_keys hl.mpk) he2 he (by rw [hk2, hk, q1])
        rw [this]; exact .inr rfl
      · exact .inl q1
theorem Cp.len (h : Cp l seen QL) (hn : (QL.map (·.1)).Nodup) : QL.length ≤ l.QL.length := by
  have := List.Nodup.length_le_of_subset hn (l₂ := l.QL.map (·.1)) fun k hk => by
    obtain ⟨x, hx, rfl⟩ := List.mem_map.1 hk
    obtain ⟨q, hq, _⟩ := h.src x hx
    exact List.mem_map.2 ⟨_, hq, rfl⟩
  rw [List.length_map, List.length_map] at this; exact this
theorem Cp.done (h : Cp l seen QL) (hl : PkIs N s l) (hall : ∀ e ∈ l.mes.toList, e.born ∈ seen) {mes : Array MapEntry} {mc : Nat} (hM : Mk ekS evP mes mc QL) {t' : TkM} (ht : TkIs s.sm s.qm t') (htn : t'.n = l.t.n) (p bs mb cs : Nat) (ts : List Value) : PkIs N s ⟨p, bs, mb, t', l.seats, cs, ts, mes, mc, QL⟩ := by
  refine ⟨hl.ps, ht, by rw [htn]; exact hl.tn, hl.ln, hM, fun x hx => ?_, fun z hz => ?_⟩
  · obtain ⟨q, hq, h1, h2, h3⟩ := h.src x hx
    have h4 := hl.q _ hq
    exact ⟨⟨by rw [h1, h2]; exact h4.1.qk, by rw [h1, h3]; exact h4.1.mp, by rw [h2]; exact h4.1.n⟩, by rw [h1]; exact h4.2⟩
  · obtain ⟨t, q, h1, h2, h3⟩ := hl.seat z hz
    obtain ⟨e, he, hk, _⟩ := hl.mpk.has h2
    have hm := (h.seen e he z.at_ hk).1 (hall e he)
    obtain ⟨⟨k, q'⟩, hx, rfl⟩ := List.mem_map.1 hm
    obtain ⟨q2, hq2, h5, _⟩ := h.src _ hx
    have := key_uniq hl.mpk.nodup h2 hq2
    subst this
    exact ⟨t, q', h1, hx, by rw [h5]; exact h3⟩
end
structure CpW where
  seen : Array Nat
  mes : Array MapEntry
  mc : Nat
  QL : List (Sp × QM)
theorem qcopy_in (QL : List (Sp × QM)) (x : Sp × QM) (hx : x ∈ QL) : Spec Try.prog 57 [ptrQ x.2.p] (qsH QL) (fun r H' => ∃ q' : QM, r = ptrQ q'.p ∧ q'.l = x.2.l ∧ q'.n = x.2.n ∧ q'.es = x.2.es ∧ H' = qmH q' ++ qsH QL) := by
  obtain ⟨P, Q, e⟩ := List.append_of_mem hx
  have hp : QL.Perm (x :: (P ++ Q)) := by rw [e]; exact List.perm_middle
  refine Spec.perm (Spec.re (((qcopy_ok x.2.p x.2.mb x.2.l x.2.n x.2.es x.2.mc).fr (qsH (P ++ Q))).mono fun r H' ⟨H1, ⟨p2, m2, e1, e2⟩, e3⟩ => ⟨_, ?_, ⟨p2, m2, x.2.l, x.2.n, x.2.es, x.2.mc⟩, e1, rfl, rfl, rfl, rfl⟩)) (qsH_perm hp)
  rw [e3, e2, List.append_assoc]
  exact List.Perm.append_left _ (qsH_perm hp).symm

end Go.Proofs.Ytljmeemgjbcgeaa

/-
  Chapter 46 (pool), part PoolV: contracts of functions that the laws call, each for the heap it names.
-/
import Derived.Test.YteofigbgdbpjgaaRows
import Derived.Test.YteofigbgdbpjgaaZB
import Derived.Test.YteofigbgdbpjgaaSLMapJ
import Derived.Test.YteofigbgdbpjgaaSLScope
import Derived.Test.YteofigbgdbpjgaaTab
import Derived.Test.YteofigbgdbpjgaaPoolT
set_option linter.unusedVariables false
set_option maxRecDepth 20000
namespace Go.Proofs.Yteofigbgdbpjgaa


theorem lexI_lt (x y a b : Int) : lexI x y a b < 0 ↔ x < y ∨ (x = y ∧ a < b) := by
  unfold lexI
  simp only [orL, cmpI]
  (repeat' split) <;> omega
theorem srt_uniq {α : Type} {lt : α → α → Prop} : ∀ {l l2 : List α}, l.Perm l2 → l.Pairwise (fun a b => ¬ lt b a) → l2.Pairwise lt → l = l2
  | [], l2, hp, _, _ => by rw [List.nil_perm.1 hp]
  | a :: r, [], hp, _, _ => by have := hp.length_eq; simp at this
  | a :: r, b :: r2, hp, h1, h2 => by
    obtain ⟨h1a, h1b⟩ := List.pairwise_cons.1 h1
    obtain ⟨h2a, h2b⟩ := List.pairwise_cons.1 h2
    have e : a = b := by
      have hb : b ∈ a :: r := hp.mem_iff.2 (List.mem_cons_self ..)
      have ha : a ∈ b :: r2 := hp.mem_iff.1 (List.mem_cons_self ..)
      rcases List.mem_cons.1 ha with h | h
      · exact h
      · rcases List.mem_cons.1 hb with h3 | h3
        · exact h3.symm
        · exact absurd (h2a a h) (h1a b h3)
    subst e
    rw [srt_uniq (List.Perm.cons_inv hp) h1b h2b]
def PS.late (s : PS) (now : Nat) : List Qp := (s.Q.filter (fun x => decide (x.dl ≤ now))).mergeSort (fun a b => decide (a.dl < b.dl ∨ (a.dl = b.dl ∧ a.t ≤ b.t)))
def PS.tmo (s : PS) (x : Qp) : PS := (s.leave x.who).tell 4 x.who (-1)
def PS.old (s : PS) (now : Nat) : List Int := ((allI 3 s.C).filter (fun a => !young s now a)).mergeSort (fun a b => decide (sinceI s.C a < sinceI s.C b ∨ (sinceI s.C a = sinceI s.C b ∧ a ≤ b)))
def PS.shut (s : PS) (c : Int) : PS := (s.tell 5 (-1) c).lose c.toNat
def PS.adv1 (s : PS) (now : Nat) : PS := (s.late now).foldl PS.tmo (s.at_ now)
def PS.advance (s : PS) (now : Nat) : PS := if s.may true now ≠ 0 then s else ((s.adv1 now).old now).foldl PS.shut (s.adv1 now)
abbrev ltQ (a b : Qp) : Prop := a.dl < b.dl ∨ (a.dl = b.dl ∧ a.t < b.t)
theorem late_perm (s : PS) (now : Nat) : (s.late now).Perm (s.Q.filter (fun x => decide (x.dl ≤ now))) := List.mergeSort_perm _ _
theorem late_mem {s : PS} {now : Nat} {x : Qp} (h : x ∈ s.late now) : x ∈ s.Q ∧ x.dl ≤ now := by
  have := (late_perm s now).mem_iff.1 h
  rw [List.mem_filter] at this
  exact ⟨this.1, of_decide_eq_true this.2⟩
theorem late_srt {s : PS} {g : Nat} (hq : Qk (fq s.Q) g) (now : Nat) : (s.late now).Pairwise ltQ := by
  have h1 : (s.late now).Pairwise (fun a b => decide (a.dl < b.dl ∨ (a.dl = b.dl ∧ a.t ≤ b.t)) = true) := List.pairwise_mergeSort (fun a b c h1 h2 => by simp only [decide_eq_true_eq] at *; omega) (fun a b => by simp only [Bool.or_eq_true, decide_eq_true_eq]; omega) _
  have h2 : (s.late now).Pairwise (fun a b => a.t ≠ b.t) := by
    have h3 : (s.Q.map (·.t)).Nodup := by
      have := hq.nodup
      rwa [List.map_map] at this
    have h4 : ((s.late now).map (·.t)).Nodup := ((late_perm s now).map _).nodup_iff.2 (h3.sublist ((List.filter_sublist ..).map _))
    rw [List.nodup_iff_pairwise_ne, List.pairwise_map] at h4
    exact h4
  refine (h1.and h2).imp fun {a b} ⟨h3, h4⟩ => ?_
  simp only [decide_eq_true_eq] at h3
  show a.dl < b.dl ∨ (a.dl = b.dl ∧ a.t < b.t)
  omega
theorem late_nodup {s : PS} (hn : (s.Q.map (·.who)).Nodup) (now : Nat) : ((s.late now).map (·.who)).Nodup :=
  ((late_perm s now).map _).nodup_iff.2 (hn.sublist ((List.filter_sublist ..).map _))
theorem plQ_at {Q : List Qp} (hn : (Q.map (·.who)).Nodup) {x : Qp} (hx : x ∈ Q) : plQ Q x.who = (x.t, x.dl) :=
  getT_in (by rw [List.map_map]; exact hn) (List.mem_map_of_mem (f := fun x : Qp => (x.who, (x.t, x.dl))) hx) _
theorem pair_mem {α : Type} {R : α → α → Prop} : ∀ {l : List α}, l.Pairwise R → l.Pairwise (fun a b => a ∈ l ∧ b ∈ l ∧ R a b)
  | [], _ => .nil
  | x :: r, h => by
    obtain ⟨h1, h2⟩ := List.pairwise_cons.1 h
    refine List.pairwise_cons.2 ⟨fun b hb => ⟨List.mem_cons_self .., List.mem_cons_of_mem _ hb, h1 b hb⟩, (pair_mem h2).imp fun ⟨ha, hb, hab⟩ => ⟨List.mem_cons_of_mem _ ha, List.mem_cons_of_mem _ hb, hab⟩⟩
theorem late_eq {m : PM} {s : PS} (h : PIs m s) {now : Nat} (hne : now ≠ 18446744073709551615) {xs ys : List Int} (h1 : xs.Perm ((wq s.Q).map (·.1))) (h2 : ys.Perm (xs.filter (fun v => !keepW s.Q now v))) (h3 : ys.Pairwise (fun a b => ¬ lateC s.Q b a < 0)) : ys = (s.late now).map (·.who) := by
  have hp : ys.Perm ((s.late now).map (·.who)) := by
    refine h2.trans ((h1.filter _).trans (List.Perm.trans ?_ ((late_perm s now).map _).symm))
    rw [List.map_map, List.filter_map]
    refine List.Perm.of_eq (congrArg _ ?_)
    refine List.filter_congr fun x hx => ?_
    show (!keepW s.Q now x.who) = _
    unfold keepW
    rw [plQ_at h.nd hx, Bool.not_not]
    exact decide_eq_decide.2 ⟨fun e => e.2, fun e => ⟨hne, e⟩⟩
  refine srt_uniq (lt := fun a b => lateC s.Q a b < 0) hp h3 ?_
  rw [List.pairwise_map]
  refine (pair_mem (late_srt h.qk now)).imp fun {a b} ⟨ha, hb, hab⟩ => ?_
  show lateC s.Q a.who b.who < 0
  unfold lateC
  rw [lexI_lt, plQ_at h.nd (late_mem ha).1, plQ_at h.nd (late_mem hb).1]
  have h9 : a.dl < b.dl ∨ (a.dl = b.dl ∧ a.t < b.t) := hab
  dsimp only
  omega
/-! the fold over those who are late -/
theorem tmo_Q : ∀ (l : List Qp) (s : PS), (l.foldl PS.tmo s).Q = s.Q.filter (fun y => decide (∀ x ∈ l, y.who ≠ x.who))
  | [], s => (List.filter_eq_self.2 fun y _ => decide_eq_true (fun x hx => by cases hx)).symm
  | a :: r, s => by
    rw [List.foldl_cons, tmo_Q r]
    show (s.Q.filter _).filter _ = _
    rw [List.filter_filter]
    refine List.filter_congr fun y _ => ?_
    rw [← Bool.decide_and]
    refine decide_eq_decide.2 ⟨fun ⟨h1, h2⟩ x hx => ?_, fun h => ⟨fun x hx => h x (List.mem_cons_of_mem _ hx), h a (List.mem_cons_self ..)⟩⟩
    rcases List.mem_cons.1 hx with rfl | hx
    · exact h2
    · exact h1 x hx
theorem tmo_rest : ∀ (l : List Qp) (s : PS), (l.foldl PS.tmo s).C = s.C ∧ (l.foldl PS.tmo s).keep = s.keep ∧ (l.foldl PS.tmo s).now = s.now ∧ (l.foldl PS.tmo s).E.length = s.E.length + l.length ∧ (l.foldl PS.tmo s).n = s.n
  | [], s => ⟨rfl, rfl, rfl, rfl, rfl⟩
  | a :: r, s => by
    obtain ⟨h1, h2, h3, h4, h5⟩ := tmo_rest r (s.tmo a)
    refine ⟨h1, h2, h3, ?_, h5⟩
    rw [List.foldl_cons, h4]
    show (s.E ++ [_]).length + _ = _
    rw [List.length_append, List.length_cons]; simp; omega
theorem qp_next {l : List Qp} {k : Nat} {x : Qp} (h : l[k]? = some x) (s : PS) : (l.take (k + 1)).foldl PS.tmo s = ((l.take k).foldl PS.tmo s).tmo x := by
  rw [take_next h, List.foldl_append]; rfl
theorem tmo_in {s : PS} (hn : (s.Q.map (·.who)).Nodup) {now k : Nat} {x : Qp} (hx : (s.late now)[k]? = some x) (s' : PS) (hs' : s'.Q = s.Q) : ∃ A B, (((s.late now).take k).foldl PS.tmo s').Q = A ++ x :: B := by
  have h1 := (late_mem (List.mem_of_getElem? hx)).1
  refine List.append_of_mem ?_
  rw [tmo_Q, List.mem_filter, hs']
  refine ⟨h1, decide_eq_true fun y hy e => ?_⟩
  have h2 := late_nodup hn now
  obtain ⟨i, hi⟩ := List.mem_iff_getElem?.1 hy
  have hik : i < k := by have := (List.getElem?_eq_some_iff.1 hi).1; rw [List.length_take] at this; omega
  rw [List.getElem?_take_of_lt hik] at hi
  have e1 : ((s.late now).map (·.who))[i]? = some x.who := by rw [List.getElem?_map, hi, e]; rfl
  have e2 : ((s.late now).map (·.who))[k]? = some x.who := by rw [List.getElem?_map, hx]; rfl
  obtain ⟨l1, q1⟩ := List.getElem?_eq_some_iff.1 e1
  obtain ⟨l2, q2⟩ := List.getElem?_eq_some_iff.1 e2
  have := (List.getElem_inj h2).1 (q1.trans q2.symm)
  omega
/-! those that are old -/
theorem allF_srt (t : Int) : ∀ (C : List Cn) (k : Nat), (allF t k C).Pairwise (· < ·) ∧ ∀ a ∈ allF t k C, (k : Int) ≤ a
  | [], k => ⟨.nil, fun a ha => by cases ha⟩
  | x :: r, k => by
    obtain ⟨h1, h2⟩ := allF_srt t r (k + 1)
    have h3 : ∀ a ∈ allF t (k + 1) r, (k : Int) < a := fun a ha => by have := h2 a ha; omega
    unfold allF
    split
    · refine ⟨List.pairwise_cons.2 ⟨h3, h1⟩, fun a ha => ?_⟩
      rcases List.mem_cons.1 ha with rfl | ha
      · exact Int.le_refl _
      · exact Int.le_of_lt (h3 a ha)
    · exact ⟨h1, fun a ha => Int.le_of_lt (h3 a ha)⟩
theorem split_rev (q : Int → Bool) : ∀ R : List Int, ∃ T D, R = T ++ D ∧ (∀ y ∈ T, q y = true) ∧ (D = [] ∨ ∃ y D', D = y :: D' ∧ q y = false)
  | [] => ⟨[], [], rfl, fun y hy => (by cases hy), .inl rfl⟩
  | a :: r => by
    cases ha : q a with
    | false => exact ⟨[], a :: r, rfl, fun y hy => (by cases hy), .inr ⟨a, r, rfl, ha⟩⟩
    | true =>
      obtain ⟨T, D, h1, h2, h3⟩ := split_rev q r
      refine ⟨a :: T, D, by rw [h1]; rfl, fun y hy => ?_, h3⟩
      rcases List.mem_cons.1 hy with rfl | hy
      · exact ha
      · exact h2 y hy
theorem insR_split (cf : Int → Int → Int) (A : List Int) (x : Int) : ∃ P B, A = P ++ B ∧ (∀ y ∈ B, cf x y < 0) ∧ (P = [] ∨ ∃ P' y, P = P' ++ [y] ∧ ¬ cf x y < 0) ∧ insR cf A x = P ++ x :: B := by
  obtain ⟨T, D, h1, h2, h3⟩ := split_rev (fun y => decide (cf x y < 0)) A.reverse
  have hA : A = D.reverse ++ T.reverse := by rw [← List.reverse_append, ← h1, List.reverse_reverse]
  have hB : ∀ y ∈ T.reverse, cf x y < 0 := fun y hy => of_decide_eq_true (h2 y (List.mem_reverse.1 hy))
  have hP : D.reverse = [] ∨ ∃ P' y, D.reverse = P' ++ [y] ∧ ¬ cf x y < 0 := by
    rcases h3 with rfl | ⟨y, D', rfl, hy⟩
    · exact .inl rfl
    · exact .inr ⟨D'.reverse, y, by simp, of_decide_eq_false hy⟩
  exact ⟨D.reverse, T.reverse, hA, hB, hP, by rw [hA, insR_eq hB hP]⟩
abbrev ltA (C : List Cn) (a b : Int) : Prop := sinceI C a < sinceI C b ∨ (sinceI C a = sinceI C b ∧ a < b)
theorem ageC_lt (C : List Cn) (a b : Int) : ageC C a b < 0 ↔ sinceI C a < sinceI C b := by
  unfold ageC cmpI
  (repeat' split) <;> omega
theorem insR_srt {C : List Cn} {A : List Int} {x : Int} (h : A.Pairwise (ltA C)) (hx : ∀ a ∈ A, a < x) : (insR (ageC C) A x).Pairwise (ltA C) := by
  obtain ⟨P, B, rfl, hB, hP, e⟩ := insR_split (ageC C) A x
  rw [e]
  obtain ⟨h1, h2, h3⟩ := List.pairwise_append.1 h
  have hP2 : ∀ a ∈ P, sinceI C a ≤ sinceI C x := fun a ha => by
    rcases hP with rfl | ⟨P', y, rfl, hy⟩
    · cases ha
    · rw [ageC_lt] at hy
      rcases List.mem_append.1 ha with ha | ha
      · have := (List.pairwise_append.1 h1).2.2 a ha y (by simp)
        have h9 : sinceI C a < sinceI C y ∨ (sinceI C a = sinceI C y ∧ a < y) := this
        omega
      · rw [List.mem_singleton.1 ha]; omega
  refine List.pairwise_append.2 ⟨h1, List.pairwise_cons.2 ⟨fun b hb => .inl ((ageC_lt C x b).1 (hB b hb)), h2⟩, fun a ha b hb => ?_⟩
  rcases List.mem_cons.1 hb with rfl | hb
  · have h5 := hP2 a ha
    have h6 := hx a (List.mem_append_left _ ha)
    show sinceI C a < sinceI C b ∨ (sinceI C a = sinceI C b ∧ a < b)
    omega
  · exact h3 a ha b hb
theorem isL_srt {C : List Cn} : ∀ (l : List Int), l.Pairwise (· < ·) → (isL (ageC C) l).Pairwise (ltA C) := by
  have key : ∀ (l A : List Int), l.Pairwise (· < ·) → A.Pairwise (ltA C) → (∀ a ∈ A, ∀ b ∈ l, a < b) → (l.foldl (insR (ageC C)) A).Pairwise (ltA C) := by
    intro l
    induction l with
    | nil => intro A _ h _; exact h
    | cons x r ih =>
      intro A hl hA hx
      obtain ⟨h1, h2⟩ := List.pairwise_cons.1 hl
      refine ih _ h2 (insR_srt hA fun a ha => hx a ha x (List.mem_cons_self ..)) fun a ha b hb => ?_
      rcases List.mem_cons.1 ((insR_perm (ageC C) A x).mem_iff.1 ha) with rfl | ha
      · exact h1 b hb
      · exact hx a ha b (List.mem_cons_of_mem _ hb)
  intro l hl
  exact key l [] hl .nil (fun a ha => by cases ha)
theorem old_eq (s : PS) (now : Nat) : isL (ageC s.C) ((allI 3 s.C).filter (fun a => !young s now a)) = s.old now := by
  have h1 := isL_srt (C := s.C) _ ((allF_srt 3 s.C 0).1.filter (fun a => !young s now a))
  refine (srt_uniq (lt := ltA s.C) ?_ ?_ h1).symm
  · exact (List.mergeSort_perm _ _).trans (isL_perm _ _).symm
  · have h2 : (s.old now).Pairwise (fun a b => decide (sinceI s.C a < sinceI s.C b ∨ (sinceI s.C a = sinceI s.C b ∧ a ≤ b)) = true) := List.pairwise_mergeSort (fun a b c h1 h2 => by simp only [decide_eq_true_eq] at *; omega) (fun a b => by simp only [Bool.or_eq_true, decide_eq_true_eq]; omega) _
    refine h2.imp fun {a b} h3 h4 => ?_
    simp only [decide_eq_true_eq] at h3
    have h5 : sinceI s.C b < sinceI s.C a ∨ (sinceI s.C b = sinceI s.C a ∧ b < a) := h4
    omega
theorem old_mem {s : PS} {now : Nat} {a : Int} (h : a ∈ s.old now) : a ∈ allI 3 s.C ∧ young s now a = false := by
  have := (List.mergeSort_perm _ _).mem_iff.1 h
  rw [List.mem_filter] at this
  exact ⟨this.1, by simpa using this.2⟩
theorem old_len (s : PS) (now : Nat) : (s.old now).length ≤ (allI 3 s.C).length := by
  have := (List.mergeSort_perm ((allI 3 s.C).filter (fun a => !young s now a)) (fun a b => decide (sinceI s.C a < sinceI s.C b ∨ (sinceI s.C a = sinceI s.C b ∧ a ≤ b)))).length_eq
  have h2 := List.length_filter_le (fun a => !young s now a) (allI 3 s.C)
  unfold PS.old; omega
theorem next_E (s : PS) : s.next.E.length ≤ s.E.length + 1 := by
  unfold PS.next
  split
  · omega
  · split
    · show (s.E ++ [_]).length ≤ _
      rw [List.length_append]; simp
    · omega
theorem shut_E (s : PS) (c : Int) : (s.shut c).E.length ≤ s.E.length + 2 := by
  have := next_E ((s.tell 5 (-1) c).set c.toNat ⟨0, 0, 0⟩)
  have h2 : ((s.tell 5 (-1) c).set c.toNat ⟨0, 0, 0⟩).E.length = s.E.length + 1 := by
    show (s.E ++ [_]).length = _
    rw [List.length_append]; rfl
  show ((s.tell 5 (-1) c).set c.toNat ⟨0, 0, 0⟩).next.E.length ≤ _
  omega
theorem shuts_E : ∀ (l : List Int) (s : PS), (l.foldl PS.shut s).E.length ≤ s.E.length + 2 * l.length
  | [], s => by simp
  | c :: r, s => by
    have h1 := shuts_E r (s.shut c)
    have h2 := shut_E s c
    rw [List.foldl_cons, List.length_cons]; omega
theorem shut_next {l : List Int} {k : Nat} {c : Int} (h : l[k]? = some c) (s : PS) : (l.take (k + 1)).foldl PS.shut s = ((l.take k).foldl PS.shut s).shut c := by
  rw [take_next h, List.foldl_append]; rfl
theorem adv_no {s : PS} {now : Nat} (h : s.may true now ≠ 0) : s.advance now = s := by unfold PS.advance; rw [if_pos h]
theorem adv_ok {s : PS} {now : Nat} (h : s.may true now = 0) : s.advance now = ((s.adv1 now).old now).foldl PS.shut (s.adv1 now) := by unfold PS.advance; rw [if_neg (by rw [h]; decide)]
structure AdW where
  k : Nat
  m : PM

end Go.Proofs.Yteofigbgdbpjgaa

/-
  Chapter 10 (deadline), part TimerC: contracts of functions that the laws call, each for the heap it names.
-/
import Derived.Test.YtnkpefonocggfaaTimerB
import Derived.Test.YtnkpefonocggfaaSLApp
set_option linter.unusedVariables false
set_option maxRecDepth 20000
namespace Go.Proofs.Ytnkpefonocggfaa


theorem live_none {L : List Tm} (h : fstP L = none) : live L = [] := by
  have := wl_nil.2 h
  exact List.map_eq_nil_iff.1 this
/-- What expires by a time, and what is left. -/
def eL (now : Nat) (L : List Tm) : List Tm × List Tm := expL now (live L).length L
theorem eL_none {now : Nat} {L : List Tm} (h : fstP L = none) : eL now L = (L, []) := by rw [eL, live_none h]; rfl
theorem eL_gt {now : Nat} {L : List Tm} {i : Nat} {t : Tm} (h : fstP L = some (i, t)) (hn : ¬ t.tm ≤ now) : eL now L = (L, []) := by
  rw [eL]
  cases (live L).length with
  | zero => rfl
  | succ n => rw [expL, h]; dsimp only; rw [if_neg hn]
theorem eL_le {L : List Tm} {gv : List Nat} {n now : Nat} (r : TRel L gv n) {i : Nat} {t : Tm} (h : fstP L = some (i, t)) (hn : t.tm ≤ now) : eL now L = ((eL now (rmL L t.n)).1, t :: (eL now (rmL L t.n)).2) := by
  have hf := fstP_some h
  have := live_rm r hf.at_ hf.g
  rw [eL, ← this, expL, h]; dsimp only; rw [if_pos hn]; rfl
/-- A property of what expires, by the steps. -/
theorem eL_ind {now : Nat} (motive : List Tm → List Tm × List Tm → Prop) (h0 : ∀ L, fstP L = none → motive L (L, [])) (h1 : ∀ L i t, fstP L = some (i, t) → now < t.tm → motive L (L, []))
    (h2 : ∀ L gv n i t z, TRel L gv n → fstP L = some (i, t) → t.tm ≤ now → motive (rmL L t.n) z → motive L (z.1, t :: z.2)) : ∀ (k : Nat) (L : List Tm) (gv : List Nat) (n : Nat), TRel L gv n → (live L).length = k → motive L (eL now L) := by
  intro k
  induction k with
  | zero =>
    intro L gv n r hk
    have : fstP L = none := by
      cases h : fstP L with
      | none => rfl
      | some x =>
        obtain ⟨i, t⟩ := x
        have hf := fstP_some h
        have := live_rm r hf.at_ hf.g
        omega
    rw [eL_none this]; exact h0 L this
  | succ k ih =>
    intro L gv n r hk
    cases h : fstP L with
    | none => rw [eL_none h]; exact h0 L h
    | some x =>
      obtain ⟨i, t⟩ := x
      have hf := fstP_some h
      by_cases hn : t.tm ≤ now
      · have := live_rm r hf.at_ hf.g
        rw [eL_le r h hn]
        exact h2 L gv n i t _ r h hn (ih _ gv n (r.rm _) (by omega))
      · rw [eL_gt h hn]; exact h1 L i t h (by omega)
theorem rm_mem {L : List Tm} {k : Nat} {t : Tm} (h : t ∈ rmL L k) (hg : t.gone = false) : t ∈ L ∧ t.n ≠ k := by
  obtain ⟨u, hu, rfl⟩ := List.mem_map.1 h
  rw [rm1_gone, Bool.or_eq_false_iff] at hg
  have h2 : ¬ u.n = k := of_decide_eq_false hg.2
  rw [show rm1 k u = u from by unfold rm1; rw [if_neg (fun e => h2 e.2)]]
  exact ⟨hu, h2⟩
theorem eL_mem {L : List Tm} {gv : List Nat} {n now : Nat} (r : TRel L gv n) : ∀ t ∈ (eL now L).2, t ∈ L ∧ t.gone = false ∧ t.tm ≤ now := by
  refine eL_ind (fun L z => ∀ t ∈ z.2, t ∈ L ∧ t.gone = false ∧ t.tm ≤ now) (fun L _ t ht => by cases ht) (fun L i t _ _ u hu => by cases hu) (fun L gv n i t z r h hn ih u hu => ?_) _ L gv n r rfl
  have hf := fstP_some h
  rcases List.mem_cons.1 hu with rfl | hu
  · exact ⟨List.mem_of_getElem? hf.at_, hf.g, hn⟩
  · obtain ⟨a, b, c⟩ := ih u hu
    exact ⟨(rm_mem a b).1, b, c⟩
theorem eL_len {L : List Tm} {gv : List Nat} {n now : Nat} (r : TRel L gv n) : (eL now L).2.length ≤ L.length := by
  refine Nat.le_trans (eL_ind (fun L z => z.2.length ≤ (live L).length) (fun L _ => Nat.zero_le _) (fun L i t _ _ => Nat.zero_le _) (fun L gv n i t z r h hn ih => ?_) _ L gv n r rfl) (List.length_filter_le _ _)
  have hf := fstP_some h
  have := live_rm r hf.at_ hf.g
  simp only [List.length_cons]; omega
theorem eL_sorted {L : List Tm} {gv : List Nat} {n now : Nat} (r : TRel L gv n) : (eL now L).2.Pairwise (fun a b => a.tm ≤ b.tm) := by
  have key : ∀ (k : Nat) (L : List Tm) (gv : List Nat) (n : Nat), TRel L gv n → (live L).length = k → (eL now L).2.Pairwise (fun a b => a.tm ≤ b.tm) := by
    intro k
    induction k with
    | zero =>
      intro L gv n r hk
      rw [eL, hk]; exact .nil
    | succ k ih =>
      intro L gv n r hk
      cases h : fstP L with
      | none => rw [eL_none h]; exact .nil
      | some x =>
        obtain ⟨i, t⟩ := x
        have hf := fstP_some h
        by_cases hn : t.tm ≤ now
        · have := live_rm r hf.at_ hf.g
          rw [eL_le r h hn]
          refine List.pairwise_cons.2 ⟨fun u hu => ?_, ih _ gv n (r.rm _) (by omega)⟩
          obtain ⟨a, b, _⟩ := eL_mem (r.rm _) u hu
          obtain ⟨j, hj⟩ := List.getElem?_of_mem (rm_mem a b).1
          have := hf.min j u hj b
          omega
        · rw [eL_gt h hn]; exact .nil
  exact key _ L gv n r rfl
theorem eL_next {L : List Tm} {gv : List Nat} {n now : Nat} (r : TRel L gv n) (hnow : now < 18446744073709551615) : now < nxtL (eL now L).1 :=
  eL_ind (fun _ z => now < nxtL z.1) (fun L h => by unfold nxtL; rw [h]; exact hnow) (fun L i t h hn => by unfold nxtL; rw [h]; exact hn) (fun _ _ _ _ _ _ _ _ _ ih => ih) _ L gv n r rfl
/-- To expire at one time and then at a later one is to expire at the later one at once. -/
theorem eL_comp {L : List Tm} {gv : List Nat} {n p q : Nat} (r : TRel L gv n) (hpq : p ≤ q) : eL q L = ((eL q (eL p L).1).1, (eL p L).2 ++ (eL q (eL p L).1).2) :=
  eL_ind (now := p) (fun L z => eL q L = ((eL q z.1).1, z.2 ++ (eL q z.1).2)) (fun L _ => by simp) (fun L i t _ _ => by simp) (fun L gv n i t z r h hn ih => by rw [eL_le r h (Nat.le_trans hn hpq), ih]; rfl) _ L gv n r rfl
theorem eL_rel {L : List Tm} {gv : List Nat} {n now : Nat} (r : TRel L gv n) : TRel (eL now L).1 gv n := by
  have key : ∀ (k : Nat) (L : List Tm), TRel L gv n → (live L).length = k → TRel (eL now L).1 gv n := by
    intro k
    induction k with
    | zero => intro L r hk; rw [eL, hk]; exact r
    | succ k ih =>
      intro L r hk
      cases h : fstP L with
      | none => rw [eL_none h]; exact r
      | some x =>
        obtain ⟨i, t⟩ := x
        have hf := fstP_some h
        by_cases hn : t.tm ≤ now
        · have := live_rm r hf.at_ hf.g
          rw [eL_le r h hn]; exact ih _ (r.rm _) (by omega)
        · rw [eL_gt h hn]; exact r
  exact key _ L r rfl
abbrev nms (L : List Tm) : List (Nat × Nat) := L.map (fun t => (t.n, t.gen))
theorem nms_chg (L : List Tm) (k tm : Nat) : nms (chgL L k tm) = nms L := by
  rw [nms, chgL, List.map_map]; exact List.map_congr_left fun u _ => by simp only [Function.comp, chg1_n, chg1_gen]
theorem nms_rm (L : List Tm) (k : Nat) : nms (rmL L k) = nms L := by
  rw [nms, rmL, List.map_map]; exact List.map_congr_left fun u _ => by simp only [Function.comp, rm1_n, rm1_gen]
theorem nms_eL {L : List Tm} {gv : List Nat} {n now : Nat} (r : TRel L gv n) : nms (eL now L).1 = nms L :=
  eL_ind (fun L z => nms z.1 = nms L) (fun L _ => rfl) (fun L i t _ _ => rfl) (fun L gv n i t z r h hn ih => by dsimp only; rw [ih, nms_rm]) _ L gv n r rfl
theorem HIs.free {W : List WE} {g : HM} (h : HIs W g) : ∃ f, IsFree W f := ⟨fr g.E, ⟨fun w hw e => h.hp.fr_out (e ▸ h.hp.inn hw), fun _ hj => (h.hp.mem _).1 (h.hp.below hj)⟩⟩
theorem TIs.live_len {L : List Tm} {m : TmM} (h : TIs L m) : (live L).length ≤ 1024 := by
  have h1 := h.h.hp.cap; rw [h.h.hp.len, List.length_map] at h1; exact h1
theorem Spec.none {P : Program} {f : FuncId} {args : List Value} {H : Heap} {post : Value → Heap → Prop} (e : TypeId) (h : Spec P f args H (fun r H' => ∃ x : Ent, (x.b = Option.none ∧ x.o = cl [] e) ∧ post r (x :: H'))) : Spec P f args H post :=
  ⟨h.enters, fun w hw => (h.calls w hw).mono fun _ _ ⟨v, H', e1, ⟨x, ⟨hx, hx2⟩, p⟩, r⟩ => ⟨v, x :: H', e1, p, by
    obtain ⟨b, o⟩ := x
    dsimp only at hx hx2
    subst hx hx2
    exact r.addNone e⟩⟩
/-! calls with any arguments -/
theorem mset_any (L : List Tm) (m : TmM) (ht : TIs L m) (hb : m.g.n + 1 < 9000000000000000000) (k : Nat) (hk : k ≤ 18446744073709551615) (own : Int) : Spec Try.prog 35 [ptrH m.pt, .int .u64 (k : Int), .int .i64 own] (tmH m)
    (fun r H' => ∃ (m' : TmM) (L' : List Tm) (a b : Nat) (e : Int), r = .tuple #[.agg #[.int .i64 (a : Int), .int .i64 (b : Int)], .int .i64 e] ∧ H' = tmH m' ∧ m'.pt = m.pt ∧ m'.g.n ≤ m.g.n + 1 ∧ TIs L' m' ∧
      ((k = 18446744073709551615 ∧ e = 2 ∧ L' = L) ∨ (k < 18446744073709551615 ∧ 1024 ≤ (live L).length ∧ e = 7 ∧ L' = L) ∨ (k < 18446744073709551615 ∧ (live L).length < 1024 ∧ e = 0 ∧ IsFree (wl L) a ∧ b = cnt L a ∧ L' = L ++ [⟨a, b, own, k, false, m.g.n + 1⟩]))) := by
  by_cases h1 : k = 18446744073709551615
  · subst h1
    exact (mset_arg L m ht own).mono fun r H' ⟨e1, e2⟩ => ⟨m, L, 0, 0, 2, e1, e2, rfl, by omega, ht, .inl ⟨rfl, rfl, rfl⟩⟩
  · by_cases h2 : 1024 ≤ (live L).length
    · exact (mset_full L m ht h2 k (by omega) own).mono fun r H' ⟨e1, e2⟩ => ⟨m, L, 0, 0, 7, e1, e2, rfl, by omega, ht, .inr (.inl ⟨by omega, h2, rfl, rfl⟩)⟩
    · obtain ⟨f, hf⟩ := ht.h.free
      exact (mset_ok L m ht (by omega) hb f hf k (by omega) own).mono fun r H' ⟨m', e1, e2, e3, e4, e5⟩ => ⟨m', _, f, cnt L f, 0, e1, e2, e3, by omega, e5, .inr (.inr ⟨by omega, by omega, rfl, hf, rfl, rfl⟩)⟩
theorem mstop_any (L : List Tm) (m : TmM) (ht : TIs L m) (N G : Int) (hG : -9223372036854775808 ≤ G ∧ G ≤ 9223372036854775807) : Spec Try.prog 33 [ptrH m.pt, .agg #[.int .i64 N, .int .i64 G]] (tmH m)
    (fun r H' => ∃ (m' : TmM) (L' : List Tm) (e : Int), r = .int .i64 e ∧ H' = tmH m' ∧ m'.pt = m.pt ∧ m'.g.n = m.g.n ∧ TIs L' m' ∧
      (((¬ ∃ t ∈ L, t.gone = false ∧ (t.n : Int) = N ∧ (t.gen : Int) = G) ∧ e = 9 ∧ L' = L) ∨ (∃ t ∈ L, t.gone = false ∧ (t.n : Int) = N ∧ (t.gen : Int) = G ∧ e = 0 ∧ L' = rmL L t.n))) := by
  by_cases h2 : ∃ t ∈ L, t.gone = false ∧ (t.n : Int) = N ∧ (t.gen : Int) = G
  · obtain ⟨t, h3, h4, rfl, rfl⟩ := h2
    exact (mstop_ok L m ht t h3 h4).mono fun r H' ⟨m', e1, e2, e3, e4, e5⟩ => ⟨m', _, 0, e1, e2, e3, e4, e5, .inr ⟨t, h3, h4, rfl, rfl, rfl, rfl⟩⟩
  · exact (mstop_no L m ht N G hG h2).mono fun r H' ⟨e1, e2⟩ => ⟨m, L, 9, e1, e2, rfl, rfl, ht, .inl ⟨h2, rfl, rfl⟩⟩
theorem mexp_e (L : List Tm) (m : TmM) (ht : TIs L m) (now : Nat) (hnow : now < 18446744073709551615) : Spec Try.prog 39 [ptrH m.pt, .int .u64 (now : Int)] (tmH m)
    (fun r H' => ∃ ob c tl, ∃ m' : TmM, r = slV ob (eL now L).2.length c ∧ Own ob (eL now L).2.length c 4 ((eL now L).2.flatMap encDu) tl ∧
      H' = ⟨ob, cl ((eL now L).2.flatMap encDu ++ tl) 94⟩ :: tmH m' ∧ m'.pt = m.pt ∧ m'.g.n = m.g.n ∧ TIs (eL now L).1 m') := mexp_ok L m ht now hnow
/-- At Never nothing expires. -/
def xL (now : Nat) (L : List Tm) : List Tm × List Tm := if now = 18446744073709551615 then (L, []) else eL now L
theorem mexp_any (L : List Tm) (m : TmM) (ht : TIs L m) (now : Nat) (hnow : now ≤ 18446744073709551615) : Spec Try.prog 39 [ptrH m.pt, .int .u64 (now : Int)] (tmH m)
    (fun r H' => ∃ ob c tl, ∃ m' : TmM, r = slV ob (xL now L).2.length c ∧ Own ob (xL now L).2.length c 4 ((xL now L).2.flatMap encDu) tl ∧
      H' = ⟨ob, cl ((xL now L).2.flatMap encDu ++ tl) 94⟩ :: tmH m' ∧ m'.pt = m.pt ∧ m'.g.n = m.g.n ∧ TIs (xL now L).1 m') := by
  unfold xL
  by_cases h1 : now = 18446744073709551615
  · subst h1
    simp only [if_true]
    exact Spec.none 94 ((mexp_never L m ht).mono fun r H' ⟨e1, e2⟩ => ⟨⟨none, cl [] 94⟩, ⟨rfl, rfl⟩, none, 0, [], m, e1, Own.empty 4, by rw [e2]; rfl, rfl, rfl, ht⟩)
  · simp only [if_neg h1]
    exact mexp_ok L m ht now (by omega)

end Go.Proofs.Ytnkpefonocggfaa

/-
  A region that draws its order and whose stores wait for its loads: the loads read memory as it was when the region began.
-/
import Derived.Test.YtiokpmgbabpikaaSLSlice
namespace Go.Proofs.Ytiokpmgbabpikaa
open Go.RowKit (Below)
section
variable (X : Ctx) (ops : Array Oper) (p : Post) (C : World → Prop) (N : List Nat)
def AnyD : Nat → Array Bool → Act → World → Prop
  | 0, listed, a, w => Region.ready .any ops listed = [] ∧ p.nrm a w
  | fuel + 1, listed, a, w => (Region.ready .any ops listed = [] → p.nrm a w) ∧
    ∀ i ∈ Region.ready .any ops listed, wpOpIn (fen X.ro) 0 X.P ops p.toQ i (fun a' w' => C w' ∧ (N.contains i = false → Bel w w') ∧ ∀ w'', Bel w' w'' → AnyD fuel (listed.setIfInBounds i true) a' w'') a w
end
section
variable {X : Ctx} {ops : Array Oper} {p : Post} {C C1 : World → Prop} {N : List Nat}
theorem AnyD.sound : ∀ (fuel : Nat) (listed : Array Bool) (a : Act) (w : World), AnyD X ops p C N fuel listed a w → wpAnyIn (fen X.ro) 0 X.P .any ops p.toQ fuel listed a w
  | 0, _, _, _, h => h
  | fuel + 1, _, _, _, h => ⟨h.1, fun i hi => wpOpIn_mono (fun a' w' k => AnyD.sound fuel _ a' w' (k.2.2 w' (Bel.refl _))) (h.2 i hi)⟩
/-- A quiet operation, of any world in C. -/
theorem AnyD.take {i : Nat} {oi : Oper} {v : Value} (hCb : ∀ w w', C w → Bel w w' → C w') (hi : ops[i]? = some oi) (hsd : noSD ops = true) :
    ∀ (fuel : Nat) (listed : Array Bool) (a : Act) (w : World),
      (∀ j oj, ops[j]? = some oj → j ≠ i → listed.getD j true = false → (∀ e ∈ oj.after, Region.binds .any e = true → e.on ≠ i) → oi.apart ops oj = true) →
      i ∈ Region.ready .any ops listed → YieldsC X ops C oi v a → C w →
      (∀ w', Bel w w' → AnyD X ops p C N fuel (listed.setIfInBounds i true) (a.put oi.dst v) w') → AnyD X ops p C N (fuel + 1) listed a w := by
  intro fuel
  induction fuel with
  | zero =>
    intro listed a w _ hr hy hC H
    refine ⟨fun h => (by rw [h] at hr; cases hr), fun j hj => ?_⟩
    by_cases hji : j = i
    · subst hji
      exact hy.wpOp hi (noSD_sel hsd hi).2 hC fun w' hb => ⟨hCb w w' hC hb, fun _ => hb, fun w'' hb' => H w'' (hb.trans' hb')⟩
    · have := ready_mono hj hji
      rw [(H w (Bel.refl _)).1] at this
      cases this
  | succ fuel ih =>
    intro listed a w hfree hr hy hC H
    refine ⟨fun h => (by rw [h] at hr; cases hr), fun j hj => ?_⟩
    by_cases hji : j = i
    · subst hji
      exact hy.wpOp hi (noSD_sel hsd hi).2 hC fun w' hb => ⟨hCb w w' hC hb, fun _ => hb, fun w'' hb' => H w'' (hb.trans' hb')⟩
    · have h1 := (H w (Bel.refl _)).2 j (ready_mono hj hji)
      obtain ⟨hjun, oj, hoj, hall⟩ := mem_ready.1 hj
      have hnot : ∀ e ∈ oj.after, Region.binds .any e = true → e.on ≠ i := fun e he hb heq => by
        have h1 := hall e he hb
        have h0 := (mem_ready.1 hr).1
        rw [heq] at h1
        rcases Nat.lt_or_ge i listed.size with h' | h'
        · simp [h'] at h0 h1; rw [h0] at h1; cases h1
        · simp [Array.getElem?_eq_none h'] at h1
      have h2 := wpOpIn_putC hoj (hfree j oj hoj hji hjun hnot) (noSD_sel hsd hi).1 (noSD_sel hsd hoj).1 (noSD_sel hsd hoj).2 hy h1
      have hfree' : ∀ k ok, ops[k]? = some ok → k ≠ i → (listed.setIfInBounds j true).getD k true = false →
          (∀ e ∈ ok.after, Region.binds .any e = true → e.on ≠ i) → oi.apart ops ok = true := fun k ok hk hki hun hno => by
        refine hfree k ok hk hki ?_ hno
        by_cases hjk : j = k
        · subst hjk; exact hjun
        · rw [getD_set_ne true hjk] at hun; exact hun
      refine wpOpIn_mono (fun a' w' h3 => ⟨h3.2.1, h3.2.2.1, fun w'' hb => ?_⟩) h2
      refine ih (listed.setIfInBounds j true) a' w'' hfree' (ready_mono hr (Ne.symm hji)) h3.1 (hCb _ _ h3.2.1 hb) fun w3 hb3 => ?_
      rw [Array.setIfInBounds_comm _ _ hji]
      exact h3.2.2.2 w3 (hb.trans' hb3)
/-- What an operation waits for, near and far. -/
def reach (ops : Array Oper) (i : Nat) : Nat → Nat → Bool
  | 0, _ => false
  | n + 1, j => match ops[j]? with
    | some oj => oj.after.any fun e => Region.binds .any e && (e.on == i || reach ops i n e.on)
    | none => false
/-- What is listed, has all that it waits for listed. -/
def Closed (ops : Array Oper) (listed : Array Bool) : Prop := ∀ (k : Nat) (ok : Oper), ops[k]? = some ok → listed.getD k true = true → ∀ e ∈ ok.after, Region.binds .any e = true → listed.getD e.on true = true
theorem Closed.reach {listed : Array Bool} (hc : Closed ops listed) (i : Nat) : ∀ (n j : Nat) (oj : Oper), ops[j]? = some oj → (∀ e ∈ oj.after, Region.binds .any e = true → listed.getD e.on true = true) → reach ops i n j = true → listed.getD i true = true
  | 0, _, _, _, _, h => by cases h
  | n + 1, j, oj, hj, hd, h => by
    simp only [Go.Proofs.Ytiokpmgbabpikaa.reach, hj, Array.any_eq_true] at h
    obtain ⟨k, hk, h2⟩ := h
    simp only [Bool.and_eq_true, Bool.or_eq_true, beq_iff_eq] at h2
    have h3 := hd _ (Array.getElem_mem hk) h2.1
    rcases h2.2 with e | e
    · rw [← e]; exact h3
    · cases ho : ops[oj.after[k].on]? with
      | none => 
        cases n with
        | zero => cases e
        | succ n => simp only [Go.Proofs.Ytiokpmgbabpikaa.reach, ho] at e; cases e
      | some o2 => exact Closed.reach hc i n _ o2 ho (hc _ o2 ho h3) e
theorem getD_up {listed : Array Bool} {k : Nat} (h : listed.getD k false = true) : listed.getD k true = true := by
  rw [Array.getD_eq_getD_getElem?] at h ⊢
  cases e : listed[k]? with
  | none => rfl
  | some b => rw [e] at h; exact h
theorem getD_set {listed : Array Bool} {j k : Nat} (h : listed.getD k true = true) : (listed.setIfInBounds j true).getD k true = true := by
  by_cases e : j = k
  · subst e
    simp only [Array.getD_eq_getD_getElem?, Array.getElem?_setIfInBounds]
    by_cases h2 : j < listed.size <;> simp [h2]
  · rw [getD_set_ne true e]; exact h
theorem Closed.step {listed : Array Bool} (hc : Closed ops listed) {j : Nat} (hj : j ∈ Region.ready .any ops listed) : Closed ops (listed.setIfInBounds j true) := by
  intro k ok hk hl e he hb
  obtain ⟨_, oj, hoj, hall⟩ := mem_ready.1 hj
  by_cases ek : j = k
  · subst ek
    rw [hoj] at hk
    have := Option.some.inj hk
    subst this
    exact getD_set (getD_up (hall e he hb))
  · rw [getD_set_ne true ek] at hl
    exact getD_set (hc k ok hk hl e he hb)
/-- A quiet operation that all that turns something waits for: of any world in C1. -/
theorem AnyD.take1 {i : Nat} {oi : Oper} {v : Value} (h1b : ∀ w w', C1 w → Bel w w' → C1 w') (h1C : ∀ w, C1 w → C w) (hi : ops[i]? = some oi) (hsd : noSD ops = true)
    (hN : ∀ j oj, N.contains j = true → ops[j]? = some oj → ∃ n, reach ops i n j = true) :
    ∀ (fuel : Nat) (listed : Array Bool) (a : Act) (w : World), Closed ops listed →
      (∀ j oj, ops[j]? = some oj → j ≠ i → listed.getD j true = false → (∀ e ∈ oj.after, Region.binds .any e = true → e.on ≠ i) → oi.apart ops oj = true) →
      i ∈ Region.ready .any ops listed → YieldsC X ops C1 oi v a → C1 w →
      (∀ w', Bel w w' → AnyD X ops p C N fuel (listed.setIfInBounds i true) (a.put oi.dst v) w') → AnyD X ops p C N (fuel + 1) listed a w := by
  intro fuel
  induction fuel with
  | zero =>
    intro listed a w _ _ hr hy hC H
    refine ⟨fun h => (by rw [h] at hr; cases hr), fun j hj => ?_⟩
    by_cases hji : j = i
    · subst hji
      exact hy.wpOp hi (noSD_sel hsd hi).2 hC fun w' hb => ⟨h1C _ (h1b w w' hC hb), fun _ => hb, fun w'' hb' => H w'' (hb.trans' hb')⟩
    · have := ready_mono hj hji
      rw [(H w (Bel.refl _)).1] at this
      cases this
  | succ fuel ih =>
    intro listed a w hcl hfree hr hy hC H
    refine ⟨fun h => (by rw [h] at hr; cases hr), fun j hj => ?_⟩
    by_cases hji : j = i
    · subst hji
      exact hy.wpOp hi (noSD_sel hsd hi).2 hC fun w' hb => ⟨h1C _ (h1b w w' hC hb), fun _ => hb, fun w'' hb' => H w'' (hb.trans' hb')⟩
    · have h1 := (H w (Bel.refl _)).2 j (ready_mono hj hji)
      obtain ⟨hjun, oj, hoj, hall⟩ := mem_ready.1 hj
      have hnot : ∀ e ∈ oj.after, Region.binds .any e = true → e.on ≠ i := fun e he hb heq => by
        have h1 := hall e he hb
        have h0 := (mem_ready.1 hr).1
        rw [heq] at h1
        rcases Nat.lt_or_ge i listed.size with h' | h'
        · simp [h'] at h0 h1; rw [h0] at h1; cases h1
        · simp [Array.getElem?_eq_none h'] at h1
      have hjN : N.contains j = false := by
        cases hc : N.contains j with
        | false => rfl
        | true =>
          obtain ⟨n, hn⟩ := hN j oj hc hoj
          have h8 := hcl.reach i n j oj hoj (fun e he hb => getD_up (hall e he hb)) hn
          have h9 := (mem_ready.1 hr).1
          rw [h8] at h9; cases h9
      have h2 := wpOpIn_putC hoj (hfree j oj hoj hji hjun hnot) (noSD_sel hsd hi).1 (noSD_sel hsd hoj).1 (noSD_sel hsd hoj).2 hy h1
      have hfree' : ∀ k ok, ops[k]? = some ok → k ≠ i → (listed.setIfInBounds j true).getD k true = false →
          (∀ e ∈ ok.after, Region.binds .any e = true → e.on ≠ i) → oi.apart ops ok = true := fun k ok hk hki hun hno => by
        refine hfree k ok hk hki ?_ hno
        by_cases hjk : j = k
        · subst hjk; exact hjun
        · rw [getD_set_ne true hjk] at hun; exact hun
      refine wpOpIn_mono (fun a' w' h3 => ⟨h3.2.1, h3.2.2.1, fun w'' hb => ?_⟩) h2
      refine ih (listed.setIfInBounds j true) a' w'' (hcl.step hj) hfree' (ready_mono hr (Ne.symm hji)) h3.1 (h1b _ _ (h1b _ _ hC (h3.2.2.1 hjN)) hb) fun w3 hb3 => ?_
      rw [Array.setIfInBounds_comm _ _ hji]
      exact h3.2.2.2 w3 (hb.trans' hb3)
def noisyOf (r : List (Nat × Bool)) : List Nat := (r.filter (fun t => !t.2)).map (·.1)
theorem MW.anyD (hCb : ∀ w w', C w → Bel w w' → C w') (hsd : noSD ops = true) : ∀ (l : List (Nat × Bool)) (listed : Array Bool) (a : Act) (w : World), orderB ops l listed = true → (∀ t ∈ l, t.2 = false → N.contains t.1 = true) → C w → MW X ops p C l a w →
    AnyD X ops p C N l.length listed a w
  | [], listed, a, w, hB, _, _, h => ⟨by simpa [orderB] using hB, h⟩
  | (i, true) :: r, listed, a, w, hB, hn, hC, h => by
    simp only [orderB, cond_true, Bool.and_eq_true, List.contains_iff_mem] at hB
    obtain ⟨⟨h1, h2⟩, h3⟩ := hB
    obtain ⟨o, v, ho, hy, hk⟩ := h
    exact AnyD.take hCb ho hsd r.length listed a w (Region.free_spec ho h2) h1 hy hC fun w' hb => MW.anyD hCb hsd r _ _ w' h3 (fun t ht => hn t (List.mem_cons_of_mem _ ht)) (hCb w w' hC hb) (hk w' hb)
  | (i, false) :: r, listed, a, w, hB, hn, hC, h => by
    simp only [orderB, cond_false, Bool.and_eq_true, beq_iff_eq] at hB
    obtain ⟨h1, h3⟩ := hB
    refine ⟨fun e => (by rw [h1] at e; cases e), fun j hj => ?_⟩
    rw [h1, List.mem_singleton] at hj
    subst hj
    exact wpOpIn_mono (fun a' w' hk => ⟨hk.1, fun hf => (by rw [hn (j, false) (List.mem_cons_self ..) rfl] at hf; cases hf), fun w'' hb => MW.anyD hCb hsd r _ _ w'' h3 (fun t ht => hn t (List.mem_cons_of_mem _ ht)) (hCb _ _ hk.1 hb) (hk.2 w'' hb)⟩) h
/-- The first part: '(i, true)' reads memory as it was; '(i, false)': quiet in any world. -/
def ME (X : Ctx) (ops : Array Oper) (p : Post) (C1 C : World → Prop) (r : List (Nat × Bool)) : List (Nat × Bool) → Act → World → Prop
  | [], a, w => MW X ops p C r a w
  | (i, true) :: es, a, w => ∃ o v, ops[i]? = some o ∧ YieldsC X ops C1 o v a ∧ ∀ w', Bel w w' → ME X ops p C1 C r es (a.put o.dst v) w'
  | (i, false) :: es, a, w => ∃ o v, ops[i]? = some o ∧ YieldsC X ops C o v a ∧ ∀ w', Bel w w' → ME X ops p C1 C r es (a.put o.dst v) w'
def waitsFor (ops : Array Oper) (N : List Nat) (i : Nat) : Bool := N.all fun j => reach ops i ops.size j
def orderE (ops : Array Oper) (N : List Nat) (r : List (Nat × Bool)) : List (Nat × Bool) → Array Bool → Bool
  | [], listed => orderB ops r listed
  | (i, q) :: es, listed => (Region.ready .any ops listed).contains i && Region.free .any ops listed i && (!q || waitsFor ops N i) && orderE ops N r es (listed.setIfInBounds i true)
theorem waitsFor_spec {i : Nat} (h : waitsFor ops N i = true) (j : Nat) (oj : Oper) (hj : N.contains j = true) (_ : ops[j]? = some oj) : ∃ n, reach ops i n j = true :=
  ⟨_, List.all_eq_true.1 h j (List.contains_iff_mem.1 hj)⟩
theorem ME.anyD (r : List (Nat × Bool)) (h1b : ∀ w w', C1 w → Bel w w' → C1 w') (h1C : ∀ w, C1 w → C w) (hCb : ∀ w w', C w → Bel w w' → C w') (hsd : noSD ops = true) :
    ∀ (es : List (Nat × Bool)) (listed : Array Bool) (a : Act) (w : World), Closed ops listed → orderE ops (noisyOf r) r es listed = true → C1 w → ME X ops p C1 C r es a w → AnyD X ops p C (noisyOf r) (es.length + r.length) listed a w
  | [], listed, a, w, _, hB, hC, h => by
    simp only [List.length_nil, Nat.zero_add]
    exact MW.anyD hCb hsd r listed a w hB (fun t ht hf => List.contains_iff_mem.2 (List.mem_map.2 ⟨t, List.mem_filter.2 ⟨ht, by rw [hf]; rfl⟩, rfl⟩)) (h1C w hC) h
  | (i, true) :: es, listed, a, w, hcl, hB, hC, h => by
    simp only [orderE, Bool.and_eq_true, List.contains_iff_mem, Bool.not_true, Bool.false_or] at hB
    obtain ⟨⟨⟨h1, h2⟩, h3⟩, h4⟩ := hB
    obtain ⟨o, v, ho, hy, hk⟩ := h
    rw [show ((i, true) :: es).length + r.length = (es.length + r.length) + 1 from by simp only [List.length_cons]; omega]
    exact AnyD.take1 h1b h1C ho hsd (waitsFor_spec h3) _ listed a w hcl (Region.free_spec ho h2) h1 hy hC fun w' hb => ME.anyD r h1b h1C hCb hsd es _ _ w' (hcl.step h1) h4 (h1b w w' hC hb) (hk w' hb)
  | (i, false) :: es, listed, a, w, hcl, hB, hC, h => by
    simp only [orderE, Bool.and_eq_true, List.contains_iff_mem] at hB
    obtain ⟨⟨⟨h1, h2⟩, _⟩, h4⟩ := hB
    obtain ⟨o, v, ho, hy, hk⟩ := h
    rw [show ((i, false) :: es).length + r.length = (es.length + r.length) + 1 from by simp only [List.length_cons]; omega]
    exact AnyD.take hCb ho hsd _ listed a w (Region.free_spec ho h2) h1 hy (h1C w hC) fun w' hb => ME.anyD r h1b h1C hCb hsd es _ _ w' (hcl.step h1) h4 (h1b w w' hC hb) (hk w' hb)
end
/-- The walk over states, first part. -/
def WZ (X : Ctx) (ops : Array Oper) (p : Post) (Hq : Heap) (r es : List (Nat × Bool)) (E : Env) (H : Heap) : Prop := ∀ a w, AE X E a → HW X.H0 X.w0 H w → ME X ops p (fun w => HW X.H0 X.w0 H w) (fun w => HW X.H0 X.w0 Hq w) r es a w
section
variable {X : Ctx} {ops : Array Oper} {p : Post} {Hq : Heap} {E : Env} {H F : Heap} {r es : List (Nat × Bool)} {i : Nat} {o : Oper}
theorem closed0 (l : List Oper) : Closed l.toArray (Array.replicate l.length false) := by
  intro k ok hk hl
  have : k < l.length := by
    have := (Array.getElem?_eq_some_iff.1 hk).1
    simpa using this
  simp [Array.getD_eq_getD_getElem?, this] at hl
theorem WC_drawE {id : Nat} {l : List Oper} (xs : Heap) (es ord : List (Nat × Bool)) (hm : X.P.follows .mixedOrders = true) (hsd : noSD l.toArray = true) (hlen : es.length + ord.length = l.length)
    (hB : orderE l.toArray (noisyOf ord) ord es (Array.replicate l.length false) = true) (hq : Pulls xs H Hq) (h : WZ X l.toArray p Hq ord es E H) : WC X (.region id l.toArray true) p E H := by
  intro a w ha hw
  refine wpIn_region_any hm ?_
  have hb : Bel w { w with drawn := w.drawn + 1 } := Bel.drew' w
  have hw1 := hw.bel hb
  have h1 := ME.anyD (X := X) (p := p) (C1 := fun w => HW X.H0 X.w0 H w) (C := fun w => HW X.H0 X.w0 Hq w) ord (fun _ _ h b => h.bel b) (fun _ h => pulls_rest hq h) (fun _ _ h b => h.bel b) hsd es _ a _ (closed0 l) hB hw1 (h a _ ha hw1)
  rw [hlen] at h1
  have := AnyD.sound _ _ _ _ h1
  simpa using this
theorem WZ_rest (h : WM X ops p Hq r E H) : WZ X ops p Hq r [] E H := h
theorem WZ_early {d : Nat} {v : Value} (ho : ops[i]? = some o) (hg : wantedE ops E o = some true) (hd : o.dst = some d) (hN : Nat.blt d X.N = true) (h : Runs X o E H v)
    (k : WZ X ops p Hq r es ((d, v) :: E) H) : WZ X ops p Hq r ((i, true) :: es) E H := fun a w ha hw =>
  ⟨o, v, ho, .inl ⟨wantedE_spec ha hg, fun w' hw' => .inl (h.2 a w' ha hw')⟩, fun w' hb => k _ _ (by rw [hd]; exact ha.put d v hN) (hw.bel hb)⟩
theorem WZ_val {d : Nat} {v : Value} (ho : ops[i]? = some o) (hg : wantedE ops E o = some true) (hd : o.dst = some d) (hN : Nat.blt d X.N = true) (h : Runs X o E Hq v)
    (k : WZ X ops p Hq r es ((d, v) :: E) H) : WZ X ops p Hq r ((i, false) :: es) E H := fun a w ha hw =>
  ⟨o, v, ho, .inl ⟨wantedE_spec ha hg, fun w' hw' => .inl (h.2 a w' ha hw')⟩, fun w' hb => k _ _ (by rw [hd]; exact ha.put d v hN) (hw.bel hb)⟩
end
end Go.Proofs.Ytiokpmgbabpikaa

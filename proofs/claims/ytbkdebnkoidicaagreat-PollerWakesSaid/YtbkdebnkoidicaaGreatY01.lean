/-
  Chapter 11 (poller), part TaskDL: contracts of functions that the laws call, each for the heap it names.
-/
import Derived.Test.YtbkdebnkoidicaaGreatY00
import Derived.Laws.IdiomRangeMap
import Derived.Laws.StructEq
import Derived.Test.YtbkdebnkoidicaaGreatRows
section
namespace Go.Proofs.YtbkdebnkoidicaaGreat
open Go.RowKit (Below)
section
variable (X : Ctx) (ops : Array Oper) (p : Post) (C : World → Prop) (N : List Nat)
def AnyD : Nat → Array Bool → Act → World → Prop
  | 0, listed, a, w => Region.ready .any ops listed = [] ∧ p.nrm a w
  | fuel + 1, listed, a, w => (Region.ready .any ops listed = [] → p.nrm a w) ∧
    ∀ i ∈ Region.ready .any ops listed, wpOpIn (fen X.ro) 0 X.P ops p.toQ i (fun a' w' => C w' ∧ (N.contains i = false → Bel w w') ∧ ∀ w'', Bel w' w'' → AnyD fuel (listed.setIfInBounds i true) a' w'') a w
end
section
variable {X : Ctx} {ops : Array Oper} {p : Post} {C C1 : World → Prop} {N : List Nat}
theorem AnyD.sound : ∀ (fuel : Nat) (listed : Array Bool) (a : Act) (w : World), AnyD X ops p C N fuel listed a w → wpAnyIn (fen X.ro) 0 X.P .any ops p.toQ fuel listed a w
  | 0, _, _, _, h => h
  | fuel + 1, _, _, _, h => ⟨h.1, fun i hi => wpOpIn_mono (fun a' w' k => AnyD.sound fuel _ a' w' (k.2.2 w' (Bel.refl _))) (h.2 i hi)⟩
/-- A quiet operation, of any world in C. -/
theorem AnyD.take {i : Nat} {oi : Oper} {v : Value} (hCb : ∀ w w', C w → Bel w w' → C w') (hi : ops[i]? = some oi) (hsd : noSD ops = true) :
    ∀ (fuel : Nat) (listed : Array Bool) (a : Act) (w : World),
      (∀ j oj, ops[j]? = some oj → j ≠ i → listed.getD j true = false → (∀ e ∈ oj.after, Region.binds .any e = true → e.on ≠ i) → oi.apart ops oj = true) →
      i ∈ Region.ready .any ops listed → YieldsC X ops C oi v a → C w →
      (∀ w', Bel w w' → AnyD X ops p C N fuel (listed.setIfInBounds i true) (a.put oi.dst v) w') → AnyD X ops p C N (fuel + 1) listed a w := by
  intro fuel
  induction fuel with
  | zero =>
    intro listed a w _ hr hy hC H
    refine ⟨fun h => (by rw [h] at hr; cases hr), fun j hj => ?_⟩
    by_cases hji : j = i
    · subst hji
      exact hy.wpOp hi (noSD_sel hsd hi).2 hC fun w' hb => ⟨hCb w w' hC hb, fun _ => hb, fun w'' hb' => H w'' (hb.trans' hb')⟩
    · have := ready_mono hj hji
      rw [(H w (Bel.refl _)).1] at this
      cases this
  | succ fuel ih =>
    intro listed a w hfree hr hy hC H
    refine ⟨fun h => (by rw [h] at hr; cases hr), fun j hj => ?_⟩
    by_cases hji : j = i
    · subst hji
      exact hy.wpOp hi (noSD_sel hsd hi).2 hC fun w' hb => ⟨hCb w w' hC hb, fun _ => hb, fun w'' hb' => H w'' (hb.trans' hb')⟩
    · have h1 := (H w (Bel.refl _)).2 j (ready_mono hj hji)
      obtain ⟨hjun, oj, hoj, hall⟩ := mem_ready.1 hj
      have hnot : ∀ e ∈ oj.after, Region.binds .any e = true → e.on ≠ i := fun e he hb heq => by
        have h1 := hall e he hb
        have h0 := (mem_ready.1 hr).1
        rw [heq] at h1
        rcases Nat.lt_or_ge i listed.size with h' | h'
        · simp [h'] at h0 h1; rw [h0] at h1; cases h1
        · simp [Array.getElem?_eq_none h'] at h1
      have h2 := wpOpIn_putC hoj (hfree j oj hoj hji hjun hnot) (noSD_sel hsd hi).1 (noSD_sel hsd hoj).1 (noSD_sel hsd hoj).2 hy h1
      have hfree' : ∀ k ok, ops[k]? = some ok → k ≠ i → (listed.setIfInBounds j true).getD k true = false →
          (∀ e ∈ ok.after, Region.binds .any e = true → e.on ≠ i) → oi.apart ops ok = true := fun k ok hk hki hun hno => by
        refine hfree k ok hk hki ?_ hno
        by_cases hjk : j = k
        · subst hjk; exact hjun
        · rw [getD_set_ne true hjk] at hun; exact hun
      refine wpOpIn_mono (fun a' w' h3 => ⟨h3.2.1, h3.2.2.1, fun w'' hb => ?_⟩) h2
      refine ih (listed.setIfInBounds j true) a' w'' hfree' (ready_mono hr (Ne.symm hji)) h3.1 (hCb _ _ h3.2.1 hb) fun w3 hb3 => ?_
      rw [Array.setIfInBounds_comm _ _ hji]
      exact h3.2.2.2 w3 (hb.trans' hb3)
/-- What an operation waits for, near and far. -/
def reach (ops : Array Oper) (i : Nat) : Nat → Nat → Bool
  | 0, _ => false
  | n + 1, j => match ops[j]? with
    | some oj => oj.after.any fun e => Region.binds .any e && (e.on == i || reach ops i n e.on)
    | none => false
/-- What is listed, has all that it waits for listed. -/
def Closed (ops : Array Oper) (listed : Array Bool) : Prop := ∀ (k : Nat) (ok : Oper), ops[k]? = some ok → listed.getD k true = true → ∀ e ∈ ok.after, Region.binds .any e = true → listed.getD e.on true = true
theorem Closed.reach {listed : Array Bool} (hc : Closed ops listed) (i : Nat) : ∀ (n j : Nat) (oj : Oper), ops[j]? = some oj → (∀ e ∈ oj.after, Region.binds .any e = true → listed.getD e.on true = true) → reach ops i n j = true → listed.getD i true = true
  | 0, _, _, _, _, h => by cases h
  | n + 1, j, oj, hj, hd, h => by
    simp only [Go.Proofs.YtbkdebnkoidicaaGreat.reach, hj, Array.any_eq_true] at h
    obtain ⟨k, hk, h2⟩ := h
    simp only [Bool.and_eq_true, Bool.or_eq_true, beq_iff_eq] at h2
    have h3 := hd _ (Array.getElem_mem hk) h2.1
    rcases h2.2 with e | e
    · rw [← e]; exact h3
    · cases ho : ops[oj.after[k].on]? with
      | none => 
        cases n with
        | zero => cases e
        | succ n => simp only [Go.Proofs.YtbkdebnkoidicaaGreat.reach, ho] at e; cases e
      | some o2 => exact Closed.reach hc i n _ o2 ho (hc _ o2 ho h3) e
theorem getD_up {listed : Array Bool} {k : Nat} (h : listed.getD k false = true) : listed.getD k true = true := by
  rw [Array.getD_eq_getD_getElem?] at h ⊢
  cases e : listed[k]? with
  | none => rfl
  | some b => rw [e] at h; exact h
theorem getD_set {listed : Array Bool} {j k : Nat} (h : listed.getD k true = true) : (listed.setIfInBounds j true).getD k true = true := by
  by_cases e : j = k
  · subst e
    simp only [Array.getD_eq_getD_getElem?, Array.getElem?_setIfInBounds]
    by_cases h2 : j < listed.size <;> simp [h2]
  · rw [getD_set_ne true e]; exact h
theorem Closed.step {listed : Array Bool} (hc : Closed ops listed) {j : Nat} (hj : j ∈ Region.ready .any ops listed) : Closed ops (listed.setIfInBounds j true) := by
  intro k ok hk hl e he hb
  obtain ⟨_, oj, hoj, hall⟩ := mem_ready.1 hj
  by_cases ek : j = k
  · subst ek
    rw [hoj] at hk
    have := Option.some.inj hk
    subst this
    exact getD_set (getD_up (hall e he hb))
  · rw [getD_set_ne true ek] at hl
    exact getD_set (hc k ok hk hl e he hb)
/-- A quiet operation that all that turns something waits for: of any world in C1. -/
theorem AnyD.take1 {i : Nat} {oi : Oper} {v : Value} (h1b : ∀ w w', C1 w → Bel w w' → C1 w') (h1C : ∀ w, C1 w → C w) (hi : ops[i]? = some oi) (hsd : noSD ops = true)
    (hN : ∀ j oj, N.contains j = true → ops[j]? = some oj → ∃ n, reach ops i n j = true) :
    ∀ (fuel : Nat) (listed : Array Bool) (a : Act) (w : World), Closed ops listed →
      (∀ j oj, ops[j]? = some oj → j ≠ i → listed.getD j true = false → (∀ e ∈ oj.after, Region.binds .any e = true → e.on ≠ i) → oi.apart ops oj = true) →
      i ∈ Region.ready .any ops listed → YieldsC X ops C1 oi v a → C1 w →
      (∀ w', Bel w w' → AnyD X ops p C N fuel (listed.setIfInBounds i true) (a.put oi.dst v) w') → AnyD X ops p C N (fuel + 1) listed a w := by
  intro fuel
  induction fuel with
  | zero =>
    intro listed a w _ _ hr hy hC H
    refine ⟨fun h => (by rw [h] at hr; cases hr), fun j hj => ?_⟩
    by_cases hji : j = i
    · subst hji
      exact hy.wpOp hi (noSD_sel hsd hi).2 hC fun w' hb => ⟨h1C _ (h1b w w' hC hb), fun _ => hb, fun w'' hb' => H w'' (hb.trans' hb')⟩
    · have := ready_mono hj hji
      rw [(H w (Bel.refl _)).1] at this
      cases this
  | succ fuel ih =>
    intro listed a w hcl hfree hr hy hC H
    refine ⟨fun h => (by rw [h] at hr; cases hr), fun j hj => ?_⟩
    by_cases hji : j = i
    · subst hji
      exact hy.wpOp hi (noSD_sel hsd hi).2 hC fun w' hb => ⟨h1C _ (h1b w w' hC hb), fun _ => hb, fun w'' hb' => H w'' (hb.trans' hb')⟩
    · have h1 := (H w (Bel.refl _)).2 j (ready_mono hj hji)
      obtain ⟨hjun, oj, hoj, hall⟩ := mem_ready.1 hj
      have hnot : ∀ e ∈ oj.after, Region.binds .any e = true → e.on ≠ i := fun e he hb heq => by
        have h1 := hall e he hb
        have h0 := (mem_ready.1 hr).1
        rw [heq] at h1
        rcases Nat.lt_or_ge i listed.size with h' | h'
        · simp [h'] at h0 h1; rw [h0] at h1; cases h1
        · simp [Array.getElem?_eq_none h'] at h1
      have hjN : N.contains j = false := by
        cases hc : N.contains j with
        | false => rfl
        | true =>
          obtain ⟨n, hn⟩ := hN j oj hc hoj
          have h8 := hcl.reach i n j oj hoj (fun e he hb => getD_up (hall e he hb)) hn
          have h9 := (mem_ready.1 hr).1
          rw [h8] at h9; cases h9
      have h2 := wpOpIn_putC hoj (hfree j oj hoj hji hjun hnot) (noSD_sel hsd hi).1 (noSD_sel hsd hoj).1 (noSD_sel hsd hoj).2 hy h1
      have hfree' : ∀ k ok, ops[k]? = some ok → k ≠ i → (listed.setIfInBounds j true).getD k true = false →
          (∀ e ∈ ok.after, Region.binds .any e = true → e.on ≠ i) → oi.apart ops ok = true := fun k ok hk hki hun hno => by
        refine hfree k ok hk hki ?_ hno
        by_cases hjk : j = k
        · subst hjk; exact hjun
        · rw [getD_set_ne true hjk] at hun; exact hun
      refine wpOpIn_mono (fun a' w' h3 => ⟨h3.2.1, h3.2.2.1, fun w'' hb => ?_⟩) h2
      refine ih (listed.setIfInBounds j true) a' w'' (hcl.step hj) hfree' (ready_mono hr (Ne.symm hji)) h3.1 (h1b _ _ (h1b _ _ hC (h3.2.2.1 hjN)) hb) fun w3 hb3 => ?_
      rw [Array.setIfInBounds_comm _ _ hji]
      exact h3.2.2.2 w3 (hb.trans' hb3)
def noisyOf (r : List (Nat × Bool)) : List Nat := (r.filter (fun t => !t.2)).map (·.1)
theorem MW.anyD (hCb : ∀ w w', C w → Bel w w' → C w') (hsd : noSD ops = true) : ∀ (l : List (Nat × Bool)) (listed : Array Bool) (a : Act) (w : World), orderB ops l listed = true → (∀ t ∈ l, t.2 = false → N.contains t.1 = true) → C w → MW X ops p C l a w →
    AnyD X ops p C N l.length listed a w
  | [], listed, a, w, hB, _, _, h => ⟨by simpa [orderB] using hB, h⟩
  | (i, true) :: r, listed, a, w, hB, hn, hC, h => by
    simp only [orderB, cond_true, Bool.and_eq_true, List.contains_iff_mem] at hB
    obtain ⟨⟨h1, h2⟩, h3⟩ := hB
    obtain ⟨o, v, ho, hy, hk⟩ := h
    exact AnyD.take hCb ho hsd r.length listed a w (Region.free_spec ho h2) h1 hy hC fun w' hb => MW.anyD hCb hsd r _ _ w' h3 (fun t ht => hn t (List.mem_cons_of_mem _ ht)) (hCb w w' hC hb) (hk w' hb)
  | (i, false) :: r, listed, a, w, hB, hn, hC, h => by
    simp only [orderB, cond_false, Bool.and_eq_true, beq_iff_eq] at hB
    obtain ⟨h1, h3⟩ := hB
    refine ⟨fun e => (by rw [h1] at e; cases e), fun j hj => ?_⟩
    rw [h1, List.mem_singleton] at hj
    subst hj
    exact wpOpIn_mono (fun a' w' hk => ⟨hk.1, fun hf => (by rw [hn (j, false) (List.mem_cons_self ..) rfl] at hf; cases hf), fun w'' hb => MW.anyD hCb hsd r _ _ w'' h3 (fun t ht => hn t (List.mem_cons_of_mem _ ht)) (hCb _ _ hk.1 hb) (hk.2 w'' hb)⟩) h
/-- The first part: '(i, true)' reads memory ars it was; '(i, false)': quiet in any world. -/
def ME (X : Ctx) (ops : Array Oper) (p : Post) (C1 C : World → Prop) (r : List (Nat × Bool)) : List (Nat × Bool) → Act → World → Prop
  | [], a, w => MW X ops p C r a w
  | (i, true) :: es, a, w => ∃ o v, ops[i]? = some o ∧ YieldsC X ops C1 o v a ∧ ∀ w', Bel w w' → ME X ops p C1 C r es (a.put o.dst v) w'
  | (i, false) :: es, a, w => ∃ o v, ops[i]? = some o ∧ YieldsC X ops C o v a ∧ ∀ w', Bel w w' → ME X ops p C1 C r es (a.put o.dst v) w'
def waitsFor (ops : Array Oper) (N : List Nat) (i : Nat) : Bool := N.all fun j => reach ops i ops.size j
def orderE (ops : Array Oper) (N : List Nat) (r : List (Nat × Bool)) : List (Nat × Bool) → Array Bool → Bool
  | [], listed => orderB ops r listed
  | (i, q) :: es, listed => (Region.ready .any ops listed).contains i && Region.free .any ops listed i && (!q || waitsFor ops N i) && orderE ops N r es (listed.setIfInBounds i true)
theorem waitsFor_spec {i : Nat} (h : waitsFor ops N i = true) (j : Nat) (oj : Oper) (hj : N.contains j = true) (_ : ops[j]? = some oj) : ∃ n, reach ops i n j = true :=
  ⟨_, List.all_eq_true.1 h j (List.contains_iff_mem.1 hj)⟩
theorem ME.anyD (r : List (Nat × Bool)) (h1b : ∀ w w', C1 w → Bel w w' → C1 w') (h1C : ∀ w, C1 w → C w) (hCb : ∀ w w', C w → Bel w w' → C w') (hsd : noSD ops = true) :
    ∀ (es : List (Nat × Bool)) (listed : Array Bool) (a : Act) (w : World), Closed ops listed → orderE ops (noisyOf r) r es listed = true → C1 w → ME X ops p C1 C r es a w → AnyD X ops p C (noisyOf r) (es.length + r.length) listed a w
  | [], listed, a, w, _, hB, hC, h => by
    simp only [List.length_nil, Nat.zero_add]
    exact MW.anyD hCb hsd r listed a w hB (fun t ht hf => List.contains_iff_mem.2 (List.mem_map.2 ⟨t, List.mem_filter.2 ⟨ht, by rw [hf]; rfl⟩, rfl⟩)) (h1C w hC) h
  | (i, true) :: es, listed, a, w, hcl, hB, hC, h => by
    simp only [orderE, Bool.and_eq_true, List.contains_iff_mem, Bool.not_true, Bool.false_or] at hB
    obtain ⟨⟨⟨h1, h2⟩, h3⟩, h4⟩ := hB
    obtain ⟨o, v, ho, hy, hk⟩ := h
    rw [show ((i, true) :: es).length + r.length = (es.length + r.length) + 1 from by simp only [List.length_cons]; omega]
    exact AnyD.take1 h1b h1C ho hsd (waitsFor_spec h3) _ listed a w hcl (Region.free_spec ho h2) h1 hy hC fun w' hb => ME.anyD r h1b h1C hCb hsd es _ _ w' (hcl.step h1) h4 (h1b w w' hC hb) (hk w' hb)
  | (i, false) :: es, listed, a, w, hcl, hB, hC, h => by
    simp only [orderE, Bool.and_eq_true, List.contains_iff_mem] at hB
    obtain ⟨⟨⟨h1, h2⟩, _⟩, h4⟩ := hB
    obtain ⟨o, v, ho, hy, hk⟩ := h
    rw [show ((i, false) :: es).length + r.length = (es.length + r.length) + 1 from by simp only [List.length_cons]; omega]
    exact AnyD.take hCb ho hsd _ listed a w (Region.free_spec ho h2) h1 hy (h1C w hC) fun w' hb => ME.anyD r h1b h1C hCb hsd es _ _ w' (hcl.step h1) h4 (h1b w w' hC hb) (hk w' hb)
end
/-- The walk over states, first part. -/
def WZ (X : Ctx) (ops : Array Oper) (p : Post) (Hq : Heap) (r es : List (Nat × Bool)) (E : Env) (H : Heap) : Prop := ∀ a w, AE X E a → HW X.H0 X.w0 H w → ME X ops p (fun w => HW X.H0 X.w0 H w) (fun w => HW X.H0 X.w0 Hq w) r es a w
section
variable {X : Ctx} {ops : Array Oper} {p : Post} {Hq : Heap} {E : Env} {H F : Heap} {r es : List (Nat × Bool)} {i : Nat} {o : Oper}
theorem closed0 (l : List Oper) : Closed l.toArray (Array.replicate l.length false) := by
  intro k ok hk hl
  have : k < l.length := by
    have := (Array.getElem?_eq_some_iff.1 hk).1
    simpa using this
  simp [Array.getD_eq_getD_getElem?, this] at hl
theorem WC_drawE {id : Nat} {l : List Oper} (xs : Heap) (es ord : List (Nat × Bool)) (hm : X.P.follows .mixedOrders = true) (hsd : noSD l.toArray = true) (hlen : es.length + ord.length = l.length)
    (hB : orderE l.toArray (noisyOf ord) ord es (Array.replicate l.length false) = true) (hq : Pulls xs H Hq) (h : WZ X l.toArray p Hq ord es E H) : WC X (.region id l.toArray true) p E H := by
  intro a w ha hw
  refine wpIn_region_any hm ?_
  have hb : Bel w { w with drawn := w.drawn + 1 } := Bel.drew' w
  have hw1 := hw.bel hb
  have h1 := ME.anyD (X := X) (p := p) (C1 := fun w => HW X.H0 X.w0 H w) (C := fun w => HW X.H0 X.w0 Hq w) ord (fun _ _ h b => h.bel b) (fun _ h => pulls_rest hq h) (fun _ _ h b => h.bel b) hsd es _ a _ (closed0 l) hB hw1 (h a _ ha hw1)
  rw [hlen] at h1
  have := AnyD.sound _ _ _ _ h1
  simpa using this
theorem WZ_rest (h : WM X ops p Hq r E H) : WZ X ops p Hq r [] E H := h
theorem WZ_early {d : Nat} {v : Value} (ho : ops[i]? = some o) (hg : wantedE ops E o = some true) (hd : o.dst = some d) (hN : Nat.blt d X.N = true) (h : Runs X o E H v)
    (k : WZ X ops p Hq r es ((d, v) :: E) H) : WZ X ops p Hq r ((i, true) :: es) E H := fun a w ha hw =>
  ⟨o, v, ho, .inl ⟨wantedE_spec ha hg, fun w' hw' => .inl (h.2 a w' ha hw')⟩, fun w' hb => k _ _ (by rw [hd]; exact ha.put d v hN) (hw.bel hb)⟩
theorem WZ_val {d : Nat} {v : Value} (ho : ops[i]? = some o) (hg : wantedE ops E o = some true) (hd : o.dst = some d) (hN : Nat.blt d X.N = true) (h : Runs X o E Hq v)
    (k : WZ X ops p Hq r es ((d, v) :: E) H) : WZ X ops p Hq r ((i, false) :: es) E H := fun a w ha hw =>
  ⟨o, v, ho, .inl ⟨wantedE_spec ha hg, fun w' hw' => .inl (h.2 a w' ha hw')⟩, fun w' hb => k _ _ (by rw [hd]; exact ha.put d v hN) (hw.bel hb)⟩
end
end Go.Proofs.YtbkdebnkoidicaaGreat
end
section
namespace Go.Proofs.YtbkdebnkoidicaaGreat
section
variable {X : Ctx} {E : Env} {H : Heap} {o : Oper} {t t' : TypeId} {x y : Operand} {k k' : IntKind} {m n r : Int}
theorem R_addR (ho : o.op = .binOp .add t x y t') (hx : ev E x = some (.int k m)) (hy : ev E y = some (.int k n)) (hr : k.wrap (m + n) = r) : Runs X o E H (.int k r) := hr ▸ R_addW ho hx hy
theorem R_subR (ho : o.op = .binOp .sub t x y t') (hx : ev E x = some (.int k m)) (hy : ev E y = some (.int k n)) (hr : k.wrap (m - n) = r) : Runs X o E H (.int k r) := hr ▸ R_subW ho hx hy
theorem R_mulR (ho : o.op = .binOp .mul t x y t') (hx : ev E x = some (.int k m)) (hy : ev E y = some (.int k n)) (hr : k.wrap (m * n) = r) : Runs X o E H (.int k r) := hr ▸ R_mulW ho hx hy
theorem R_quoR (ho : o.op = .binOp .quo t x y t') (hx : ev E x = some (.int k m)) (hy : ev E y = some (.int k n)) (hn : n ≠ 0) (hr : k.wrap (m.tdiv n) = r) : Runs X o E H (.int k r) :=
  R_arith ho hx hy fun w => by simp [go_sem, Op.intDiv, hn, hr]
theorem R_remR (ho : o.op = .binOp .rem t x y t') (hx : ev E x = some (.int k m)) (hy : ev E y = some (.int k n)) (hn : n ≠ 0) (hr : m.tmod n = r) : Runs X o E H (.int k r) :=
  R_arith ho hx hy fun w => by simp [go_sem, Op.intDiv, hn, hr]
theorem R_andR (ho : o.op = .binOp .and t x y t') (hx : ev E x = some (.int k m)) (hy : ev E y = some (.int k n)) (hr : k.wrap (BitVec.ofInt k.bits m &&& BitVec.ofInt k.bits n).toNat = r) : Runs X o E H (.int k r) :=
  R_arith ho hx hy fun w => by rw [← hr]; simp [go_sem, Op.intBits]
theorem R_shrR (ho : o.op = .binOp .shr t x y t') (hx : ev E x = some (.int k m)) (hy : ev E y = some (.int k' n)) (hn : ¬ n < 0) (hr : m.fdiv (2 ^ (min n.toNat k.bits)) = r) : Runs X o E H (.int k r) :=
  ⟨(by rw [ho]; intro c e; cases e), fun a w ha _ => by
    have h : (binOp .shr t (.int k m) (.int k' n)).run X.P w = .ok (.int k r) w := by rw [← hr]; simp only [binOp, Op.shift, if_neg hn, Sem.run_pure]
    simp only [execOp, ho, ha.eval hx, ha.eval hy]
    simp [eqGuard, h]⟩
theorem R_conv {src dst : TypeId} {u : TypeDesc} (ho : o.op = .convert src dst x) (hs : X.P.underlying src = some u) (hd : X.P.underlying dst = some (.int k')) (hx : ev E x = some (.int k m)) (hr : k'.wrap m = r) : Runs X o E H (.int k' r) :=
  ⟨(by rw [ho]; intro c e; cases e), fun a w ha _ => by
    have h : (convert src dst (.int k m)).run X.P w = .ok (.int k' r) w := by
      rw [← hr]
      simp only [convert, Sem.run_bind, run_underlying hs, run_underlying hd, Result.andThen_ok]
      cases u <;> simp [Conv.intToInt]
    simp [execOp, ho, ha.eval hx, h]⟩
end
theorem w64 {n : Int} (h : 0 ≤ n ∧ n ≤ 18446744073709551615) : IntKind.u64.wrap n = n := IntWalk.u64_in n h
theorem shrN {a s : Nat} {b : Nat} (h : s ≤ b) : ((a : Int)).fdiv (2 ^ (min ((s : Nat) : Int).toNat b)) = ((a / 2 ^ s : Nat) : Int) := by
  rw [Int.toNat_natCast, Nat.min_eq_left h, Int.fdiv_eq_ediv_of_nonneg _ (by exact Int.le_of_lt (Int.pow_pos (by decide)))]
  simp
theorem remN {a b : Nat} : ((a : Int)).tmod (b : Int) = ((a % b : Nat) : Int) := by rw [Int.tmod_eq_emod_of_nonneg (by omega)]; simp
end Go.Proofs.YtbkdebnkoidicaaGreat
end
section
set_option linter.unusedVariables false
set_option linter.unusedSimpArgs false
namespace Go.Proofs.YtbkdebnkoidicaaGreat
/-! ### Parts of a heap that stay ars they are -/
theorem Pull.app {x : Ent} {B B' : Heap} (h : Pull x B B') : ∀ A : Heap, Pull x (A ++ B) (A ++ B')
  | [] => h
  | _ :: A => .tail (Pull.app h A)
theorem Pulls.app {ys B F : Heap} (h : Pulls ys B F) : ∀ A : Heap, Pulls (A ++ ys) (A ++ B) F
  | [] => h
  | _ :: A => .cons .head (Pulls.app h A)
theorem Pulls.skipA {xs B F : Heap} (h : Pulls xs B F) : ∀ A : Heap, Pulls xs (A ++ B) (A ++ F)
  | [] => h
  | _ :: A => .skip (Pulls.skipA h A)
theorem Pulls.appE (A B : Heap) : Pulls A (A ++ B) B := by
  have := Pulls.app (ys := []) (B := B) (F := B) .nil A
  rw [List.append_nil] at this; exact this
/-- A part of a heap taken out ars a whole, wherever it lies. -/
inductive PullA (A : Heap) : Heap → Heap → Prop
  | here {B : Heap} : PullA A (A ++ B) B
  | all : PullA A A []
  | tail {y : Ent} {l l' : Heap} : PullA A l l' → PullA A (y :: l) (y :: l')
  | app {l l' : Heap} (C : Heap) : PullA A l l' → PullA A (C ++ l) (C ++ l')
theorem PullA.perm {A H F : Heap} (h : PullA A H F) : H.Perm (A ++ F) := by
  induction h with
  | here => exact .refl _
  | all => simp
  | tail _ ih => exact (List.Perm.cons _ ih).trans List.perm_middle.symm
  | app C _ ih =>
    refine (List.Perm.append_left C ih).trans ?_
    rw [← List.append_assoc, ← List.append_assoc]
    exact List.Perm.append_right _ List.perm_append_comm
theorem Pulls.chunk {A xs H H1 F : Heap} (h : PullA A H H1) (k : Pulls xs H1 F) : Pulls (A ++ xs) H F :=
  .ofPerm (h.perm.trans (by rw [List.append_assoc]; exact List.Perm.append_left A k.perm))
theorem Pulls.chunk1 {A H F : Heap} (h : PullA A H F) : Pulls A H F := .ofPerm h.perm
theorem Pull.assoc {x : Ent} {A B C F : Heap} (h : Pull x (A ++ (B ++ C)) F) : Pull x ((A ++ B) ++ C) F := by rw [List.append_assoc]; exact h
theorem PullA.assoc {X A B C F : Heap} (h : PullA X (A ++ (B ++ C)) F) : PullA X ((A ++ B) ++ C) F := by rw [List.append_assoc]; exact h
theorem Pulls.assoc {xs A B C F : Heap} (h : Pulls xs (A ++ (B ++ C)) F) : Pulls xs ((A ++ B) ++ C) F := by rw [List.append_assoc]; exact h
theorem Pulls.assocX {A B C H F : Heap} (h : Pulls (A ++ (B ++ C)) H F) : Pulls ((A ++ B) ++ C) H F := by rw [List.append_assoc]; exact h
theorem mem_assoc {x : Ent} {A B C : Heap} (h : x ∈ A ++ (B ++ C)) : x ∈ (A ++ B) ++ C := by rw [List.append_assoc]; exact h
theorem plY {x : Ent} {H F : Heap} (h : Pull x H F := by repeat (first | exact Pull.head | apply Pull.tail | apply Pull.assoc | apply Pull.app)) : Pull x H F := h
theorem pqY {A H F : Heap} (h : Pulls A H F := by repeat (first | exact Pulls.nil | exact Pulls.all | (apply Pulls.cons; (repeat (first | exact Pull.head | apply Pull.tail | apply Pull.assoc | apply Pull.app))) | apply Pulls.assocX | (apply Pulls.chunk; (repeat (first | exact PullA.here | exact PullA.all | apply PullA.tail | apply PullA.assoc | apply PullA.app))) | exact Pulls.appE _ _ | apply Pulls.skip | apply Pulls.assoc | apply Pulls.skipA)) : Pulls A H F := h
theorem mmY {x : Ent} {H : Heap} (h : x ∈ H := by repeat (first | exact List.Mem.head _ | refine List.Mem.tail _ ?_ | refine mem_assoc ?_ | refine List.mem_append_right _ ?_)) : x ∈ H := h
theorem HW.rebase {H H2 H' : Heap} {w w' : World} (hp : H2.Perm H) (r : HW H w H' w') : HW H2 w H' w' :=
  ⟨r.hok, r.os, r.tape, r.output, r.size, fun k hk hn => r.kept k hk (fun h => hn ((keys_perm hp).mem_iff.2 h)), fun k hk => (r.own k hk).imp (fun h => (keys_perm hp).mem_iff.2 h) id, r.dr⟩
theorem Spec.fr {P : Program} {f : FuncId} {args : List Value} {H : Heap} {post : Value → Heap → Prop} (h : Spec P f args H post) (F : Heap) : Spec P f args (H ++ F) (fun v H' => ∃ H1, post v H1 ∧ H' = H1 ++ F) :=
  ⟨h.enters, fun w hw => (h.calls w hw.left).mono fun e w' ⟨v, H', e1, p, r⟩ => ⟨v, H' ++ F, e1, ⟨H', p, rfl⟩, HW.frame (HW.start hw) (.refl _) r⟩⟩
theorem Spec.perm {P : Program} {f : FuncId} {args : List Value} {H H2 : Heap} {post : Value → Heap → Prop} (h : Spec P f args H post) (hp : H2.Perm H) : Spec P f args H2 post :=
  ⟨h.enters, fun w hw => (h.calls w (hw.perm hp)).mono fun e w' ⟨v, H', e1, p, r⟩ => ⟨v, H', e1, p, r.rebase hp⟩⟩
theorem Spec.re {P : Program} {f : FuncId} {args : List Value} {H : Heap} {post : Value → Heap → Prop} (h : Spec P f args H (fun r H' => ∃ H1, H'.Perm H1 ∧ post r H1)) : Spec P f args H post :=
  ⟨h.enters, fun w hw => (h.calls w hw).mono fun e w' ⟨v, H', e1, ⟨H1, p, q⟩, r⟩ => ⟨v, H1, e1, q, r.perm p⟩⟩
/-! ### Keys of any type -/
/-- Keys of a map's type, ars the model handles them. -/
structure KeyOk (P : Program) (kt : TypeId) {κ : Type} (ek : κ → Value) : Prop where
  chk : ∀ (em : Bool) (k : κ) (w : World), (Instr.checkKey em 10000 kt (ek k)).run P w = .ok () w
  find : ∀ (k : κ) (l : List MapEntry) (w : World), (∀ x ∈ l, ∃ k', x.key = ek k') → ∃ r, (Instr.findKey kt (ek k) l).run P w = .ok r w ∧ ((r = none ∧ ∀ x ∈ l, x.key ≠ ek k) ∨ ∃ (j : Nat) (e : MapEntry), r = some (j, e.val) ∧ l[j]? = some e ∧ e.key = ek k)
  inj : ∀ a b, ek a = ek b → a = b
/-- What lies in a map, with the stamps of its entries. -/
structure Mk {κ α : Type} (ek : κ → Value) (ev : α → Value) (es : Array MapEntry) (c : Nat) (L : List (κ × α)) : Prop where
  perm : (es.toList.map fun e => (e.key, e.val)).Perm (L.map fun x => (ek x.1, ev x.2))
  nodup : (L.map (·.1)).Nodup
  born : ∀ e ∈ es.toList, e.born < c
  bnd : (es.toList.map (·.born)).Nodup
section
variable {κ α : Type} {P : Program} {kt : TypeId} {ek : κ → Value} {ev : α → Value} {es : Array MapEntry} {c : Nat} {L L' : List (κ × α)}
theorem Mk.empty : Mk ek ev #[] 0 ([] : List (κ × α)) := ⟨by simp, by simp, by simp, by simp⟩
theorem Mk.to (h : Mk ek ev es c L) (p : L.Perm L') : Mk ek ev es c L' := ⟨h.perm.trans (p.map _), (p.map _).nodup_iff.1 h.nodup, h.born, h.bnd⟩
theorem Mk.has (h : Mk ek ev es c L) {x : κ × α} (hx : x ∈ L) : ∃ e ∈ es.toList, e.key = ek x.1 ∧ e.val = ev x.2 := by
  have : (ek x.1, ev x.2) ∈ es.toList.map fun e => (e.key, e.val) := h.perm.mem_iff.2 (List.mem_map.2 ⟨x, hx, rfl⟩)
  obtain ⟨e, he, hh⟩ := List.mem_map.1 this
  exact ⟨e, he, congrArg Prod.fst hh, congrArg Prod.snd hh⟩
theorem Mk.back (h : Mk ek ev es c L) {e : MapEntry} (he : e ∈ es.toList) : ∃ x ∈ L, e.key = ek x.1 ∧ e.val = ev x.2 := by
  have : (e.key, e.val) ∈ L.map fun x => (ek x.1, ev x.2) := h.perm.mem_iff.1 (List.mem_map.2 ⟨e, he, rfl⟩)
  obtain ⟨x, hx, hh⟩ := List.mem_map.1 this
  exact ⟨x, hx, (congrArg Prod.fst hh).symm, (congrArg Prod.snd hh).symm⟩
theorem Mk.keys (h : Mk ek ev es c L) : ∀ x ∈ es.toList, ∃ k', x.key = ek k' := fun x hx => by
  obtain ⟨y, _, e1, _⟩ := h.back hx
  exact ⟨y.1, e1⟩
theorem Mk.find (K : KeyOk P kt ek) (h : Mk ek ev es c L) {k : κ} {a : α} (hx : (k, a) ∈ L) (w : World) : ∃ j, (Instr.findKey kt (ek k) es.toList).run P w = .ok (some (j, ev a)) w := by
  obtain ⟨r, h1, h2⟩ := K.find k es.toList w h.keys
  rcases h2 with ⟨_, h2⟩ | ⟨j, e, rfl, h2, h3⟩
  · obtain ⟨e, he, hk, _⟩ := h.has hx
    exact absurd hk (h2 e he)
  · obtain ⟨⟨k', b⟩, hy, e1, e2⟩ := h.back (List.mem_of_getElem? h2)
    obtain rfl := K.inj _ _ (e1.symm.trans h3)
    obtain rfl := key_uniq h.nodup hx hy
    exact ⟨j, by rw [h1, e2]⟩
theorem Mk.none (K : KeyOk P kt ek) (h : Mk ek ev es c L) {k : κ} (hx : k ∉ L.map (·.1)) (w : World) : (Instr.findKey kt (ek k) es.toList).run P w = .ok none w := by
  obtain ⟨r, h1, h2⟩ := K.find k es.toList w h.keys
  rcases h2 with ⟨rfl, _⟩ | ⟨j, e, rfl, h2, h3⟩
  · exact h1
  · obtain ⟨⟨k', b⟩, hy, e1, _⟩ := h.back (List.mem_of_getElem? h2)
    obtain rfl := K.inj _ _ (e1.symm.trans h3)
    exact absurd (List.mem_map.2 ⟨_, hy, rfl⟩) hx
theorem Mk.add (h : Mk ek ev es c L) {k : κ} (a : α) (hx : k ∉ L.map (·.1)) : Mk ek ev (es.push { key := ek k, val := ev a, born := c }) (c + 1) ((k, a) :: L) := by
  refine ⟨?_, by simpa using ⟨by simpa using hx, h.nodup⟩, fun e he => ?_, ?_⟩
  · rw [Array.toList_push, List.map_append]
    exact List.perm_append_comm.trans (.cons _ h.perm)
  · rw [Array.toList_push, List.mem_append, List.mem_singleton] at he
    rcases he with he | rfl
    · exact Nat.lt_succ_of_lt (h.born e he)
    · exact Nat.lt_succ_self c
  · rw [Array.toList_push, List.map_append, List.nodup_append]
    refine ⟨h.bnd, by simp, fun x hx y hy => ?_⟩
    obtain ⟨e, he, rfl⟩ := List.mem_map.1 hx
    have := h.born e he
    simp at hy
    omega
end
section
variable {X : Ctx} {E : Env} {H F : Heap} {o : Oper} {κ α : Type} {ek : κ → Value} {ev : α → Value} {es : Array MapEntry} {c b : Nat} {L : List (κ × α)} {mt kt et : TypeId} {x y z : Operand}
/-- v := m[k] -/
theorem R_lookK {k : κ} {a : α} (ho : o.op = .lookup mt x y false) (hu : X.P.underlying mt = some (.map kt et)) (K : KeyOk X.P kt ek) (hx : Go.Proofs.YtbkdebnkoidicaaGreat.ev E x = some (.map (some b))) (hy : Go.Proofs.YtbkdebnkoidicaaGreat.ev E y = some (ek k)) (hm : (⟨some b, .map es c⟩ : Ent) ∈ H) (hM : Mk ek ev es c L) (hin : (k, a) ∈ L) :
    Runs X o E H (ev a) :=
  ⟨(by rw [ho]; intro c e; cases e), fun A w ha hw => by
    obtain ⟨j, h1⟩ := hM.find K hin w
    have hl : (Instr.lookup mt (.map (some b)) (ek k) false).run X.P w = .ok (ev a) w := by
      simp [Instr.lookup, run_underlying hu, MapKept.run_getObj_map (hw.mapAt hm), K.chk, h1, Result.andThen]
    simp [execOp, ho, ha.eval hx, ha.eval hy, hl]⟩
theorem R_lookK0 {k : κ} {zv : Value} (ho : o.op = .lookup mt x y false) (hu : X.P.underlying mt = some (.map kt et)) (K : KeyOk X.P kt ek) (hx : Go.Proofs.YtbkdebnkoidicaaGreat.ev E x = some (.map (some b))) (hy : Go.Proofs.YtbkdebnkoidicaaGreat.ev E y = some (ek k)) (hm : (⟨some b, .map es c⟩ : Ent) ∈ H) (hM : Mk ek ev es c L) (hin : k ∉ L.map (·.1))
    (hz : ∀ w, (zeroValue et).run X.P w = .ok zv w) : Runs X o E H zv :=
  ⟨(by rw [ho]; intro c e; cases e), fun A w ha hw => by
    have h1 := hM.none K hin w
    have hl : (Instr.lookup mt (.map (some b)) (ek k) false).run X.P w = .ok zv w := by
      simp [Instr.lookup, run_underlying hu, MapKept.run_getObj_map (hw.mapAt hm), K.chk, h1, hz, Result.andThen]
    simp [execOp, ho, ha.eval hx, ha.eval hy, hl]⟩
/-- m[k] = v, of a key that does not lie there. -/
theorem D_mapAddK {k : κ} {v : α} (ho : o.op = .mapUpdate mt x y z) (hu : X.P.underlying mt = some (.map kt et)) (K : KeyOk X.P kt ek) (hx : Go.Proofs.YtbkdebnkoidicaaGreat.ev E x = some (.map (some b))) (hy : Go.Proofs.YtbkdebnkoidicaaGreat.ev E y = some (ek k)) (hz : Go.Proofs.YtbkdebnkoidicaaGreat.ev E z = some (ev v)) (hp : Pull ⟨some b, .map es c⟩ H F) (hM : Mk ek ev es c L) (hin : k ∉ L.map (·.1)) :
    Does X o E H (fun _ H' => ∃ es', Mk ek ev es' (c + 1) ((k, v) :: L) ∧ H' = ⟨some b, .map es' (c + 1)⟩ :: F) := by
  intro A w ha hw next Q kk
  refine ⟨about_true, ?_⟩
  rw [semAt_of (by rw [ho]; intro c e; cases e)]
  have hb := hw.mapAt (pull_mem hp)
  have h1 := hM.none K hin w
  have hrun : (execOp A.eval o).run X.P w = .ok .skip { w with heap := w.heap.setIfInBounds b (.map (es.push { key := ek k, val := ev v, born := c }) (c + 1)) } := by
    simp [execOp, ho, ha.eval hx, ha.eval hy, ha.eval hz, Instr.mapUpdate, run_underlying hu, MapKept.run_getObj_map hb, K.chk, h1, MapKept.run_setObj_map _ hb, Result.andThen]
  rw [hrun]
  exact kk undef _ _ ⟨_, hM.add v hin, rfl⟩ (hw.turnMap hp)
/-! ### for k, v := range m -/
end
end Go.Proofs.YtbkdebnkoidicaaGreat
end
section
set_option linter.unusedVariables false
set_option linter.unusedSimpArgs false
namespace Go.Proofs.YtbkdebnkoidicaaGreat
section
variable {κ α : Type} {P : Program} {kt : TypeId} {ek : κ → Value} {ev : α → Value} {es : Array MapEntry} {c : Nat} {L L' : List (κ × α)}
theorem Mk.size (h : Mk ek ev es c L) : es.size = L.length := by
  have := h.perm.length_eq
  simpa using this
theorem Mk.del [DecidableEq κ] (h : Mk ek ev es c L) {k : κ} {a : α} (hx : (k, a) ∈ L) {j : Nat} {e : MapEntry} (hj : es.toList[j]? = some e) (he : e.key = ek k) (hv : e.val = ev a) :
    Mk ek ev (es.eraseIdxIfInBounds j) c (delL L k) := by
  obtain ⟨s, t, hs, hl⟩ := perm_middle_split hj
  obtain ⟨A, B, rfl⟩ := List.append_of_mem hx
  have hnd := h.nodup
  have hne := split_ne hnd
  have hdel : delL (A ++ (k, a) :: B) k = A ++ B := by
    unfold delL
    rw [List.filter_append, List.filter_cons_of_neg (by simp)]
    rw [List.filter_eq_self.2 (fun x hx => by simpa using hne x (List.mem_append_left _ hx)), List.filter_eq_self.2 (fun x hx => by simpa using hne x (List.mem_append_right _ hx))]
  have hm : (es.eraseIdxIfInBounds j).toList = s ++ t := by
    rw [Array.toList_eraseIdxIfInBounds, hs]
    subst hl
    simp [List.eraseIdx_append_of_length_le]
  rw [hdel]
  refine ⟨?_, ?_, fun x hx => ?_, ?_⟩
  · rw [hm]
    have hp := h.perm
    rw [hs] at hp
    have p1 : ((s ++ e :: t).map fun e => (e.key, e.val)).Perm ((e.key, e.val) :: (s ++ t).map fun e => (e.key, e.val)) := (List.perm_middle (l₁ := s) (a := e) (l₂ := t)).map _
    have p2 : ((A ++ (k, a) :: B).map fun x : κ × α => (ek x.1, ev x.2)).Perm ((ek k, ev a) :: (A ++ B).map fun x => (ek x.1, ev x.2)) := (List.perm_middle (l₁ := A) (a := (k, a)) (l₂ := B)).map _
    have p3 := p1.symm.trans (hp.trans p2)
    rw [he, hv] at p3
    exact List.Perm.cons_inv p3
  · have := ((List.perm_middle (l₁ := A) (a := (k, a)) (l₂ := B)).map (fun x : κ × α => x.1)).nodup_iff.1 hnd
    rw [List.map_cons, List.nodup_cons] at this
    exact this.2
  · rw [hm] at hx
    refine h.born x ?_
    rw [hs]
    rcases List.mem_append.1 hx with hx | hx
    · exact List.mem_append_left _ hx
    · exact List.mem_append_right _ (List.mem_cons_of_mem _ hx)
  · have hb := h.bnd
    rw [hs] at hb
    rw [hm]
    have := ((List.perm_middle (l₁ := s) (a := e) (l₂ := t)).map (fun x : MapEntry => x.born)).nodup_iff.1 hb
    rw [List.map_cons, List.nodup_cons] at this
    exact this.2
end
section
variable {X : Ctx} {E : Env} {H F : Heap} {o : Oper} {κ α : Type} {ek : κ → Value} {ev : α → Value} {es : Array MapEntry} {c b : Nat} {L : List (κ × α)} {mt kt et : TypeId} {x y z : Operand}
variable {t : TypeId} {s : ByteArray}
end
end Go.Proofs.YtbkdebnkoidicaaGreat
end
section
namespace Go.Proofs.YtbkdebnkoidicaaGreat
theorem followsMixed : Tryz.prog.follows .mixedOrders = true := by kernel_rfl
theorem ag30 : Ag Tryz.prog 30 2 := fun w => ⟨Tryz.isAgg30 w, Tryz.sizeOf30 w⟩
theorem ag108 : Ag Tryz.prog 108 2 := fun w => ⟨Tryz.isAgg108 w, Tryz.sizeOf108 w⟩
theorem ag117 : Ag Tryz.prog 117 3 := fun w => ⟨Tryz.isAgg117 w, Tryz.sizeOf117 w⟩
theorem ag160 : Ag Tryz.prog 160 2 := fun w => ⟨Tryz.isAgg160 w, Tryz.sizeOf160 w⟩
theorem ag182 : Ag Tryz.prog 182 3 := fun w => ⟨Tryz.isAgg182 w, Tryz.sizeOf182 w⟩
theorem ag193 : Ag Tryz.prog 193 4 := fun w => ⟨Tryz.isAgg193 w, Tryz.sizeOf193 w⟩
theorem ag195 : Ag Tryz.prog 195 2 := fun w => ⟨Tryz.isAgg195 w, Tryz.sizeOf195 w⟩
theorem ag250 : Ag Tryz.prog 250 3 := fun w => ⟨Tryz.isAgg250 w, Tryz.sizeOf250 w⟩
theorem ag254 : Ag Tryz.prog 254 3 := fun w => ⟨Tryz.isAgg254 w, Tryz.sizeOf254 w⟩
theorem ag296 : Ag Tryz.prog 296 2 := fun w => ⟨Tryz.isAgg296 w, Tryz.sizeOf296 w⟩
theorem ag300 : Ag Tryz.prog 300 4 := fun w => ⟨Tryz.isAgg300 w, Tryz.sizeOf300 w⟩
theorem fa30_0 : FldAt Tryz.prog 30 0 0 := FldAt.mk Tryz.underlying30 rfl rfl Tryz.sizeOf3 (by decide)
theorem fa30_1 : FldAt Tryz.prog 30 1 1 := FldAt.mk Tryz.underlying30 rfl rfl Tryz.sizeOf3 (by decide)
theorem fa92_0 : FldAt Tryz.prog 92 0 0 := FldAt.mk Tryz.underlying92 rfl rfl Tryz.sizeOf87 (by decide)
theorem fa92_1 : FldAt Tryz.prog 92 1 1 := FldAt.mk Tryz.underlying92 rfl rfl Tryz.sizeOf88 (by decide)
theorem fa92_2 : FldAt Tryz.prog 92 2 2 := FldAt.mk Tryz.underlying92 rfl rfl Tryz.sizeOf89 (by decide)
theorem fa92_3 : FldAt Tryz.prog 92 3 3 := FldAt.mk Tryz.underlying92 rfl rfl Tryz.sizeOf90 (by decide)
theorem fa108_0 : FldAt Tryz.prog 108 0 0 := FldAt.mk Tryz.underlying108 rfl rfl Tryz.sizeOf3 (by decide)
theorem fa108_1 : FldAt Tryz.prog 108 1 1 := FldAt.mk Tryz.underlying108 rfl rfl Tryz.sizeOf44 (by decide)
theorem fa117_0 : FldAt Tryz.prog 117 0 0 := FldAt.mk Tryz.underlying117 rfl rfl Tryz.sizeOf108 (by decide)
theorem fa117_1 : FldAt Tryz.prog 117 1 2 := FldAt.mk Tryz.underlying117 rfl rfl Tryz.sizeOf28 (by decide)
theorem fa154_0 : FldAt Tryz.prog 154 0 0 := FldAt.mk Tryz.underlying154 rfl rfl Tryz.sizeOf148 (by decide)
theorem fa154_1 : FldAt Tryz.prog 154 1 1 := FldAt.mk Tryz.underlying154 rfl rfl Tryz.sizeOf151 (by decide)
theorem fa154_2 : FldAt Tryz.prog 154 2 2 := FldAt.mk Tryz.underlying154 rfl rfl Tryz.sizeOf152 (by decide)
theorem fa160_0 : FldAt Tryz.prog 160 0 0 := FldAt.mk Tryz.underlying160 rfl rfl Tryz.sizeOf3 (by decide)
theorem fa160_1 : FldAt Tryz.prog 160 1 1 := FldAt.mk Tryz.underlying160 rfl rfl Tryz.sizeOf3 (by decide)
theorem fa162_0 : FldAt Tryz.prog 162 0 0 := FldAt.mk Tryz.underlying162 rfl rfl Tryz.sizeOf28 (by decide)
theorem fa162_1 : FldAt Tryz.prog 162 1 1 := FldAt.mk Tryz.underlying162 rfl rfl Tryz.sizeOf4 (by decide)
theorem fa162_2 : FldAt Tryz.prog 162 2 2 := FldAt.mk Tryz.underlying162 rfl rfl Tryz.sizeOf160 (by decide)
theorem fa166_0 : FldAt Tryz.prog 166 0 0 := FldAt.mk Tryz.underlying166 rfl rfl Tryz.sizeOf155 (by decide)
theorem fa166_1 : FldAt Tryz.prog 166 1 1 := FldAt.mk Tryz.underlying166 rfl rfl Tryz.sizeOf158 (by decide)
theorem fa166_2 : FldAt Tryz.prog 166 2 2 := FldAt.mk Tryz.underlying166 rfl rfl Tryz.sizeOf164 (by decide)
theorem fa169_0 : FldAt Tryz.prog 169 0 0 := FldAt.mk Tryz.underlying169 rfl rfl Tryz.sizeOf167 (by decide)
theorem fa172_0 : FldAt Tryz.prog 172 0 0 := FldAt.mk Tryz.underlying172 rfl rfl Tryz.sizeOf3 (by decide)
theorem fa172_1 : FldAt Tryz.prog 172 1 1 := FldAt.mk Tryz.underlying172 rfl rfl Tryz.sizeOf3 (by decide)
theorem fa172_2 : FldAt Tryz.prog 172 2 2 := FldAt.mk Tryz.underlying172 rfl rfl Tryz.sizeOf4 (by decide)
theorem fa182_0 : FldAt Tryz.prog 182 0 0 := FldAt.mk Tryz.underlying182 rfl rfl Tryz.sizeOf108 (by decide)
theorem fa182_1 : FldAt Tryz.prog 182 1 2 := FldAt.mk Tryz.underlying182 rfl rfl Tryz.sizeOf27 (by decide)
theorem fa193_1 : FldAt Tryz.prog 193 1 2 := FldAt.mk Tryz.underlying193 rfl rfl Tryz.sizeOf3 (by decide)
theorem fa193_2 : FldAt Tryz.prog 193 2 3 := FldAt.mk Tryz.underlying193 rfl rfl Tryz.sizeOf28 (by decide)
theorem fa239_0 : FldAt Tryz.prog 239 0 0 := FldAt.mk Tryz.underlying239 rfl rfl Tryz.sizeOf237 (by decide)
theorem fa239_1 : FldAt Tryz.prog 239 1 1 := FldAt.mk Tryz.underlying239 rfl rfl Tryz.sizeOf177 (by decide)
theorem fa241_0 : FldAt Tryz.prog 241 0 0 := FldAt.mk Tryz.underlying241 rfl rfl Tryz.sizeOf4 (by decide)
theorem fa241_1 : FldAt Tryz.prog 241 1 1 := FldAt.mk Tryz.underlying241 rfl rfl Tryz.sizeOf28 (by decide)
theorem fa245_0 : FldAt Tryz.prog 245 0 0 := FldAt.mk Tryz.underlying245 rfl rfl Tryz.sizeOf242 (by decide)
theorem fa245_1 : FldAt Tryz.prog 245 1 1 := FldAt.mk Tryz.underlying245 rfl rfl Tryz.sizeOf34 (by decide)
theorem fa250_0 : FldAt Tryz.prog 250 0 0 := FldAt.mk Tryz.underlying250 rfl rfl Tryz.sizeOf27 (by decide)
theorem fa250_1 : FldAt Tryz.prog 250 1 1 := FldAt.mk Tryz.underlying250 rfl rfl Tryz.sizeOf27 (by decide)
theorem fa250_2 : FldAt Tryz.prog 250 2 2 := FldAt.mk Tryz.underlying250 rfl rfl Tryz.sizeOf27 (by decide)
theorem fa252_0 : FldAt Tryz.prog 252 0 0 := FldAt.mk Tryz.underlying252 rfl rfl Tryz.sizeOf250 (by decide)
theorem fa252_1 : FldAt Tryz.prog 252 1 3 := FldAt.mk Tryz.underlying252 rfl rfl Tryz.sizeOf248 (by decide)
theorem fa254_0 : FldAt Tryz.prog 254 0 0 := FldAt.mk Tryz.underlying254 rfl rfl Tryz.sizeOf3 (by decide)
theorem fa254_1 : FldAt Tryz.prog 254 1 1 := FldAt.mk Tryz.underlying254 rfl rfl Tryz.sizeOf27 (by decide)
theorem fa254_2 : FldAt Tryz.prog 254 2 2 := FldAt.mk Tryz.underlying254 rfl rfl Tryz.sizeOf27 (by decide)
theorem fa269_0 : FldAt Tryz.prog 269 0 0 := FldAt.mk Tryz.underlying269 rfl rfl Tryz.sizeOf64 (by decide)
theorem fa269_1 : FldAt Tryz.prog 269 1 1 := FldAt.mk Tryz.underlying269 rfl rfl Tryz.sizeOf27 (by decide)
theorem fa291_0 : FldAt Tryz.prog 291 0 0 := FldAt.mk Tryz.underlying291 rfl rfl Tryz.sizeOf34 (by decide)
theorem fa291_1 : FldAt Tryz.prog 291 1 1 := FldAt.mk Tryz.underlying291 rfl rfl Tryz.sizeOf39 (by decide)
theorem fa291_2 : FldAt Tryz.prog 291 2 2 := FldAt.mk Tryz.underlying291 rfl rfl Tryz.sizeOf289 (by decide)
theorem fa293_0 : FldAt Tryz.prog 293 0 0 := FldAt.mk Tryz.underlying293 rfl rfl Tryz.sizeOf4 (by decide)
theorem fa293_1 : FldAt Tryz.prog 293 1 1 := FldAt.mk Tryz.underlying293 rfl rfl Tryz.sizeOf288 (by decide)
theorem fa293_2 : FldAt Tryz.prog 293 2 2 := FldAt.mk Tryz.underlying293 rfl rfl Tryz.sizeOf27 (by decide)
theorem fa293_3 : FldAt Tryz.prog 293 3 3 := FldAt.mk Tryz.underlying293 rfl rfl Tryz.sizeOf291 (by decide)
theorem fa296_1 : FldAt Tryz.prog 296 1 1 := FldAt.mk Tryz.underlying296 rfl rfl Tryz.sizeOf64 (by decide)
theorem fa300_0 : FldAt Tryz.prog 300 0 0 := FldAt.mk Tryz.underlying300 rfl rfl Tryz.sizeOf28 (by decide)
theorem fa300_1 : FldAt Tryz.prog 300 1 1 := FldAt.mk Tryz.underlying300 rfl rfl Tryz.sizeOf3 (by decide)
theorem fa300_2 : FldAt Tryz.prog 300 2 2 := FldAt.mk Tryz.underlying300 rfl rfl Tryz.sizeOf27 (by decide)
theorem fa300_3 : FldAt Tryz.prog 300 3 3 := FldAt.mk Tryz.underlying300 rfl rfl Tryz.sizeOf3 (by decide)
theorem pl30 : Places Tryz.prog 30 [(0, 1), (1, 1)] := ⟨_, Tryz.underlying30, fun w => by simp [Tryz.sizeOf3]⟩
theorem pl92 : Places Tryz.prog 92 [(0, 1), (1, 1), (2, 1), (3, 1)] := ⟨_, Tryz.underlying92, fun w => by simp [Tryz.sizeOf87, Tryz.sizeOf88, Tryz.sizeOf89, Tryz.sizeOf90]⟩
theorem pl108 : Places Tryz.prog 108 [(0, 1), (1, 1)] := ⟨_, Tryz.underlying108, fun w => by simp [Tryz.sizeOf3, Tryz.sizeOf44]⟩
theorem pl117 : Places Tryz.prog 117 [(0, 2), (2, 1)] := ⟨_, Tryz.underlying117, fun w => by simp [Tryz.sizeOf108, Tryz.sizeOf28]⟩
theorem pl154 : Places Tryz.prog 154 [(0, 1), (1, 1), (2, 1)] := ⟨_, Tryz.underlying154, fun w => by simp [Tryz.sizeOf148, Tryz.sizeOf151, Tryz.sizeOf152]⟩
theorem pl160 : Places Tryz.prog 160 [(0, 1), (1, 1)] := ⟨_, Tryz.underlying160, fun w => by simp [Tryz.sizeOf3]⟩
theorem pl162 : Places Tryz.prog 162 [(0, 1), (1, 1), (2, 2)] := ⟨_, Tryz.underlying162, fun w => by simp [Tryz.sizeOf160, Tryz.sizeOf28, Tryz.sizeOf4]⟩
theorem pl166 : Places Tryz.prog 166 [(0, 1), (1, 1), (2, 1024)] := ⟨_, Tryz.underlying166, fun w => by simp [Tryz.sizeOf155, Tryz.sizeOf158, Tryz.sizeOf164]⟩
theorem pl169 : Places Tryz.prog 169 [(0, 1)] := ⟨_, Tryz.underlying169, fun w => by simp [Tryz.sizeOf167]⟩
theorem pl172 : Places Tryz.prog 172 [(0, 1), (1, 1), (2, 1)] := ⟨_, Tryz.underlying172, fun w => by simp [Tryz.sizeOf3, Tryz.sizeOf4]⟩
theorem pl182 : Places Tryz.prog 182 [(0, 2), (2, 1)] := ⟨_, Tryz.underlying182, fun w => by simp [Tryz.sizeOf108, Tryz.sizeOf27]⟩
theorem pl193 : Places Tryz.prog 193 [(0, 2), (2, 1), (3, 1)] := ⟨_, Tryz.underlying193, fun w => by simp [Tryz.sizeOf160, Tryz.sizeOf28, Tryz.sizeOf3]⟩
theorem pl239 : Places Tryz.prog 239 [(0, 1), (1, 1)] := ⟨_, Tryz.underlying239, fun w => by simp [Tryz.sizeOf177, Tryz.sizeOf237]⟩
theorem pl241 : Places Tryz.prog 241 [(0, 1), (1, 1)] := ⟨_, Tryz.underlying241, fun w => by simp [Tryz.sizeOf28, Tryz.sizeOf4]⟩
theorem pl245 : Places Tryz.prog 245 [(0, 1), (1, 1)] := ⟨_, Tryz.underlying245, fun w => by simp [Tryz.sizeOf242, Tryz.sizeOf34]⟩
theorem pl252 : Places Tryz.prog 252 [(0, 3), (3, 1)] := ⟨_, Tryz.underlying252, fun w => by simp [Tryz.sizeOf248, Tryz.sizeOf250]⟩
theorem pl254 : Places Tryz.prog 254 [(0, 1), (1, 1), (2, 1)] := ⟨_, Tryz.underlying254, fun w => by simp [Tryz.sizeOf27, Tryz.sizeOf3]⟩
theorem pl269 : Places Tryz.prog 269 [(0, 1), (1, 1)] := ⟨_, Tryz.underlying269, fun w => by simp [Tryz.sizeOf27, Tryz.sizeOf64]⟩
theorem pl293 : Places Tryz.prog 293 [(0, 1), (1, 1), (2, 1), (3, 3)] := ⟨_, Tryz.underlying293, fun w => by simp [Tryz.sizeOf27, Tryz.sizeOf288, Tryz.sizeOf291, Tryz.sizeOf4]⟩
theorem pl296 : Places Tryz.prog 296 [(0, 1), (1, 1)] := ⟨_, Tryz.underlying296, fun w => by simp [Tryz.sizeOf64]⟩
theorem pl300 : Places Tryz.prog 300 [(0, 1), (1, 1), (2, 1), (3, 1)] := ⟨_, Tryz.underlying300, fun w => by simp [Tryz.sizeOf27, Tryz.sizeOf28, Tryz.sizeOf3]⟩
theorem sc3 : Sc Tryz.prog 3 := fun w => ⟨Tryz.isAgg3 w, Tryz.sizeOf3 w⟩
theorem sc4 : Sc Tryz.prog 4 := fun w => ⟨Tryz.isAgg4 w, Tryz.sizeOf4 w⟩
theorem sc27 : Sc Tryz.prog 27 := fun w => ⟨Tryz.isAgg27 w, Tryz.sizeOf27 w⟩
theorem sc28 : Sc Tryz.prog 28 := fun w => ⟨Tryz.isAgg28 w, Tryz.sizeOf28 w⟩
theorem sc34 : Sc Tryz.prog 34 := fun w => ⟨Tryz.isAgg34 w, Tryz.sizeOf34 w⟩
theorem sc39 : Sc Tryz.prog 39 := fun w => ⟨Tryz.isAgg39 w, Tryz.sizeOf39 w⟩
theorem sc44 : Sc Tryz.prog 44 := fun w => ⟨Tryz.isAgg44 w, Tryz.sizeOf44 w⟩
theorem sc45 : Sc Tryz.prog 45 := fun w => ⟨Tryz.isAgg45 w, Tryz.sizeOf45 w⟩
theorem sc64 : Sc Tryz.prog 64 := fun w => ⟨Tryz.isAgg64 w, Tryz.sizeOf64 w⟩
theorem sc87 : Sc Tryz.prog 87 := fun w => ⟨Tryz.isAgg87 w, Tryz.sizeOf87 w⟩
theorem sc88 : Sc Tryz.prog 88 := fun w => ⟨Tryz.isAgg88 w, Tryz.sizeOf88 w⟩
theorem sc89 : Sc Tryz.prog 89 := fun w => ⟨Tryz.isAgg89 w, Tryz.sizeOf89 w⟩
theorem sc90 : Sc Tryz.prog 90 := fun w => ⟨Tryz.isAgg90 w, Tryz.sizeOf90 w⟩
theorem sc148 : Sc Tryz.prog 148 := fun w => ⟨Tryz.isAgg148 w, Tryz.sizeOf148 w⟩
theorem sc151 : Sc Tryz.prog 151 := fun w => ⟨Tryz.isAgg151 w, Tryz.sizeOf151 w⟩
theorem sc152 : Sc Tryz.prog 152 := fun w => ⟨Tryz.isAgg152 w, Tryz.sizeOf152 w⟩
theorem sc155 : Sc Tryz.prog 155 := fun w => ⟨Tryz.isAgg155 w, Tryz.sizeOf155 w⟩
theorem sc158 : Sc Tryz.prog 158 := fun w => ⟨Tryz.isAgg158 w, Tryz.sizeOf158 w⟩
theorem sc167 : Sc Tryz.prog 167 := fun w => ⟨Tryz.isAgg167 w, Tryz.sizeOf167 w⟩
theorem sc177 : Sc Tryz.prog 177 := fun w => ⟨Tryz.isAgg177 w, Tryz.sizeOf177 w⟩
theorem sc197 : Sc Tryz.prog 197 := fun w => ⟨Tryz.isAgg197 w, Tryz.sizeOf197 w⟩
theorem sc237 : Sc Tryz.prog 237 := fun w => ⟨Tryz.isAgg237 w, Tryz.sizeOf237 w⟩
theorem sc242 : Sc Tryz.prog 242 := fun w => ⟨Tryz.isAgg242 w, Tryz.sizeOf242 w⟩
theorem sc248 : Sc Tryz.prog 248 := fun w => ⟨Tryz.isAgg248 w, Tryz.sizeOf248 w⟩
theorem sc288 : Sc Tryz.prog 288 := fun w => ⟨Tryz.isAgg288 w, Tryz.sizeOf288 w⟩
theorem sc289 : Sc Tryz.prog 289 := fun w => ⟨Tryz.isAgg289 w, Tryz.sizeOf289 w⟩
set_option linter.unusedSimpArgs false in
theorem eqin30_10000 (a0 b0 : Int) (a1 b1 : Int) (w : World) : (Op.equalIn 10000 30 (.agg #[.int .i64 a0, .int .i64 a1]) (.agg #[.int .i64 b0, .int .i64 b1])).run Tryz.prog w = .ok (decide (a0 = b0 ∧ a1 = b1)) w := by
  rw [run_equalIn_struct w 9999 30 _ _ (by simp [Program.fieldsOf, Tryz.underlying30]) Tryz.stoodInHeld30]
  by_cases h0 : a0 = b0 <;> by_cases h1 : a1 = b1 <;> simp [Program.fieldsOf, Tryz.underlying30, Op.eqFields, part, Tryz.isAgg3, run_equalIn_int w 9998 3 .i64 .i64 _ _ Tryz.underlying3, h0, h1]
theorem seq30 (a0 b0 : Int) (a1 b1 : Int) (w : World) : (binOp .eql 30 (.agg #[.int .i64 a0, .int .i64 a1]) (.agg #[.int .i64 b0, .int .i64 b1])).run Tryz.prog w = .ok (.bool (decide (a0 = b0 ∧ a1 = b1))) w := by
  rw [run_eql_struct, eqin30_10000]
  rfl
theorem R_seq30 {X : Ctx} {E : Env} {H : Heap} {o : Oper} {x y : Operand} {t' : TypeId} {a0 b0 : Int} {a1 b1 : Int} (hP : X.P = Tryz.prog) (ho : o.op = .binOp .eql 30 x y t') (hx : ev E x = some (.agg #[.int .i64 a0, .int .i64 a1])) (hy : ev E y = some (.agg #[.int .i64 b0, .int .i64 b1])) : Runs X o E H (.bool (decide (a0 = b0 ∧ a1 = b1))) :=
  R_bin ho hx hy (fun w => by rw [hP]; exact run_eqGuard_agg w _ 30 x y _ _ Tryz.eqGuardType30) (fun w => by rw [hP]; exact seq30 a0 b0 a1 b1 w)
set_option linter.unusedSimpArgs false in
theorem eqin108_10000 (a0 b0 : Int) (a1 b1 : Int) (w : World) : (Op.equalIn 10000 108 (.agg #[.int .i64 a0, .int .i64 a1]) (.agg #[.int .i64 b0, .int .i64 b1])).run Tryz.prog w = .ok (decide (a0 = b0 ∧ a1 = b1)) w := by
  rw [run_equalIn_struct w 9999 108 _ _ (by simp [Program.fieldsOf, Tryz.underlying108]) Tryz.stoodInHeld108]
  by_cases h0 : a0 = b0 <;> by_cases h1 : a1 = b1 <;> simp [Program.fieldsOf, Tryz.underlying108, Op.eqFields, part, Tryz.isAgg3, Tryz.isAgg44, run_equalIn_int w 9998 3 .i64 .i64 _ _ Tryz.underlying3, run_equalIn_int w 9998 44 .i64 .i64 _ _ Tryz.underlying44, h0, h1]
set_option linter.unusedSimpArgs false in
theorem eqin296_10000 (a0 b0 : Int) (a1 b1 : Int) (w : World) : (Op.equalIn 10000 296 (.agg #[.int .i64 a0, .int .i64 a1]) (.agg #[.int .i64 b0, .int .i64 b1])).run Tryz.prog w = .ok (decide (a0 = b0 ∧ a1 = b1)) w := by
  rw [run_equalIn_struct w 9999 296 _ _ (by simp [Program.fieldsOf, Tryz.underlying296]) Tryz.stoodInHeld296]
  by_cases h0 : a0 = b0 <;> by_cases h1 : a1 = b1 <;> simp [Program.fieldsOf, Tryz.underlying296, Op.eqFields, part, Tryz.isAgg64, run_equalIn_int w 9998 64 .i64 .i64 _ _ Tryz.underlying64, h0, h1]
theorem sne296 (a0 b0 : Int) (a1 b1 : Int) (w : World) : (binOp .neq 296 (.agg #[.int .i64 a0, .int .i64 a1]) (.agg #[.int .i64 b0, .int .i64 b1])).run Tryz.prog w = .ok (.bool (decide (¬ (a0 = b0 ∧ a1 = b1)))) w := by
  rw [run_neq_struct, eqin296_10000]
  simp
theorem R_sne296 {X : Ctx} {E : Env} {H : Heap} {o : Oper} {x y : Operand} {t' : TypeId} {a0 b0 : Int} {a1 b1 : Int} (hP : X.P = Tryz.prog) (ho : o.op = .binOp .neq 296 x y t') (hx : ev E x = some (.agg #[.int .i64 a0, .int .i64 a1])) (hy : ev E y = some (.agg #[.int .i64 b0, .int .i64 b1])) : Runs X o E H (.bool (decide (¬ (a0 = b0 ∧ a1 = b1)))) :=
  R_bin ho hx hy (fun w => by rw [hP]; exact run_eqGuard_agg w _ 296 x y _ _ Tryz.eqGuardType296) (fun w => by rw [hP]; exact sne296 a0 b0 a1 b1 w)
theorem inf34 : Tryz.prog.info? 3 = some Tryz.t3 := by kernel_rfl
theorem si34 : SI Tryz.prog 34 3 1 8 [.int .i64 0] := ⟨Tryz.underlying34, Tryz.t3, _, inf34, rfl, rfl, rfl, rfl, rfl, by decide⟩
theorem inf72 : Tryz.prog.info? 117 = some Tryz.t117 := by kernel_rfl
theorem si72 : SI Tryz.prog 72 117 3 24 [.int .i64 0, .int .i64 0, .int .u64 0] := ⟨Tryz.underlying72, Tryz.t117, _, inf72, rfl, rfl, rfl, rfl, rfl, by decide⟩
theorem inf90 : Tryz.prog.info? 45 = some Tryz.t45 := by kernel_rfl
theorem si90 : SI Tryz.prog 90 45 1 8 [.int .i64 0] := ⟨Tryz.underlying90, Tryz.t45, _, inf90, rfl, rfl, rfl, rfl, rfl, by decide⟩
theorem inf151 : Tryz.prog.info? 182 = some Tryz.t182 := by kernel_rfl
theorem si151 : SI Tryz.prog 151 182 3 24 [.int .i64 0, .int .i64 0, .int .u64 0] := ⟨Tryz.underlying151, Tryz.t182, _, inf151, rfl, rfl, rfl, rfl, rfl, by decide⟩
theorem inf167 : Tryz.prog.info? 172 = some Tryz.t172 := by kernel_rfl
theorem si167 : SI Tryz.prog 167 172 3 24 [.int .i64 0, .int .i64 0, .bool false] := ⟨Tryz.underlying167, Tryz.t172, _, inf167, rfl, rfl, rfl, rfl, rfl, by decide⟩
theorem inf190 : Tryz.prog.info? 193 = some Tryz.t193 := by kernel_rfl
theorem si190 : SI Tryz.prog 190 193 4 32 [.int .i64 0, .int .i64 0, .int .i64 0, .int .u64 0] := ⟨Tryz.underlying190, Tryz.t193, _, inf190, rfl, rfl, rfl, rfl, rfl, by decide⟩
theorem inf237 : Tryz.prog.info? 269 = some Tryz.t269 := by kernel_rfl
theorem si237 : SI Tryz.prog 237 269 2 16 [.int .i64 0, .int .u64 0] := ⟨Tryz.underlying237, Tryz.t269, _, inf237, rfl, rfl, rfl, rfl, rfl, by decide⟩
theorem inf288 : Tryz.prog.info? 300 = some Tryz.t300 := by kernel_rfl
theorem si288 : SI Tryz.prog 288 300 4 32 [.int .u64 0, .int .i64 0, .int .u64 0, .int .i64 0] := ⟨Tryz.underlying288, Tryz.t300, _, inf288, rfl, rfl, rfl, rfl, rfl, by decide⟩
theorem zv30 : Zv Tryz.prog 30 [.int .i64 0, .int .i64 0] := ⟨_, rfl, Tryz.zeroValue30⟩
theorem zv34 : Zv Tryz.prog 34 [.slice none 0 0] := ⟨_, rfl, Tryz.zeroValue34⟩
theorem zv40 : Zv Tryz.prog 40 [.slice none 0 0, .slice none 0 0, .slice none 0 0, .slice none 0 0] := ⟨_, rfl, Tryz.zeroValue40⟩
theorem zv92 : Zv Tryz.prog 92 [.pointer none, .pointer none, .pointer none, .slice none 0 0] := ⟨_, rfl, Tryz.zeroValue92⟩
theorem zv108 : Zv Tryz.prog 108 [.int .i64 0, .int .i64 0] := ⟨_, rfl, Tryz.zeroValue108⟩
theorem zv117 : Zv Tryz.prog 117 [.int .i64 0, .int .i64 0, .int .u64 0] := ⟨_, rfl, Tryz.zeroValue117⟩
theorem zv154 : Zv Tryz.prog 154 [.pointer none, .slice none 0 0, .map none] := ⟨_, rfl, Tryz.zeroValue154⟩
theorem zv160 : Zv Tryz.prog 160 [.int .i64 0, .int .i64 0] := ⟨_, rfl, Tryz.zeroValue160⟩
theorem zv162 : Zv Tryz.prog 162 [.int .u64 0, .bool false, .int .i64 0, .int .i64 0] := ⟨_, rfl, Tryz.zeroValue162⟩
theorem zv163 : Zv Tryz.prog 163 [.int .u64 0, .bool false, .int .i64 0, .int .i64 0, .int .u64 0, .bool false, .int .i64 0, .int .i64 0] := ⟨_, rfl, Tryz.zeroValue163⟩
theorem zv166 : Zv Tryz.prog 166 ([.pointer none, .pointer none] ++ (List.replicate 128 (List.replicate 2 [.int .u64 0, .bool false, .int .i64 0, .int .i64 0]).flatten).flatten) := ⟨_, by kernel_rfl, Tryz.zeroValue166⟩
theorem zv169 : Zv Tryz.prog 169 [.slice none 0 0] := ⟨_, rfl, Tryz.zeroValue169⟩
theorem zv172 : Zv Tryz.prog 172 [.int .i64 0, .int .i64 0, .bool false] := ⟨_, rfl, Tryz.zeroValue172⟩
theorem zv177 : Zv Tryz.prog 177 [.pointer none] := ⟨_, rfl, Tryz.zeroValue177⟩
theorem zv182 : Zv Tryz.prog 182 [.int .i64 0, .int .i64 0, .int .u64 0] := ⟨_, rfl, Tryz.zeroValue182⟩
theorem zv193 : Zv Tryz.prog 193 [.int .i64 0, .int .i64 0, .int .i64 0, .int .u64 0] := ⟨_, rfl, Tryz.zeroValue193⟩
theorem zv195 : Zv Tryz.prog 195 [.int .i64 0, .int .i64 0] := ⟨_, rfl, Tryz.zeroValue195⟩
theorem zv197 : Zv Tryz.prog 197 [.nilFunc] := ⟨_, rfl, Tryz.zeroValue197⟩
theorem zv239 : Zv Tryz.prog 239 [.slice none 0 0, .pointer none] := ⟨_, rfl, Tryz.zeroValue239⟩
theorem zv241 : Zv Tryz.prog 241 [.bool false, .int .u64 0] := ⟨_, rfl, Tryz.zeroValue241⟩
theorem zv245 : Zv Tryz.prog 245 [.pointer none, .slice none 0 0] := ⟨_, rfl, Tryz.zeroValue245⟩
theorem zv252 : Zv Tryz.prog 252 [.int .u64 0, .int .u64 0, .int .u64 0, .map none] := ⟨_, rfl, Tryz.zeroValue252⟩
theorem zv254 : Zv Tryz.prog 254 [.int .i64 0, .int .u64 0, .int .u64 0] := ⟨_, rfl, Tryz.zeroValue254⟩
theorem zv269 : Zv Tryz.prog 269 [.int .i64 0, .int .u64 0] := ⟨_, rfl, Tryz.zeroValue269⟩
theorem zv293 : Zv Tryz.prog 293 [.bool false, .slice none 0 0, .int .u64 0, .slice none 0 0, .nilFunc, .nilFunc] := ⟨_, rfl, Tryz.zeroValue293⟩
theorem zv296 : Zv Tryz.prog 296 [.int .i64 0, .int .i64 0] := ⟨_, rfl, Tryz.zeroValue296⟩
theorem zv300 : Zv Tryz.prog 300 [.int .u64 0, .int .i64 0, .int .u64 0, .int .i64 0] := ⟨_, rfl, Tryz.zeroValue300⟩
theorem zv321 : Zv Tryz.prog 321 [.int .i64 0, .int .i64 0, .int .i64 0, .int .i64 0, .int .i64 0, .int .i64 0, .int .i64 0, .int .i64 0, .int .i64 0, .int .i64 0] := ⟨_, rfl, Tryz.zeroValue321⟩
end Go.Proofs.YtbkdebnkoidicaaGreat
end
section
set_option linter.unusedVariables false
namespace Go.Proofs.YtbkdebnkoidicaaGreat
theorem Pull.consA {x a : Ent} {l F R : Heap} (h : Pull x (a :: (l ++ F)) R) : Pull x ((a :: l) ++ F) R := h
theorem Pull.nilA {x : Ent} {F R : Heap} (h : Pull x F R) : Pull x ([] ++ F) R := h
theorem PullA.consA {A : Heap} {a : Ent} {l F R : Heap} (h : PullA A (a :: (l ++ F)) R) : PullA A ((a :: l) ++ F) R := h
theorem PullA.nilA {A F R : Heap} (h : PullA A F R) : PullA A ([] ++ F) R := h
theorem Pulls.consA {A : Heap} {a : Ent} {l F R : Heap} (h : Pulls A (a :: (l ++ F)) R) : Pulls A ((a :: l) ++ F) R := h
theorem Pulls.nilA {A F R : Heap} (h : Pulls A F R) : Pulls A ([] ++ F) R := h
theorem Pulls.consX {a : Ent} {l F H R : Heap} (h : Pulls (a :: (l ++ F)) H R) : Pulls ((a :: l) ++ F) H R := h
theorem Pulls.nilX {F H R : Heap} (h : Pulls F H R) : Pulls ([] ++ F) H R := h
theorem memconsA {x a : Ent} {l F : Heap} (h : x ∈ a :: (l ++ F)) : x ∈ (a :: l) ++ F := h
theorem memnilA {x : Ent} {F : Heap} (h : x ∈ F) : x ∈ ([] ++ F) := h
theorem memheadC {x : Ent} {l : Heap} : x ∈ x :: l := List.mem_cons_self ..
theorem memtailC {x y : Ent} {l : Heap} (h : x ∈ l) : x ∈ y :: l := List.mem_cons_of_mem _ h
theorem memappC {x : Ent} {A l : Heap} (h : x ∈ l) : x ∈ A ++ l := List.mem_append_right _ h
theorem plC {x : Ent} {H F : Heap} (h : Pull x H F := by repeat (first | with_reducible exact Pull.head | with_reducible apply Pull.consA | with_reducible apply Pull.nilA | exact Pull.head | with_reducible apply Pull.tail | with_reducible apply Pull.assoc | with_reducible apply Pull.app)) : Pull x H F := h
theorem pqC {A H F : Heap} (h : Pulls A H F := by repeat (first | with_reducible exact Pulls.nil | with_reducible exact Pulls.all | with_reducible apply Pulls.consX | with_reducible apply Pulls.nilX | ((with_reducible apply Pulls.cons); (repeat (first | with_reducible exact Pull.head | with_reducible apply Pull.consA | with_reducible apply Pull.nilA | exact Pull.head | with_reducible apply Pull.tail | with_reducible apply Pull.assoc | with_reducible apply Pull.app))) | with_reducible apply Pulls.assocX | ((with_reducible apply Pulls.chunk); (repeat (first | with_reducible apply PullA.consA | with_reducible apply PullA.nilA | with_reducible exact PullA.here | with_reducible exact PullA.all | exact PullA.here | with_reducible apply PullA.tail | with_reducible apply PullA.assoc | with_reducible apply PullA.app))) | ((with_reducible apply Pulls.chunk1); (repeat (first | with_reducible apply PullA.consA | with_reducible apply PullA.nilA | with_reducible exact PullA.here | with_reducible exact PullA.all | exact PullA.here | with_reducible apply PullA.tail | with_reducible apply PullA.assoc | with_reducible apply PullA.app)); done) | exact Pulls.all | with_reducible apply Pulls.consA | with_reducible apply Pulls.nilA | with_reducible apply Pulls.skip | with_reducible apply Pulls.assoc | with_reducible apply Pulls.skipA)) : Pulls A H F := h
theorem mmC {x : Ent} {H : Heap} (h : x ∈ H := by repeat (first | with_reducible exact memheadC | with_reducible apply memconsA | with_reducible apply memnilA | exact memheadC | with_reducible apply memtailC | with_reducible apply mem_assoc | with_reducible apply memappC)) : x ∈ H := h
end Go.Proofs.YtbkdebnkoidicaaGreat
end
section
set_option linter.unusedVariables false
set_option maxRecDepth 20000
namespace Go.Proofs.YtbkdebnkoidicaaGreat.Slt
/-- A number of a table. -/
structure Pl where
  given : Int
  value : Int
  opn : Bool
def encP (x : Pl) : List Value := [.int .i64 x.given, .int .i64 x.value, .bool x.opn]
theorem encP3 (x : Pl) : (encP x).length = 3 := rfl
/-- A table in memory: the struct's block, the array's (c: its capacity, tl: its spare cells). -/
abbrev tabH (p pb c : Nat) (tl : List Value) (T : List Pl) : Heap := [⟨some p, cl [.slice (some ⟨pb, 0, none⟩) T.length c] 169⟩, ⟨some pb, cl (T.flatMap encP ++ tl) 172⟩]
/-- The numbers that a table has given. -/
structure Fine (T : List Pl) : Prop where
  ne : T ≠ []
  len : T.length ≤ 128
  all : ∀ x ∈ T, 0 ≤ x.given ∧ x.given ≤ 1000000
abbrev ptr (p : Nat) : Value := .pointer (some ⟨p, 0, none⟩)
abbrev fdV (n g : Int) : Value := .agg #[.int .i64 n, .int .i64 g]
/-- The open descriptor at place i. -/
def OpenAt (T : List Pl) (n g : Int) (i : Nat) (x : Pl) : Prop := n = (i : Int) ∧ T[i]? = some x ∧ x.opn = true ∧ g = x.given - 1
def NoneAt (T : List Pl) (n g : Int) : Prop := ∀ i x, ¬ OpenAt T n g i x
theorem lt_of {T : List Pl} {i : Nat} {x : Pl} (h : T[i]? = some x) : i < T.length := (List.getElem?_eq_some_iff.1 h).1
theorem Fine.bd {T : List Pl} (hT : Fine T) {i : Nat} {x : Pl} (h : T[i]? = some x) : 0 ≤ x.given ∧ x.given ≤ 1000000 := hT.all x (List.mem_of_getElem? h)
theorem Fine.pos {T : List Pl} (hT : Fine T) : 0 < T.length := List.length_pos_iff.2 hT.ne
theorem ex_of {T : List Pl} {i : Nat} (h : i < T.length) : ∃ x, T[i]? = some x := ⟨_, List.getElem?_eq_getElem h⟩
theorem zero_some (p pb c : Nat) (tl : List Value) (T : List Pl) (hT : T ≠ []) : Spec Tryz.prog 87 [ptr p] (tabH p pb c tl T) (fun v H' => v = .bool false ∧ H' = tabH p pb c tl T) := by
  have hlen : 0 < T.length := List.length_pos_iff.2 hT
  refine Spec.of (E := [(0, ptr p)]) Tryz.func87 rfl (by kernel_rfl) Tryz.ntmps87 rfl rfl (fun w => ?_)
  refine WC_seq ?_
  refine WC_region ?_
  refine WL_val rfl rfl rfl (R_assign rfl rfl) ?_
  refine WL_nil ?_
  refine WQ_code ?_
  refine WC_seq ?_
  refine WC_region ?_
  refine WL_val rfl rfl rfl (R_move rfl rfl) ?_
  refine WL_val rfl rfl rfl (R_ptrEqNil rfl Tryz.underlying87 rfl) ?_
  refine WL_val rfl rfl rfl (R_move rfl rfl) ?_
  refine WL_val rfl rfl rfl (R_move rfl rfl) ?_
  refine WL_val rfl rfl rfl (R_nilCheck rfl rfl) ?_
  refine WL_val rfl rfl rfl (R_fieldAddr rfl fa169_0 rfl) ?_
  refine WL_val rfl rfl rfl (R_load rfl sc167 rfl (mmZ) rfl) ?_
  refine WL_val rfl rfl rfl (R_len rfl Tryz.underlying167 rfl) ?_
  refine WL_val rfl rfl rfl (R_eql rfl rfl rfl) ?_
  refine WL_val rfl rfl rfl (R_pickF rfl rfl rfl) ?_
  refine WL_val rfl rfl rfl (R_assign rfl rfl) ?_
  refine WL_nil ?_
  refine WQ_code ?_
  refine WC_ret ?_
  refine WQ_ret rfl rfl (.cons (.tmp rfl) .nil) rfl (by
      exact ⟨congrArg Value.bool (by simp; exact hT), rfl⟩) (pqZ)
theorem find_yes (p pb c : Nat) (tl : List Value) (T : List Pl) (hT : Fine T) (n g : Int) (i : Nat) (x : Pl) (h : OpenAt T n g i x) : Spec Tryz.prog 88 [ptr p, fdV n g] (tabH p pb c tl T)
    (fun v H' => v = .tuple #[.pointer (some ⟨pb, 0 + i * 3, none⟩), .int .i64 0] ∧ H' = tabH p pb c tl T) := by
  obtain ⟨rfl, hx, ho, rfl⟩ := h
  have hb := hT.bd hx
  have hlt := lt_of hx
  refine Spec.of (E := [(0, ptr p), (1, fdV (i : Int) (x.given - 1))]) Tryz.func88 rfl (by kernel_rfl) Tryz.ntmps88 rfl rfl (fun w => ?_)
  refine WC_seq ?_
  refine WC_region ?_
  refine WL_do rfl rfl rfl (D_box (cs := [_, _]) rfl rfl rfl) ?_
  rintro _ _ ⟨b1, rfl, rfl⟩
  refine WL_val rfl rfl rfl (R_assign rfl rfl) ?_
  refine WL_val rfl rfl rfl (R_assign rfl rfl) ?_
  refine WL_nil ?_
  refine WQ_code ?_
  refine WC_seq ?_
  refine WC_seq ?_
  refine WC_region ?_
  refine WL_val rfl rfl rfl (R_move rfl rfl) ?_
  refine WL_do rfl rfl rfl (D_call (zero_some p pb c tl T hT.ne) rfl rfl rfl rfl (pqZ)) ?_
  rintro _ _ ⟨_, ⟨rfl, rfl⟩, rfl⟩
  refine WL_nil ?_
  refine WQ_code ?_
  refine WC_F rfl ?_
  refine WC_skip ?_
  refine WQ_code ?_
  refine WC_seq ?_
  refine WC_seq ?_
  refine WC_draw _ [(0, true), (1, true), (2, true), (3, true), (4, true), (5, true), (6, true), (7, true), (8, true), (9, true), (10, true), (11, true), (12, true)] followsMixed rfl rfl (by kernel_rfl) .all ?_
  refine WM_val rfl rfl rfl rfl (R_fieldAddr rfl fa30_0 rfl) ?_
  refine WM_val rfl rfl rfl rfl (R_load rfl sc3 rfl (mmZ) rfl) ?_
  refine WM_val rfl rfl rfl rfl (R_lss rfl rfl rfl) ?_
  refine WM_val rfl rfl rfl rfl (R_move rfl rfl) ?_
  refine WM_set (s := 12) (v := .bool false) rfl (by simp) ?_
  refine WM_val rfl rfl rfl rfl (R_fieldAddr rfl fa30_0 rfl) ?_
  refine WM_val rfl rfl rfl rfl (R_load rfl sc3 rfl (mmZ) rfl) ?_
  refine WM_val rfl rfl rfl rfl (R_move rfl rfl) ?_
  refine WM_val rfl rfl rfl rfl (R_nilCheck rfl rfl) ?_
  refine WM_val rfl rfl rfl rfl (R_fieldAddr rfl fa169_0 rfl) ?_
  refine WM_val rfl rfl rfl rfl (R_load rfl sc167 rfl (mmZ) rfl) ?_
  refine WM_val rfl rfl rfl rfl (R_len rfl Tryz.underlying167 rfl) ?_
  refine WM_val rfl rfl rfl rfl (R_geq rfl rfl rfl) ?_
  refine WM_val rfl rfl rfl rfl (R_pickF rfl rfl rfl) ?_
  refine WM_nil ?_
  refine WQ_code ?_
  refine WC_dF rfl (by omega) ?_
  refine WC_skip ?_
  refine WQ_code ?_
  refine WC_seq ?_
  refine WC_draw _ [(0, true), (1, true), (2, true), (3, true), (4, true), (5, true), (6, true), (7, true)] followsMixed rfl rfl (by kernel_rfl) .all ?_
  refine WM_val rfl rfl rfl rfl (R_move rfl rfl) ?_
  refine WM_val rfl rfl rfl rfl (R_nilCheck rfl rfl) ?_
  refine WM_val rfl rfl rfl rfl (R_fieldAddr rfl fa169_0 rfl) ?_
  refine WM_val rfl rfl rfl rfl (R_load rfl sc167 rfl (mmZ) rfl) ?_
  refine WM_val rfl rfl rfl rfl (R_fieldAddr rfl fa30_0 rfl) ?_
  refine WM_val rfl rfl rfl rfl (R_load rfl sc3 rfl (mmZ) rfl) ?_
  refine WM_val rfl rfl rfl rfl (R_indexAddrN rfl Tryz.underlying167 Tryz.sizeOf172 rfl rfl (by exact hlt)) ?_
  refine WM_val rfl rfl rfl rfl (R_assign rfl rfl) ?_
  refine WM_nil ?_
  refine WQ_code ?_
  refine WC_seq ?_
  refine WC_seq ?_
  refine WC_draw _ [(0, true), (1, true), (2, true), (3, true), (4, true), (5, true), (6, true), (7, true), (8, true), (9, true), (10, true), (11, true), (12, true), (13, true), (14, true)] followsMixed rfl rfl (by kernel_rfl) .all ?_
  refine WM_val rfl rfl rfl rfl (R_move rfl rfl) ?_
  refine WM_val rfl rfl rfl rfl (R_nilCheck rfl rfl) ?_
  refine WM_val rfl rfl rfl rfl (R_fieldAddr rfl fa172_2 rfl) ?_
  refine WM_val rfl rfl rfl rfl (R_load rfl sc4 rfl (mmZ) (fm_get0 encP3 hx (by omega))) ?_
  refine WM_val rfl rfl rfl rfl (R_not rfl rfl) ?_
  refine WM_val rfl rfl rfl rfl (R_move rfl rfl) ?_
  refine WM_set (s := 34) (v := .bool false) rfl (by simp [ho]) ?_
  refine WM_val rfl rfl rfl rfl (R_fieldAddr rfl fa30_1 rfl) ?_
  refine WM_val rfl rfl rfl rfl (R_load rfl sc3 rfl (mmZ) rfl) ?_
  refine WM_val rfl rfl rfl rfl (R_move rfl rfl) ?_
  refine WM_val rfl rfl rfl rfl (R_nilCheck rfl rfl) ?_
  refine WM_val rfl rfl rfl rfl (R_fieldAddr rfl fa172_0 rfl) ?_
  refine WM_val rfl rfl rfl rfl (R_load rfl sc3 rfl (mmZ) (fm_get0 encP3 hx (by omega))) ?_
  refine WM_val rfl rfl rfl rfl (R_sub rfl rfl rfl (by omega)) ?_
  refine WM_val rfl rfl rfl rfl (R_neq rfl rfl rfl) ?_
  refine WM_val rfl rfl rfl rfl (R_pickF rfl rfl rfl) ?_
  refine WM_nil ?_
  refine WQ_code ?_
  refine WC_dF rfl (by simp) ?_
  refine WC_skip ?_
  refine WQ_code ?_
  refine WC_seq ?_
  refine WC_region ?_
  refine WL_val rfl rfl rfl (R_move rfl rfl) ?_
  refine WL_val rfl rfl rfl (R_assign rfl rfl) ?_
  refine WL_val rfl rfl rfl (R_assign rfl rfl) ?_
  refine WL_nil ?_
  refine WQ_code ?_
  refine WC_ret ?_
  refine WQ_ret rfl rfl (.cons (.tmp rfl) (.cons (.tmp rfl) .nil)) rfl (by
      exact ⟨rfl, rfl⟩) (pqZ)
theorem find_no (p pb c : Nat) (tl : List Value) (T : List Pl) (hT : Fine T) (n g : Int) (h : NoneAt T n g) : Spec Tryz.prog 88 [ptr p, fdV n g] (tabH p pb c tl T)
    (fun v H' => v = .tuple #[.pointer none, .int .i64 9] ∧ H' = tabH p pb c tl T) := by
  refine Spec.of (E := [(0, ptr p), (1, fdV n g)]) Tryz.func88 rfl (by kernel_rfl) Tryz.ntmps88 rfl rfl (fun w => ?_)
  refine WC_seq ?_
  refine WC_region ?_
  refine WL_do rfl rfl rfl (D_box (cs := [_, _]) rfl rfl rfl) ?_
  rintro _ _ ⟨b1, rfl, rfl⟩
  refine WL_val rfl rfl rfl (R_assign rfl rfl) ?_
  refine WL_val rfl rfl rfl (R_assign rfl rfl) ?_
  refine WL_nil ?_
  refine WQ_code ?_
  refine WC_seq ?_
  refine WC_seq ?_
  refine WC_region ?_
  refine WL_val rfl rfl rfl (R_move rfl rfl) ?_
  refine WL_do rfl rfl rfl (D_call (zero_some p pb c tl T hT.ne) rfl rfl rfl rfl (pqZ)) ?_
  rintro _ _ ⟨_, ⟨rfl, rfl⟩, rfl⟩
  refine WL_nil ?_
  refine WQ_code ?_
  refine WC_F rfl ?_
  refine WC_skip ?_
  refine WQ_code ?_
  refine WC_seq ?_
  refine WC_seq ?_
  refine WC_draw _ [(0, true), (1, true), (2, true), (3, true), (4, true), (5, true), (6, true), (7, true), (8, true), (9, true), (10, true), (11, true), (12, true)] followsMixed rfl rfl (by kernel_rfl) .all ?_
  refine WM_val rfl rfl rfl rfl (R_fieldAddr rfl fa30_0 rfl) ?_
  refine WM_val rfl rfl rfl rfl (R_load rfl sc3 rfl (mmZ) rfl) ?_
  refine WM_val rfl rfl rfl rfl (R_lss rfl rfl rfl) ?_
  refine WM_val rfl rfl rfl rfl (R_move rfl rfl) ?_
  refine WM_splitD (s := 12) rfl (fun c1 => ?_) (fun c1 => ?_)
  · refine WM_skip rfl rfl rfl rfl ?_
    refine WM_skip rfl rfl rfl rfl ?_
    refine WM_skip rfl rfl rfl rfl ?_
    refine WM_skip rfl rfl rfl rfl ?_
    refine WM_skip rfl rfl rfl rfl ?_
    refine WM_skip rfl rfl rfl rfl ?_
    refine WM_skip rfl rfl rfl rfl ?_
    refine WM_skip rfl rfl rfl rfl ?_
    refine WM_val rfl rfl rfl rfl (R_pickT rfl rfl rfl) ?_
    refine WM_nil ?_
    refine WQ_code ?_
    refine WC_T rfl ?_
    refine WC_seq ?_
    refine WC_region ?_
    refine WL_val rfl rfl rfl (R_assign rfl rfl) ?_
    refine WL_val rfl rfl rfl (R_assign rfl rfl) ?_
    refine WL_nil ?_
    refine WQ_code ?_
    refine WC_ret ?_
    refine WQ_ret rfl rfl (.cons (.tmp rfl) (.cons (.tmp rfl) .nil)) rfl (by
        exact ⟨rfl, rfl⟩) (pqZ)
  · refine WM_val rfl rfl rfl rfl (R_fieldAddr rfl fa30_0 rfl) ?_
    refine WM_val rfl rfl rfl rfl (R_load rfl sc3 rfl (mmZ) rfl) ?_
    refine WM_val rfl rfl rfl rfl (R_move rfl rfl) ?_
    refine WM_val rfl rfl rfl rfl (R_nilCheck rfl rfl) ?_
    refine WM_val rfl rfl rfl rfl (R_fieldAddr rfl fa169_0 rfl) ?_
    refine WM_val rfl rfl rfl rfl (R_load rfl sc167 rfl (mmZ) rfl) ?_
    refine WM_val rfl rfl rfl rfl (R_len rfl Tryz.underlying167 rfl) ?_
    refine WM_val rfl rfl rfl rfl (R_geq rfl rfl rfl) ?_
    refine WM_val rfl rfl rfl rfl (R_pickF rfl rfl rfl) ?_
    refine WM_nil ?_
    refine WQ_code ?_
    refine WC_dec rfl (fun c2 => ?_) (fun c2 => ?_)
    · refine WC_seq ?_
      refine WC_region ?_
      refine WL_val rfl rfl rfl (R_assign rfl rfl) ?_
      refine WL_val rfl rfl rfl (R_assign rfl rfl) ?_
      refine WL_nil ?_
      refine WQ_code ?_
      refine WC_ret ?_
      refine WQ_ret rfl rfl (.cons (.tmp rfl) (.cons (.tmp rfl) .nil)) rfl (by
          exact ⟨rfl, rfl⟩) (pqZ)
    · refine WC_skip ?_
      refine WQ_code ?_
      refine WC_seq ?_
      refine WC_draw _ [(0, true), (1, true), (2, true), (3, true), (4, true), (5, true), (6, true), (7, true)] followsMixed rfl rfl (by kernel_rfl) .all ?_
      refine WM_val rfl rfl rfl rfl (R_move rfl rfl) ?_
      refine WM_val rfl rfl rfl rfl (R_nilCheck rfl rfl) ?_
      refine WM_val rfl rfl rfl rfl (R_fieldAddr rfl fa169_0 rfl) ?_
      refine WM_val rfl rfl rfl rfl (R_load rfl sc167 rfl (mmZ) rfl) ?_
      refine WM_val rfl rfl rfl rfl (R_fieldAddr rfl fa30_0 rfl) ?_
      refine WM_val rfl rfl rfl rfl (R_load rfl sc3 rfl (mmZ) rfl) ?_
      obtain ⟨x, hx⟩ := ex_of (T := T) (i := n.toNat) (by omega)
      have hb := hT.bd hx
      refine WM_val rfl rfl rfl rfl (R_indexAddr rfl Tryz.underlying167 Tryz.sizeOf172 rfl rfl (by exact ⟨by omega, by omega⟩)) ?_
      refine WM_val rfl rfl rfl rfl (R_assign rfl rfl) ?_
      refine WM_nil ?_
      refine WQ_code ?_
      refine WC_seq ?_
      refine WC_seq ?_
      refine WC_draw _ [(0, true), (1, true), (2, true), (3, true), (4, true), (5, true), (6, true), (7, true), (8, true), (9, true), (10, true), (11, true), (12, true), (13, true), (14, true)] followsMixed rfl rfl (by kernel_rfl) .all ?_
      refine WM_val rfl rfl rfl rfl (R_move rfl rfl) ?_
      refine WM_val rfl rfl rfl rfl (R_nilCheck rfl rfl) ?_
      refine WM_val rfl rfl rfl rfl (R_fieldAddr rfl fa172_2 rfl) ?_
      refine WM_val rfl rfl rfl rfl (R_load rfl sc4 rfl (mmZ) (fm_get0 encP3 hx (by omega))) ?_
      refine WM_val rfl rfl rfl rfl (R_not rfl rfl) ?_
      refine WM_val rfl rfl rfl rfl (R_move rfl rfl) ?_
      refine WM_split (s := 34) rfl (fun c3 => ?_) (fun c3 => ?_)
      · refine WM_skip rfl rfl rfl rfl ?_
        refine WM_skip rfl rfl rfl rfl ?_
        refine WM_skip rfl rfl rfl rfl ?_
        refine WM_skip rfl rfl rfl rfl ?_
        refine WM_skip rfl rfl rfl rfl ?_
        refine WM_skip rfl rfl rfl rfl ?_
        refine WM_skip rfl rfl rfl rfl ?_
        refine WM_skip rfl rfl rfl rfl ?_
        refine WM_val rfl rfl rfl rfl (R_pickT rfl rfl rfl) ?_
        refine WM_nil ?_
        refine WQ_code ?_
        refine WC_T rfl ?_
        refine WC_seq ?_
        refine WC_region ?_
        refine WL_val rfl rfl rfl (R_assign rfl rfl) ?_
        refine WL_val rfl rfl rfl (R_assign rfl rfl) ?_
        refine WL_nil ?_
        refine WQ_code ?_
        refine WC_ret ?_
        refine WQ_ret rfl rfl (.cons (.tmp rfl) (.cons (.tmp rfl) .nil)) rfl (by
            exact ⟨rfl, rfl⟩) (pqZ)
      · refine WM_val rfl rfl rfl rfl (R_fieldAddr rfl fa30_1 rfl) ?_
        refine WM_val rfl rfl rfl rfl (R_load rfl sc3 rfl (mmZ) rfl) ?_
        refine WM_val rfl rfl rfl rfl (R_move rfl rfl) ?_
        refine WM_val rfl rfl rfl rfl (R_nilCheck rfl rfl) ?_
        refine WM_val rfl rfl rfl rfl (R_fieldAddr rfl fa172_0 rfl) ?_
        refine WM_val rfl rfl rfl rfl (R_load rfl sc3 rfl (mmZ) (fm_get0 encP3 hx (by omega))) ?_
        refine WM_val rfl rfl rfl rfl (R_sub rfl rfl rfl (by omega)) ?_
        refine WM_val rfl rfl rfl rfl (R_neq rfl rfl rfl) ?_
        refine WM_val rfl rfl rfl rfl (R_pickF rfl rfl rfl) ?_
        refine WM_nil ?_
        refine WQ_code ?_
        refine WC_dec rfl (fun c4 => ?_) (fun c4 => ?_)
        · refine WC_seq ?_
          refine WC_region ?_
          refine WL_val rfl rfl rfl (R_assign rfl rfl) ?_
          refine WL_val rfl rfl rfl (R_assign rfl rfl) ?_
          refine WL_nil ?_
          refine WQ_code ?_
          refine WC_ret ?_
          refine WQ_ret rfl rfl (.cons (.tmp rfl) (.cons (.tmp rfl) .nil)) rfl (by
              exact ⟨rfl, rfl⟩) (pqZ)
        · exfalso
          exact h n.toNat x ⟨by omega, hx, by simp_all, by omega⟩
end Go.Proofs.YtbkdebnkoidicaaGreat.Slt
end
section
set_option linter.unusedVariables false
set_option maxRecDepth 20000
namespace Go.Proofs.YtbkdebnkoidicaaGreat.Slt
abbrev freshT (n : Nat) : List Pl := List.replicate n ⟨0, 0, false⟩
theorem new_ok (n : Nat) (h1 : 1 ≤ n) (h2 : n ≤ 128) : Spec Tryz.prog 40 [.int .i64 (n : Int)] [] (fun v H' => ∃ p pb, v = .tuple #[ptr p, .int .i64 0] ∧ H' = tabH p pb n [] (freshT n)) := by
  refine Spec.mono (post := fun v H' => ∃ p pb, v = .tuple #[ptr p, .int .i64 0] ∧ H' = [⟨some p, cl [.slice (some ⟨pb, 0, none⟩) n n] 169⟩, ⟨some pb, cl ((freshT n).flatMap encP ++ []) 172⟩]) ?_ (fun v H' ⟨p, pb, h1, h2⟩ => ⟨p, pb, h1, by rw [h2]; simp [tabH]⟩)
  refine Spec.of (E := [(0, .int .i64 (n : Int))]) Tryz.func40 rfl (by kernel_rfl) Tryz.ntmps40 rfl rfl (fun w => ?_)
  refine WC_seq ?_
  refine WC_region ?_
  refine WL_val rfl rfl rfl (R_assign rfl rfl) ?_
  refine WL_val rfl rfl rfl (R_assign rfl rfl) ?_
  refine WL_nil ?_
  refine WQ_code ?_
  refine WC_seq ?_
  refine WC_seq ?_
  refine WC_region ?_
  refine WL_val rfl rfl rfl (R_move rfl rfl) ?_
  refine WL_val rfl rfl rfl (R_lss rfl rfl rfl) ?_
  refine WL_val rfl rfl rfl (R_move rfl rfl) ?_
  refine WL_set (s := 6) (v := .bool false) rfl (by simp; omega) ?_
  refine WL_val rfl rfl rfl (R_move rfl rfl) ?_
  refine WL_val rfl rfl rfl (R_gtr rfl rfl rfl) ?_
  refine WL_val rfl rfl rfl (R_pickF rfl rfl rfl) ?_
  refine WL_nil ?_
  refine WQ_code ?_
  refine WC_dF rfl (by omega) ?_
  refine WC_skip ?_
  refine WQ_code ?_
  refine WC_seq ?_
  refine WC_region ?_
  refine WL_val rfl rfl rfl (R_move rfl rfl) ?_
  refine WL_do rfl rfl rfl (D_make (n := n) rfl si167 rfl rfl (by omega) (by omega)) ?_
  rintro _ _ ⟨b1, rfl, rfl⟩
  refine WL_val rfl rfl rfl (R_build rfl zv169 pl169 rfl rfl) ?_
  refine WL_do rfl rfl rfl (D_box (cs := [_]) rfl rfl rfl) ?_
  rintro _ _ ⟨b2, rfl, rfl⟩
  refine WL_val rfl rfl rfl (R_assign rfl rfl) ?_
  refine WL_val rfl rfl rfl (R_assign rfl rfl) ?_
  refine WL_nil ?_
  refine WQ_code ?_
  refine WC_ret ?_
  rw [show (List.replicate n [Value.int .i64 0, .int .i64 0, .bool false]).flatten = (freshT n).flatMap encP ++ [] from by rw [List.append_nil]; exact fm_rep (enc := encP) ⟨0, 0, false⟩ n]
  refine WQ_ret rfl rfl (.cons (.tmp rfl) (.cons (.tmp rfl) .nil)) rfl (by
      exact ⟨b2, b1, rfl, rfl⟩) (pqZ)
theorem open_at (p pb c : Nat) (tl : List Value) (T : List Pl) (hT : Fine T) (v : Int) (i : Nat) (x : Pl) (hx : T[i]? = some x) (ho : x.opn = false) (hl : ∀ (j : Nat) (y : Pl), j < i → T[j]? = some y → y.opn = true) : Spec Tryz.prog 42 [ptr p, .int .i64 v] (tabH p pb c tl T)
    (fun r H' => r = .tuple #[fdV i x.given, .int .i64 0] ∧ H' = tabH p pb c tl (T.set i ⟨x.given + 1, v, true⟩)) := by
  have hb := hT.bd hx
  have hlt := lt_of hx
  have hlen := hT.len
  refine Spec.of (E := [(0, ptr p), (1, .int .i64 v)]) Tryz.func42 rfl (by kernel_rfl) Tryz.ntmps42 rfl rfl (fun w => ?_)
  refine WC_seq ?_
  refine WC_region ?_
  refine WL_do rfl rfl rfl (D_alloc rfl zv30) ?_
  rintro _ _ ⟨b1, rfl, rfl⟩
  refine WL_val rfl rfl rfl (R_assign rfl rfl) ?_
  refine WL_nil ?_
  refine WQ_code ?_
  refine WC_seq ?_
  refine WC_seq ?_
  refine WC_region ?_
  refine WL_val rfl rfl rfl (R_move rfl rfl) ?_
  refine WL_do rfl rfl rfl (D_call (zero_some p pb c tl T hT.ne) rfl rfl rfl rfl (pqZ)) ?_
  rintro _ _ ⟨_, ⟨rfl, rfl⟩, rfl⟩
  refine WL_nil ?_
  refine WQ_code ?_
  refine WC_F rfl ?_
  refine WC_skip ?_
  refine WQ_code ?_
  refine WC_seq ?_
  refine WC_seq ?_
  refine WC_region ?_
  refine WL_val rfl rfl rfl (R_move rfl rfl) ?_
  refine WL_val rfl rfl rfl (R_nilCheck rfl rfl) ?_
  refine WL_val rfl rfl rfl (R_fieldAddr rfl fa169_0 rfl) ?_
  refine WL_val rfl rfl rfl (R_load rfl sc167 rfl (mmZ) rfl) ?_
  refine WL_val rfl rfl rfl (R_len rfl Tryz.underlying167 rfl) ?_
  refine WL_val rfl rfl rfl (R_move rfl rfl) ?_
  refine WL_nil ?_
  refine WQ_code ?_
  refine WC_block ?_
  refine WC_loopF (G := Nat) [5, 6, 7, 16, 17, 18, 19, 20, 21, 22, 23, 24, 25, 26, 27, 28, 29, 30, 31, 32, 33, 34, 35, 36, 37, 38, 39, 40, 41, 42, 43, 44, 45, 46] (fun k => k ≤ i) (fun k => [(16, .int .i64 (k : Int))]) (fun k => []) (fun k => i - k) (0) (Nat.zero_le _) leZ (pqZ) ?_
  rintro k hk
  refine WC_seq ?_
  refine WC_region ?_
  refine WL_val rfl rfl rfl (R_lss rfl rfl rfl) ?_
  refine WL_nil ?_
  refine WQ_code ?_
  refine WC_seq ?_
  refine WC_dT rfl (by omega) ?_
  refine WC_skip ?_
  refine WQ_code ?_
  refine WC_seq ?_
  refine WC_block ?_
  refine WC_seq ?_
  refine WC_region ?_
  refine WL_val rfl rfl rfl (R_move rfl rfl) ?_
  refine WL_val rfl rfl rfl (R_assign rfl rfl) ?_
  refine WL_nil ?_
  refine WQ_code ?_
  refine WC_seq ?_
  refine WC_region ?_
  refine WL_val rfl rfl rfl (R_move rfl rfl) ?_
  refine WL_val rfl rfl rfl (R_nilCheck rfl rfl) ?_
  refine WL_val rfl rfl rfl (R_fieldAddr rfl fa169_0 rfl) ?_
  refine WL_val rfl rfl rfl (R_load rfl sc167 rfl (mmZ) rfl) ?_
  refine WL_val rfl rfl rfl (R_move rfl rfl) ?_
  obtain ⟨y, hy⟩ := ex_of (T := T) (i := k) (by omega)
  refine WL_val rfl rfl rfl (R_indexAddrN rfl Tryz.underlying167 Tryz.sizeOf172 rfl rfl (by omega)) ?_
  refine WL_val rfl rfl rfl (R_assign rfl rfl) ?_
  refine WL_nil ?_
  refine WQ_code ?_
  refine WC_seq ?_
  refine WC_region ?_
  refine WL_val rfl rfl rfl (R_move rfl rfl) ?_
  refine WL_val rfl rfl rfl (R_nilCheck rfl rfl) ?_
  refine WL_val rfl rfl rfl (R_fieldAddr rfl fa172_2 rfl) ?_
  refine WL_val rfl rfl rfl (R_load rfl sc4 rfl (mmZ) (fm_get0 encP3 hy (by omega))) ?_
  refine WL_val rfl rfl rfl (R_not rfl rfl) ?_
  refine WL_nil ?_
  refine WQ_code ?_
  refine WC_if rfl (fun c1 => ?_) (fun c1 => ?_)
  · have hki : k = i := by
      by_cases e : k < i
      · have := hl k y e hy; simp_all
      · omega
    subst hki
    refine WC_seq ?_
    refine WC_region ?_
    refine WL_val rfl rfl rfl (R_move rfl rfl) ?_
    refine WL_val rfl rfl rfl (R_move rfl rfl) ?_
    refine WL_val rfl rfl rfl (R_nilCheck rfl rfl) ?_
    refine WL_val rfl rfl rfl (R_fieldAddr rfl fa172_0 rfl) ?_
    refine WL_val rfl rfl rfl (R_load rfl sc3 rfl (mmZ) (fm_get0 encP3 hx (by omega))) ?_
    refine WL_val rfl rfl rfl (R_add rfl rfl rfl (by omega)) ?_
    refine WL_val rfl rfl rfl (R_move rfl rfl) ?_
    refine WL_val rfl rfl rfl (R_build rfl zv172 pl172 rfl rfl) ?_
    refine WL_val rfl rfl rfl (R_nilCheck rfl rfl) ?_
    refine WL_do0 rfl rfl (D_store (vs := [_, _, _]) rfl Tryz.sizeOf172 rfl rfl rfl rfl rfl (plZ) (by exact fm_room0 encP3 hlt (j := 0) (by omega))) ?_
    rintro _ _ rfl
    have hset : (T.set k ⟨x.given + 1, v, true⟩)[k]? = some ⟨x.given + 1, v, true⟩ := by simp [hlt]
    have hputs := fm_put0 encP3 (⟨x.given + 1, v, true⟩ : Pl) hx (j := 0) (vs := [.int .i64 (x.given + 1), .int .i64 v, .bool true]) (by simp) rfl (tl := tl)
    simp only [Nat.add_zero] at hputs
    rw [hputs]
    refine WL_nil ?_
    refine WQ_code ?_
    refine WC_seq ?_
    refine WC_region ?_
    refine WL_val rfl rfl rfl (R_move rfl rfl) ?_
    refine WL_val rfl rfl rfl (R_move rfl rfl) ?_
    refine WL_val rfl rfl rfl (R_nilCheck rfl rfl) ?_
    refine WL_val rfl rfl rfl (R_fieldAddr rfl fa172_0 rfl) ?_
    refine WL_val rfl rfl rfl (R_load (v := .int .i64 (x.given + 1)) rfl sc3 rfl (mmZ) (fm_get0 encP3 hset (by omega))) ?_
    refine WL_val rfl rfl rfl (R_sub rfl rfl rfl (by omega)) ?_
    refine WL_val rfl rfl rfl (R_build rfl zv30 pl30 rfl rfl) ?_
    refine WL_do0 rfl rfl (D_store (vs := [_, _]) rfl Tryz.sizeOf30 rfl rfl rfl rfl rfl (plZ) (by exact Nat.le_of_ble_eq_true rfl)) ?_
    rintro _ _ rfl
    refine WL_val rfl rfl rfl (R_assign rfl rfl) ?_
    refine WL_nil ?_
    refine WQ_code ?_
    refine WC_ret ?_
    refine WQ_ret rfl rfl (.cons (.cell (vs := [_, _]) rfl ag30 (mmZ) rfl (atZ)) (.cons (.tmp rfl) .nil)) rfl (by
        refine ⟨?_, ?_⟩
        · show Value.tuple #[fdV _ _, _] = _
          rw [show x.given + 1 - 1 = x.given from by omega]
        · simp only [tabH, List.length_set]
          rfl) (pqZ)
  · refine WC_skip ?_
    refine WQ_code ?_
    refine WC_region ?_
    refine WL_val rfl rfl rfl (R_add rfl rfl rfl (by omega)) ?_
    refine WL_val rfl rfl rfl (R_move rfl rfl) ?_
    refine WL_nil ?_
    have hki : k ≠ i := by intro e; subst e; rw [hx] at hy; cases hy; simp_all
    refine WQ_nextF (k + 1) (by omega) (by omega) leZ (psZ) rfl (pqZ)
theorem open_full (p pb c : Nat) (tl : List Value) (T : List Pl) (hT : Fine T) (v : Int) (hl : ∀ (j : Nat) (y : Pl), T[j]? = some y → y.opn = true) : Spec Tryz.prog 42 [ptr p, .int .i64 v] (tabH p pb c tl T)
    (fun r H' => r = .tuple #[fdV 0 0, .int .i64 7] ∧ H' = tabH p pb c tl T) := by
  have hlen := hT.len
  refine Spec.of (E := [(0, ptr p), (1, .int .i64 v)]) Tryz.func42 rfl (by kernel_rfl) Tryz.ntmps42 rfl rfl (fun w => ?_)
  refine WC_seq ?_
  refine WC_region ?_
  refine WL_do rfl rfl rfl (D_alloc rfl zv30) ?_
  rintro _ _ ⟨b1, rfl, rfl⟩
  refine WL_val rfl rfl rfl (R_assign rfl rfl) ?_
  refine WL_nil ?_
  refine WQ_code ?_
  refine WC_seq ?_
  refine WC_seq ?_
  refine WC_region ?_
  refine WL_val rfl rfl rfl (R_move rfl rfl) ?_
  refine WL_do rfl rfl rfl (D_call (zero_some p pb c tl T hT.ne) rfl rfl rfl rfl (pqZ)) ?_
  rintro _ _ ⟨_, ⟨rfl, rfl⟩, rfl⟩
  refine WL_nil ?_
  refine WQ_code ?_
  refine WC_F rfl ?_
  refine WC_skip ?_
  refine WQ_code ?_
  refine WC_seq ?_
  refine WC_seq ?_
  refine WC_region ?_
  refine WL_val rfl rfl rfl (R_move rfl rfl) ?_
  refine WL_val rfl rfl rfl (R_nilCheck rfl rfl) ?_
  refine WL_val rfl rfl rfl (R_fieldAddr rfl fa169_0 rfl) ?_
  refine WL_val rfl rfl rfl (R_load rfl sc167 rfl (mmZ) rfl) ?_
  refine WL_val rfl rfl rfl (R_len rfl Tryz.underlying167 rfl) ?_
  refine WL_val rfl rfl rfl (R_move rfl rfl) ?_
  refine WL_nil ?_
  refine WQ_code ?_
  refine WC_block ?_
  refine WC_loopF (G := Nat) [5, 6, 7, 16, 17, 18, 19, 20, 21, 22, 23, 24, 25, 26, 27, 28, 29, 30, 31, 32, 33, 34, 35, 36, 37, 38, 39, 40, 41, 42, 43, 44, 45, 46] (fun k => k ≤ T.length) (fun k => [(16, .int .i64 (k : Int))]) (fun k => []) (fun k => T.length - k) (0) (Nat.zero_le _) leZ (pqZ) ?_
  rintro k hk
  refine WC_seq ?_
  refine WC_region ?_
  refine WL_val rfl rfl rfl (R_lss rfl rfl rfl) ?_
  refine WL_nil ?_
  refine WQ_code ?_
  refine WC_seq ?_
  refine WC_dec rfl (fun c1 => ?_) (fun c1 => ?_)
  · refine WC_skip ?_
    refine WQ_code ?_
    refine WC_seq ?_
    refine WC_block ?_
    refine WC_seq ?_
    refine WC_region ?_
    refine WL_val rfl rfl rfl (R_move rfl rfl) ?_
    refine WL_val rfl rfl rfl (R_assign rfl rfl) ?_
    refine WL_nil ?_
    refine WQ_code ?_
    refine WC_seq ?_
    refine WC_region ?_
    refine WL_val rfl rfl rfl (R_move rfl rfl) ?_
    refine WL_val rfl rfl rfl (R_nilCheck rfl rfl) ?_
    refine WL_val rfl rfl rfl (R_fieldAddr rfl fa169_0 rfl) ?_
    refine WL_val rfl rfl rfl (R_load rfl sc167 rfl (mmZ) rfl) ?_
    refine WL_val rfl rfl rfl (R_move rfl rfl) ?_
    obtain ⟨y, hy⟩ := ex_of (T := T) (i := k) (by omega)
    have hyo := hl k y hy
    refine WL_val rfl rfl rfl (R_indexAddrN rfl Tryz.underlying167 Tryz.sizeOf172 rfl rfl (by omega)) ?_
    refine WL_val rfl rfl rfl (R_assign rfl rfl) ?_
    refine WL_nil ?_
    refine WQ_code ?_
    refine WC_seq ?_
    refine WC_region ?_
    refine WL_val rfl rfl rfl (R_move rfl rfl) ?_
    refine WL_val rfl rfl rfl (R_nilCheck rfl rfl) ?_
    refine WL_val rfl rfl rfl (R_fieldAddr rfl fa172_2 rfl) ?_
    refine WL_val rfl rfl rfl (R_load rfl sc4 rfl (mmZ) (fm_get0 encP3 hy (by omega))) ?_
    refine WL_val rfl rfl rfl (R_not rfl rfl) ?_
    refine WL_nil ?_
    refine WQ_code ?_
    refine WC_if rfl (fun c2 => ?_) (fun c2 => ?_)
    · simp_all
    · refine WC_skip ?_
      refine WQ_code ?_
      refine WC_region ?_
      refine WL_val rfl rfl rfl (R_add rfl rfl rfl (by omega)) ?_
      refine WL_val rfl rfl rfl (R_move rfl rfl) ?_
      refine WL_nil ?_
      refine WQ_nextF (k + 1) (by omega) (by omega) leZ (psZ) rfl (pqZ)
  · refine WC_exit ?_
    refine WQ_code ?_
    refine WC_seq ?_
    refine WC_region ?_
    refine WL_val rfl rfl rfl (R_build rfl zv30 pl30 rfl rfl) ?_
    refine WL_do0 rfl rfl (D_store (vs := [_, _]) rfl Tryz.sizeOf30 rfl rfl rfl rfl rfl (plZ) (by exact Nat.le_of_ble_eq_true rfl)) ?_
    rintro _ _ rfl
    refine WL_val rfl rfl rfl (R_assign rfl rfl) ?_
    refine WL_nil ?_
    refine WQ_code ?_
    refine WC_ret ?_
    refine WQ_ret rfl rfl (.cons (.cell (vs := [_, _]) rfl ag30 (mmZ) rfl (atZ)) (.cons (.tmp rfl) .nil)) rfl (by
        exact ⟨rfl, rfl⟩) (pqZ)
end Go.Proofs.YtbkdebnkoidicaaGreat.Slt
end
section
set_option linter.unusedVariables false
set_option maxRecDepth 20000
namespace Go.Proofs.YtbkdebnkoidicaaGreat.Slt
theorem set_put {T : List Pl} {i : Nat} {x : Pl} (y : Pl) (hx : T[i]? = some x) {j : Nat} {vs : List Value} (hj : j + vs.length ≤ 3) (hy : putAt (encP x) j vs = encP y) {tl : List Value} :
    putAt (T.flatMap encP ++ tl) (0 + i * 3 + j) vs = (T.set i y).flatMap encP ++ tl := fm_put0 encP3 y hx hj hy
theorem set_get {T : List Pl} {i : Nat} {x : Pl} (y : Pl) (hx : T[i]? = some x) : (T.set i y)[i]? = some y := by simp [lt_of hx]
theorem close_yes (p pb c : Nat) (tl : List Value) (T : List Pl) (hT : Fine T) (n gg : Int)  (i : Nat) (x : Pl) (h : OpenAt T n gg i x) : Spec Tryz.prog 43 [ptr p, fdV n gg] (tabH p pb c tl T)
    (fun r H' => r = .tuple #[.int .i64 x.value, .int .i64 0] ∧ H' = tabH p pb c tl (T.set i { x with opn := false })) := by
  have hx := h.2.1
  have hlt := lt_of hx
  refine Spec.of (E := [(0, ptr p), (1, fdV n gg)]) Tryz.func43 rfl (by kernel_rfl) Tryz.ntmps43 rfl rfl (fun w => ?_)
  refine WC_seq ?_
  refine WC_region ?_
  refine WL_do rfl rfl rfl (D_box (cs := [_, _]) rfl rfl rfl) ?_
  rintro _ _ ⟨b1, rfl, rfl⟩
  refine WL_val rfl rfl rfl (R_assign rfl rfl) ?_
  refine WL_val rfl rfl rfl (R_assign rfl rfl) ?_
  refine WL_nil ?_
  refine WQ_code ?_
  refine WC_seq ?_
  refine WC_region ?_
  refine WL_val rfl rfl rfl (R_move rfl rfl) ?_
  refine WL_val rfl rfl rfl (R_loadA (vs := [_, _]) rfl ag30 rfl (mmZ) rfl (atZ)) ?_
  refine WL_do rfl rfl rfl (D_call (find_yes p pb c tl T hT n gg i x h) rfl rfl rfl rfl (pqZ)) ?_
  rintro _ _ ⟨_, ⟨rfl, rfl⟩, rfl⟩
  refine WL_val rfl rfl rfl (R_move rfl rfl) ?_
  refine WL_val rfl rfl rfl (R_extract rfl rfl rfl) ?_
  refine WL_val rfl rfl rfl (R_extract rfl rfl rfl) ?_
  refine WL_val rfl rfl rfl (R_assign rfl rfl) ?_
  refine WL_val rfl rfl rfl (R_assign rfl rfl) ?_
  refine WL_nil ?_
  refine WQ_code ?_
  refine WC_seq ?_
  refine WC_seq ?_
  refine WC_region ?_
  refine WL_val rfl rfl rfl (R_move rfl rfl) ?_
  refine WL_val rfl rfl rfl (R_neq rfl rfl rfl) ?_
  refine WL_nil ?_
  refine WQ_code ?_
  refine WC_dF rfl (by simp) ?_
  refine WC_skip ?_
  refine WQ_code ?_
  refine WC_seq ?_
  refine WC_region ?_
  refine WL_val rfl rfl rfl (R_move rfl rfl) ?_
  refine WL_val rfl rfl rfl (R_nilCheck rfl rfl) ?_
  refine WL_val rfl rfl rfl (R_fieldAddr rfl fa172_2 rfl) ?_
  refine WL_do0 rfl rfl (D_store (vs := [_]) rfl Tryz.sizeOf4 rfl rfl rfl rfl rfl (plZ) (by exact fm_room0 encP3 hlt (j := 2) (by omega))) ?_
  rintro _ _ rfl
  rw [set_put { x with opn := false } hx (j := 2) (vs := [.bool false]) (by simp) rfl]
  refine WL_nil ?_
  refine WQ_code ?_
  refine WC_seq ?_
  refine WC_region ?_
  refine WL_val rfl rfl rfl (R_move rfl rfl) ?_
  refine WL_val rfl rfl rfl (R_nilCheck rfl rfl) ?_
  refine WL_val rfl rfl rfl (R_fieldAddr rfl fa172_1 rfl) ?_
  refine WL_val rfl rfl rfl (R_load (v := .int .i64 x.value) rfl sc3 rfl (mmZ) (fm_get0 encP3 (set_get { x with opn := false } hx) (by omega))) ?_
  refine WL_val rfl rfl rfl (R_assign rfl rfl) ?_
  refine WL_val rfl rfl rfl (R_assign rfl rfl) ?_
  refine WL_nil ?_
  refine WQ_code ?_
  refine WC_ret ?_
  refine WQ_ret rfl rfl (.cons (.tmp rfl) (.cons (.tmp rfl) .nil)) rfl (by
      refine ⟨rfl, ?_⟩
      simp only [tabH, List.length_set]
      rfl) (pqZ)
theorem close_no (p pb c : Nat) (tl : List Value) (T : List Pl) (hT : Fine T) (n gg : Int)  (h : NoneAt T n gg) : Spec Tryz.prog 43 [ptr p, fdV n gg] (tabH p pb c tl T) (fun r H' => r = .tuple #[.int .i64 0, .int .i64 9] ∧ H' = tabH p pb c tl T) := by
  refine Spec.of (E := [(0, ptr p), (1, fdV n gg)]) Tryz.func43 rfl (by kernel_rfl) Tryz.ntmps43 rfl rfl (fun w => ?_)
  refine WC_seq ?_
  refine WC_region ?_
  refine WL_do rfl rfl rfl (D_box (cs := [_, _]) rfl rfl rfl) ?_
  rintro _ _ ⟨b1, rfl, rfl⟩
  refine WL_val rfl rfl rfl (R_assign rfl rfl) ?_
  refine WL_val rfl rfl rfl (R_assign rfl rfl) ?_
  refine WL_nil ?_
  refine WQ_code ?_
  refine WC_seq ?_
  refine WC_region ?_
  refine WL_val rfl rfl rfl (R_move rfl rfl) ?_
  refine WL_val rfl rfl rfl (R_loadA (vs := [_, _]) rfl ag30 rfl (mmZ) rfl (atZ)) ?_
  refine WL_do rfl rfl rfl (D_call (find_no p pb c tl T hT n gg h) rfl rfl rfl rfl (pqZ)) ?_
  rintro _ _ ⟨_, ⟨rfl, rfl⟩, rfl⟩
  refine WL_val rfl rfl rfl (R_move rfl rfl) ?_
  refine WL_val rfl rfl rfl (R_extract rfl rfl rfl) ?_
  refine WL_val rfl rfl rfl (R_extract rfl rfl rfl) ?_
  refine WL_val rfl rfl rfl (R_assign rfl rfl) ?_
  refine WL_val rfl rfl rfl (R_assign rfl rfl) ?_
  refine WL_nil ?_
  refine WQ_code ?_
  refine WC_seq ?_
  refine WC_seq ?_
  refine WC_region ?_
  refine WL_val rfl rfl rfl (R_move rfl rfl) ?_
  refine WL_val rfl rfl rfl (R_neq rfl rfl rfl) ?_
  refine WL_nil ?_
  refine WQ_code ?_
  refine WC_dT rfl (by simp) ?_
  refine WC_seq ?_
  refine WC_region ?_
  refine WL_val rfl rfl rfl (R_move rfl rfl) ?_
  refine WL_val rfl rfl rfl (R_assign rfl rfl) ?_
  refine WL_val rfl rfl rfl (R_assign rfl rfl) ?_
  refine WL_nil ?_
  refine WQ_code ?_
  refine WC_ret ?_
  refine WQ_ret rfl rfl (.cons (.tmp rfl) (.cons (.tmp rfl) .nil)) rfl (by
      exact ⟨rfl, rfl⟩) (pqZ)
theorem get_yes (p pb c : Nat) (tl : List Value) (T : List Pl) (hT : Fine T) (n gg : Int)  (i : Nat) (x : Pl) (h : OpenAt T n gg i x) : Spec Tryz.prog 77 [ptr p, fdV n gg] (tabH p pb c tl T)
    (fun r H' => r = .tuple #[.int .i64 x.value, .int .i64 0] ∧ H' = tabH p pb c tl T) := by
  have hx := h.2.1
  have hlt := lt_of hx
  refine Spec.of (E := [(0, ptr p), (1, fdV n gg)]) Tryz.func77 rfl (by kernel_rfl) Tryz.ntmps77 rfl rfl (fun w => ?_)
  refine WC_seq ?_
  refine WC_region ?_
  refine WL_do rfl rfl rfl (D_box (cs := [_, _]) rfl rfl rfl) ?_
  rintro _ _ ⟨b1, rfl, rfl⟩
  refine WL_val rfl rfl rfl (R_assign rfl rfl) ?_
  refine WL_val rfl rfl rfl (R_assign rfl rfl) ?_
  refine WL_nil ?_
  refine WQ_code ?_
  refine WC_seq ?_
  refine WC_region ?_
  refine WL_val rfl rfl rfl (R_move rfl rfl) ?_
  refine WL_val rfl rfl rfl (R_loadA (vs := [_, _]) rfl ag30 rfl (mmZ) rfl (atZ)) ?_
  refine WL_do rfl rfl rfl (D_call (find_yes p pb c tl T hT n gg i x h) rfl rfl rfl rfl (pqZ)) ?_
  rintro _ _ ⟨_, ⟨rfl, rfl⟩, rfl⟩
  refine WL_val rfl rfl rfl (R_move rfl rfl) ?_
  refine WL_val rfl rfl rfl (R_extract rfl rfl rfl) ?_
  refine WL_val rfl rfl rfl (R_extract rfl rfl rfl) ?_
  refine WL_val rfl rfl rfl (R_assign rfl rfl) ?_
  refine WL_val rfl rfl rfl (R_assign rfl rfl) ?_
  refine WL_nil ?_
  refine WQ_code ?_
  refine WC_seq ?_
  refine WC_seq ?_
  refine WC_region ?_
  refine WL_val rfl rfl rfl (R_move rfl rfl) ?_
  refine WL_val rfl rfl rfl (R_neq rfl rfl rfl) ?_
  refine WL_nil ?_
  refine WQ_code ?_
  refine WC_dF rfl (by simp) ?_
  refine WC_skip ?_
  refine WQ_code ?_
  refine WC_seq ?_
  refine WC_region ?_
  refine WL_val rfl rfl rfl (R_move rfl rfl) ?_
  refine WL_val rfl rfl rfl (R_nilCheck rfl rfl) ?_
  refine WL_val rfl rfl rfl (R_fieldAddr rfl fa172_1 rfl) ?_
  refine WL_val rfl rfl rfl (R_load rfl sc3 rfl (mmZ) (fm_get0 encP3 hx (by omega))) ?_
  refine WL_val rfl rfl rfl (R_assign rfl rfl) ?_
  refine WL_val rfl rfl rfl (R_assign rfl rfl) ?_
  refine WL_nil ?_
  refine WQ_code ?_
  refine WC_ret ?_
  refine WQ_ret rfl rfl (.cons (.tmp rfl) (.cons (.tmp rfl) .nil)) rfl (by
      exact ⟨rfl, rfl⟩) (pqZ)
theorem get_no (p pb c : Nat) (tl : List Value) (T : List Pl) (hT : Fine T) (n gg : Int)  (h : NoneAt T n gg) : Spec Tryz.prog 77 [ptr p, fdV n gg] (tabH p pb c tl T) (fun r H' => r = .tuple #[.int .i64 0, .int .i64 9] ∧ H' = tabH p pb c tl T) := by
  refine Spec.of (E := [(0, ptr p), (1, fdV n gg)]) Tryz.func77 rfl (by kernel_rfl) Tryz.ntmps77 rfl rfl (fun w => ?_)
  refine WC_seq ?_
  refine WC_region ?_
  refine WL_do rfl rfl rfl (D_box (cs := [_, _]) rfl rfl rfl) ?_
  rintro _ _ ⟨b1, rfl, rfl⟩
  refine WL_val rfl rfl rfl (R_assign rfl rfl) ?_
  refine WL_val rfl rfl rfl (R_assign rfl rfl) ?_
  refine WL_nil ?_
  refine WQ_code ?_
  refine WC_seq ?_
  refine WC_region ?_
  refine WL_val rfl rfl rfl (R_move rfl rfl) ?_
  refine WL_val rfl rfl rfl (R_loadA (vs := [_, _]) rfl ag30 rfl (mmZ) rfl (atZ)) ?_
  refine WL_do rfl rfl rfl (D_call (find_no p pb c tl T hT n gg h) rfl rfl rfl rfl (pqZ)) ?_
  rintro _ _ ⟨_, ⟨rfl, rfl⟩, rfl⟩
  refine WL_val rfl rfl rfl (R_move rfl rfl) ?_
  refine WL_val rfl rfl rfl (R_extract rfl rfl rfl) ?_
  refine WL_val rfl rfl rfl (R_extract rfl rfl rfl) ?_
  refine WL_val rfl rfl rfl (R_assign rfl rfl) ?_
  refine WL_val rfl rfl rfl (R_assign rfl rfl) ?_
  refine WL_nil ?_
  refine WQ_code ?_
  refine WC_seq ?_
  refine WC_seq ?_
  refine WC_region ?_
  refine WL_val rfl rfl rfl (R_move rfl rfl) ?_
  refine WL_val rfl rfl rfl (R_neq rfl rfl rfl) ?_
  refine WL_nil ?_
  refine WQ_code ?_
  refine WC_dT rfl (by simp) ?_
  refine WC_seq ?_
  refine WC_region ?_
  refine WL_val rfl rfl rfl (R_move rfl rfl) ?_
  refine WL_val rfl rfl rfl (R_assign rfl rfl) ?_
  refine WL_val rfl rfl rfl (R_assign rfl rfl) ?_
  refine WL_nil ?_
  refine WQ_code ?_
  refine WC_ret ?_
  refine WQ_ret rfl rfl (.cons (.tmp rfl) (.cons (.tmp rfl) .nil)) rfl (by
      exact ⟨rfl, rfl⟩) (pqZ)
theorem at_yes (p pb c : Nat) (tl : List Value) (T : List Pl) (hT : Fine T) (i : Nat) (x : Pl) (hx : T[i]? = some x) (ho : x.opn = true) : Spec Tryz.prog 53 [ptr p, .int .i64 (i : Int)] (tabH p pb c tl T)
    (fun r H' => r = .tuple #[fdV i (x.given - 1), .int .i64 0] ∧ H' = tabH p pb c tl T) := by
  have hlt := lt_of hx
  have hb := hT.bd hx
  refine Spec.of (E := [(0, ptr p), (1, .int .i64 (i : Int))]) Tryz.func53 rfl (by kernel_rfl) Tryz.ntmps53 rfl rfl (fun w => ?_)
  refine WC_seq ?_
  refine WC_region ?_
  refine WL_do rfl rfl rfl (D_alloc rfl zv30) ?_
  rintro _ _ ⟨b1, rfl, rfl⟩
  refine WL_val rfl rfl rfl (R_assign rfl rfl) ?_
  refine WL_nil ?_
  refine WQ_code ?_
  refine WC_seq ?_
  refine WC_block ?_
  refine WC_seq ?_
  refine WC_region ?_
  refine WL_val rfl rfl rfl (R_move rfl rfl) ?_
  refine WL_do rfl rfl rfl (D_call (zero_some p pb c tl T hT.ne) rfl rfl rfl rfl (pqZ)) ?_
  rintro _ _ ⟨_, ⟨rfl, rfl⟩, rfl⟩
  refine WL_val rfl rfl rfl (R_assign rfl rfl) ?_
  refine WL_nil ?_
  refine WQ_code ?_
  refine WC_F rfl ?_
  refine WC_seq ?_
  refine WC_region ?_
  refine WL_val rfl rfl rfl (R_move rfl rfl) ?_
  refine WL_val rfl rfl rfl (R_lss rfl rfl rfl) ?_
  refine WL_val rfl rfl rfl (R_move rfl rfl) ?_
  refine WL_set (s := 13) (v := .bool false) rfl (by simp) ?_
  refine WL_val rfl rfl rfl (R_move rfl rfl) ?_
  refine WL_val rfl rfl rfl (R_move rfl rfl) ?_
  refine WL_val rfl rfl rfl (R_nilCheck rfl rfl) ?_
  refine WL_val rfl rfl rfl (R_fieldAddr rfl fa169_0 rfl) ?_
  refine WL_val rfl rfl rfl (R_load rfl sc167 rfl (mmZ) rfl) ?_
  refine WL_val rfl rfl rfl (R_len rfl Tryz.underlying167 rfl) ?_
  refine WL_val rfl rfl rfl (R_geq rfl rfl rfl) ?_
  refine WL_val rfl rfl rfl (R_pickF rfl rfl rfl) ?_
  refine WL_val rfl rfl rfl (R_move rfl rfl) ?_
  refine WL_set (s := 22) (v := .bool false) rfl (by simp; omega) ?_
  refine WL_val rfl rfl rfl (R_move rfl rfl) ?_
  refine WL_val rfl rfl rfl (R_nilCheck rfl rfl) ?_
  refine WL_val rfl rfl rfl (R_fieldAddr rfl fa169_0 rfl) ?_
  refine WL_val rfl rfl rfl (R_load rfl sc167 rfl (mmZ) rfl) ?_
  refine WL_val rfl rfl rfl (R_move rfl rfl) ?_
  refine WL_val rfl rfl rfl (R_indexAddrN rfl Tryz.underlying167 Tryz.sizeOf172 rfl rfl (by exact hlt)) ?_
  refine WL_val rfl rfl rfl (R_fieldAddr rfl fa172_2 rfl) ?_
  refine WL_val rfl rfl rfl (R_load rfl sc4 rfl (mmZ) (fm_get0 encP3 hx (by omega))) ?_
  refine WL_val rfl rfl rfl (R_not rfl rfl) ?_
  rw [ho]
  refine WL_val rfl rfl rfl (R_pickF rfl rfl rfl) ?_
  refine WL_val rfl rfl rfl (R_assign rfl rfl) ?_
  refine WL_nil ?_
  refine WQ_code ?_
  refine WC_F rfl ?_
  refine WC_skip ?_
  refine WQ_code ?_
  refine WC_seq ?_
  refine WC_region ?_
  refine WL_val rfl rfl rfl (R_move rfl rfl) ?_
  refine WL_val rfl rfl rfl (R_move rfl rfl) ?_
  refine WL_val rfl rfl rfl (R_nilCheck rfl rfl) ?_
  refine WL_val rfl rfl rfl (R_fieldAddr rfl fa169_0 rfl) ?_
  refine WL_val rfl rfl rfl (R_load rfl sc167 rfl (mmZ) rfl) ?_
  refine WL_val rfl rfl rfl (R_move rfl rfl) ?_
  refine WL_val rfl rfl rfl (R_indexAddrN rfl Tryz.underlying167 Tryz.sizeOf172 rfl rfl (by exact hlt)) ?_
  refine WL_val rfl rfl rfl (R_fieldAddr rfl fa172_0 rfl) ?_
  refine WL_val rfl rfl rfl (R_load rfl sc3 rfl (mmZ) (fm_get0 encP3 hx (by omega))) ?_
  refine WL_val rfl rfl rfl (R_sub rfl rfl rfl (by omega)) ?_
  refine WL_val rfl rfl rfl (R_build rfl zv30 pl30 rfl rfl) ?_
  refine WL_do0 rfl rfl (D_store (vs := [_, _]) rfl Tryz.sizeOf30 rfl rfl rfl rfl rfl (plZ) (by exact Nat.le_of_ble_eq_true rfl)) ?_
  rintro _ _ rfl
  refine WL_val rfl rfl rfl (R_assign rfl rfl) ?_
  refine WL_nil ?_
  refine WQ_code ?_
  refine WC_ret ?_
  refine WQ_ret rfl rfl (.cons (.cell (vs := [_, _]) rfl ag30 (mmZ) rfl (atZ)) (.cons (.tmp rfl) .nil)) rfl (by
      exact ⟨rfl, rfl⟩) (pqZ)
theorem at_no (p pb c : Nat) (tl : List Value) (T : List Pl) (hT : Fine T) (n : Int) (h : ∀ (i : Nat) (x : Pl), n = (i : Int) → T[i]? = some x → x.opn = false) : Spec Tryz.prog 53 [ptr p, .int .i64 n] (tabH p pb c tl T)
    (fun r H' => r = .tuple #[fdV 0 0, .int .i64 9] ∧ H' = tabH p pb c tl T) := by
  refine Spec.of (E := [(0, ptr p), (1, .int .i64 n)]) Tryz.func53 rfl (by kernel_rfl) Tryz.ntmps53 rfl rfl (fun w => ?_)
  refine WC_seq ?_
  refine WC_region ?_
  refine WL_do rfl rfl rfl (D_alloc rfl zv30) ?_
  rintro _ _ ⟨b1, rfl, rfl⟩
  refine WL_val rfl rfl rfl (R_assign rfl rfl) ?_
  refine WL_nil ?_
  refine WQ_code ?_
  refine WC_seq ?_
  refine WC_block ?_
  refine WC_seq ?_
  refine WC_region ?_
  refine WL_val rfl rfl rfl (R_move rfl rfl) ?_
  refine WL_do rfl rfl rfl (D_call (zero_some p pb c tl T hT.ne) rfl rfl rfl rfl (pqZ)) ?_
  rintro _ _ ⟨_, ⟨rfl, rfl⟩, rfl⟩
  refine WL_val rfl rfl rfl (R_assign rfl rfl) ?_
  refine WL_nil ?_
  refine WQ_code ?_
  refine WC_F rfl ?_
  refine WC_seq ?_
  refine WC_region ?_
  refine WL_val rfl rfl rfl (R_move rfl rfl) ?_
  refine WL_val rfl rfl rfl (R_lss rfl rfl rfl) ?_
  refine WL_val rfl rfl rfl (R_move rfl rfl) ?_
  refine WL_splitD (s := 13) rfl (fun c1 => ?_) (fun c1 => ?_)
  · refine WL_skip rfl rfl rfl ?_
    refine WL_skip rfl rfl rfl ?_
    refine WL_skip rfl rfl rfl ?_
    refine WL_skip rfl rfl rfl ?_
    refine WL_skip rfl rfl rfl ?_
    refine WL_skip rfl rfl rfl ?_
    refine WL_skip rfl rfl rfl ?_
    refine WL_val rfl rfl rfl (R_pickT rfl rfl rfl) ?_
    refine WL_val rfl rfl rfl (R_move rfl rfl) ?_
    refine WL_skip rfl rfl rfl ?_
    refine WL_skip rfl rfl rfl ?_
    refine WL_skip rfl rfl rfl ?_
    refine WL_skip rfl rfl rfl ?_
    refine WL_skip rfl rfl rfl ?_
    refine WL_skip rfl rfl rfl ?_
    refine WL_skip rfl rfl rfl ?_
    refine WL_skip rfl rfl rfl ?_
    refine WL_skip rfl rfl rfl ?_
    refine WL_val rfl rfl rfl (R_pickT rfl rfl rfl) ?_
    refine WL_val rfl rfl rfl (R_assign rfl rfl) ?_
    refine WL_nil ?_
    refine WQ_code ?_
    refine WC_T rfl ?_
    refine WC_seq ?_
    refine WC_region ?_
    refine WL_val rfl rfl rfl (R_build rfl zv30 pl30 rfl rfl) ?_
    refine WL_do0 rfl rfl (D_store (vs := [_, _]) rfl Tryz.sizeOf30 rfl rfl rfl rfl rfl (plZ) (by exact Nat.le_of_ble_eq_true rfl)) ?_
    rintro _ _ rfl
    refine WL_val rfl rfl rfl (R_assign rfl rfl) ?_
    refine WL_nil ?_
    refine WQ_code ?_
    refine WC_ret ?_
    refine WQ_ret rfl rfl (.cons (.cell (vs := [_, _]) rfl ag30 (mmZ) rfl (atZ)) (.cons (.tmp rfl) .nil)) rfl (by
        exact ⟨rfl, rfl⟩) (pqZ)
  · refine WL_val rfl rfl rfl (R_move rfl rfl) ?_
    refine WL_val rfl rfl rfl (R_move rfl rfl) ?_
    refine WL_val rfl rfl rfl (R_nilCheck rfl rfl) ?_
    refine WL_val rfl rfl rfl (R_fieldAddr rfl fa169_0 rfl) ?_
    refine WL_val rfl rfl rfl (R_load rfl sc167 rfl (mmZ) rfl) ?_
    refine WL_val rfl rfl rfl (R_len rfl Tryz.underlying167 rfl) ?_
    refine WL_val rfl rfl rfl (R_geq rfl rfl rfl) ?_
    refine WL_val rfl rfl rfl (R_pickF rfl rfl rfl) ?_
    refine WL_val rfl rfl rfl (R_move rfl rfl) ?_
    refine WL_splitD (s := 22) rfl (fun c2 => ?_) (fun c2 => ?_)
    · refine WL_skip rfl rfl rfl ?_
      refine WL_skip rfl rfl rfl ?_
      refine WL_skip rfl rfl rfl ?_
      refine WL_skip rfl rfl rfl ?_
      refine WL_skip rfl rfl rfl ?_
      refine WL_skip rfl rfl rfl ?_
      refine WL_skip rfl rfl rfl ?_
      refine WL_skip rfl rfl rfl ?_
      refine WL_skip rfl rfl rfl ?_
      refine WL_val rfl rfl rfl (R_pickT rfl rfl rfl) ?_
      refine WL_val rfl rfl rfl (R_assign rfl rfl) ?_
      refine WL_nil ?_
      refine WQ_code ?_
      refine WC_T rfl ?_
      refine WC_seq ?_
      refine WC_region ?_
      refine WL_val rfl rfl rfl (R_build rfl zv30 pl30 rfl rfl) ?_
      refine WL_do0 rfl rfl (D_store (vs := [_, _]) rfl Tryz.sizeOf30 rfl rfl rfl rfl rfl (plZ) (by exact Nat.le_of_ble_eq_true rfl)) ?_
      rintro _ _ rfl
      refine WL_val rfl rfl rfl (R_assign rfl rfl) ?_
      refine WL_nil ?_
      refine WQ_code ?_
      refine WC_ret ?_
      refine WQ_ret rfl rfl (.cons (.cell (vs := [_, _]) rfl ag30 (mmZ) rfl (atZ)) (.cons (.tmp rfl) .nil)) rfl (by
          exact ⟨rfl, rfl⟩) (pqZ)
    · refine WL_val rfl rfl rfl (R_move rfl rfl) ?_
      refine WL_val rfl rfl rfl (R_nilCheck rfl rfl) ?_
      refine WL_val rfl rfl rfl (R_fieldAddr rfl fa169_0 rfl) ?_
      refine WL_val rfl rfl rfl (R_load rfl sc167 rfl (mmZ) rfl) ?_
      refine WL_val rfl rfl rfl (R_move rfl rfl) ?_
      obtain ⟨x, hx⟩ := ex_of (T := T) (i := n.toNat) (by omega)
      have hb := hT.bd hx
      have ho := h n.toNat x (by omega) hx
      refine WL_val rfl rfl rfl (R_indexAddr rfl Tryz.underlying167 Tryz.sizeOf172 rfl rfl (by exact ⟨by omega, by omega⟩)) ?_
      refine WL_val rfl rfl rfl (R_fieldAddr rfl fa172_2 rfl) ?_
      refine WL_val rfl rfl rfl (R_load rfl sc4 rfl (mmZ) (fm_get0 encP3 hx (by omega))) ?_
      refine WL_val rfl rfl rfl (R_not rfl rfl) ?_
      refine WL_val rfl rfl rfl (R_pickF rfl rfl rfl) ?_
      refine WL_val rfl rfl rfl (R_assign rfl rfl) ?_
      refine WL_nil ?_
      refine WQ_code ?_
      refine WC_if rfl (fun c3 => ?_) (fun c3 => ?_)
      · refine WC_seq ?_
        refine WC_region ?_
        refine WL_val rfl rfl rfl (R_build rfl zv30 pl30 rfl rfl) ?_
        refine WL_do0 rfl rfl (D_store (vs := [_, _]) rfl Tryz.sizeOf30 rfl rfl rfl rfl rfl (plZ) (by exact Nat.le_of_ble_eq_true rfl)) ?_
        rintro _ _ rfl
        refine WL_val rfl rfl rfl (R_assign rfl rfl) ?_
        refine WL_nil ?_
        refine WQ_code ?_
        refine WC_ret ?_
        refine WQ_ret rfl rfl (.cons (.cell (vs := [_, _]) rfl ag30 (mmZ) rfl (atZ)) (.cons (.tmp rfl) .nil)) rfl (by
            exact ⟨rfl, rfl⟩) (pqZ)
      · simp_all
end Go.Proofs.YtbkdebnkoidicaaGreat.Slt
end
section
set_option linter.unusedVariables false
set_option maxRecDepth 20000
namespace Go.Proofs.YtbkdebnkoidicaaGreat.Slt
/-- A descriptor of the reference. -/
structure Fl where
  n : Int
  gen : Int
  value : Int
  closed : Bool
def Fl.out (x : Fl) : Int × Int × Int := (x.n, x.gen, x.value)
end Go.Proofs.YtbkdebnkoidicaaGreat.Slt
end
section
set_option linter.unusedVariables false
set_option maxRecDepth 20000
namespace Go.Proofs.YtbkdebnkoidicaaGreat.Slt
/-- The one open descriptor with number n lies at j. -/
structure Open1 (W : List Fl) (n : Int) (j : Nat) (x : Fl) : Prop where
  at_ : W[j]? = some x
  num : x.n = n
  opn : x.closed = false
  one : ∀ (i : Nat) (y : Fl), W[i]? = some y → y.n = n → y.closed = false → i = j
def NoOpen (W : List Fl) (n : Int) : Prop := ∀ (i : Nat) (y : Fl), W[i]? = some y → y.n = n → y.closed = true
theorem Open1.lt {W : List Fl} {n : Int} {j : Nat} {x : Fl} (h : Open1 W n j x) : j < W.length := (List.getElem?_eq_some_iff.1 h.at_).1
end Go.Proofs.YtbkdebnkoidicaaGreat.Slt
end
section
set_option linter.unusedVariables false
set_option maxRecDepth 20000
set_option maxHeartbeats 1000000
namespace Go.Proofs.YtbkdebnkoidicaaGreat.Slt
def cntTo (W : List Fl) (n : Int) : Nat → Nat
  | 0 => 0
  | k + 1 => cntTo W n k + (match W[k]? with | some y => if y.n = n then 1 else 0 | none => 0)
abbrev cnt (W : List Fl) (n : Int) : Nat := cntTo W n W.length
theorem cntTo_succ {W : List Fl} {n : Int} {k : Nat} {y : Fl} (h : W[k]? = some y) : cntTo W n (k + 1) = cntTo W n k + if y.n = n then 1 else 0 := by simp [cntTo, h]
def CntIs (W : List Fl) (n : Int) (k c : Nat) : Prop := c = cntTo W n k ∧ c ≤ k
theorem CntIs.up {W : List Fl} {n : Int} {k c : Nat} {y : Fl} (h : CntIs W n k c) (hy : W[k]? = some y) (e : y.n = n) : CntIs W n (k + 1) (c + 1) := by
  refine ⟨?_, Nat.succ_le_succ h.2⟩
  rw [cntTo_succ hy, if_pos e, h.1]
theorem CntIs.same {W : List Fl} {n : Int} {k c : Nat} {y : Fl} (h : CntIs W n k c) (hy : W[k]? = some y) (e : ¬ y.n = n) : CntIs W n (k + 1) c := by
  refine ⟨?_, Nat.le_succ_of_le h.2⟩
  rw [cntTo_succ hy, if_neg e, h.1]; rfl
/-- The table and the reference are alike. -/
structure Alike (T : List Pl) (W : List Fl) : Prop where
  yes : ∀ (k : Nat) (x : Pl), T[k]? = some x → x.opn = true → ∃ j, Open1 W (k : Int) j ⟨k, x.given - 1, x.value, false⟩
  no : ∀ (k : Nat) (x : Pl), T[k]? = some x → x.opn = false → NoOpen W (k : Int)
  out : ∀ (n : Int), (n < 0 ∨ (T.length : Int) ≤ n) → NoOpen W n
  cnt : ∀ (k : Nat) (x : Pl), T[k]? = some x → x.given = (cnt W (k : Int) : Int)
end Go.Proofs.YtbkdebnkoidicaaGreat.Slt
end
section
set_option linter.unusedVariables false
set_option maxRecDepth 20000
namespace Go.Proofs.YtbkdebnkoidicaaGreat.Slt
def NoneR (W : List Fl) (n g : Int) : Prop := NoOpen W n ∨ ∃ j x, Open1 W n j x ∧ x.gen ≠ g
theorem Alike.none {T : List Pl} {W : List Fl} (hA : Alike T W) {n g : Int} (h : NoneAt T n g) : NoneR W n g := by
  by_cases hr : n < 0 ∨ (T.length : Int) ≤ n
  · exact .inl (hA.out n hr)
  · obtain ⟨i, rfl⟩ := Int.eq_ofNat_of_zero_le (show 0 ≤ n by omega)
    obtain ⟨x, hx⟩ := ex_of (T := T) (i := i) (by omega)
    cases ho : x.opn with
    | false => exact .inl (hA.no i x hx ho)
    | true =>
      obtain ⟨j, hj⟩ := hA.yes i x hx ho
      exact .inr ⟨j, _, hj, fun e => h i x ⟨rfl, hx, ho, e.symm⟩⟩
theorem Alike.some {T : List Pl} {W : List Fl} (hA : Alike T W) {n g : Int} {i : Nat} {x : Pl} (h : OpenAt T n g i x) : ∃ j, Open1 W n j ⟨i, x.given - 1, x.value, false⟩ ∧ x.given - 1 = g := by
  obtain ⟨rfl, hx, ho, rfl⟩ := h
  obtain ⟨j, hj⟩ := hA.yes i x hx ho
  exact ⟨j, hj, rfl⟩
theorem cntTo_app (W : List Fl) (f : Fl) (n : Int) : ∀ k, k ≤ W.length → cntTo (W ++ [f]) n k = cntTo W n k
  | 0, _ => rfl
  | k + 1, h => by
    simp only [cntTo, cntTo_app W f n k (by omega), List.getElem?_append_left (show k < W.length by omega)]
theorem cnt_snoc (W : List Fl) (f : Fl) (n : Int) : cnt (W ++ [f]) n = cnt W n + if f.n = n then 1 else 0 := by
  have h : (W ++ [f])[W.length]? = some f := by simp
  rw [cnt, List.length_append, List.length_singleton, cntTo_succ h, cntTo_app W f n _ (Nat.le_refl _)]
end Go.Proofs.YtbkdebnkoidicaaGreat.Slt
end
section
set_option linter.unusedVariables false
set_option maxRecDepth 20000
namespace Go.Proofs.YtbkdebnkoidicaaGreat
theorem Spec.none {P : Program} {f : FuncId} {args : List Value} {H : Heap} {post : Value → Heap → Prop} (e : TypeId) (h : Spec P f args H (fun r H' => ∃ x : Ent, (x.b = Option.none ∧ x.o = cl [] e) ∧ post r (x :: H'))) : Spec P f args H post :=
  ⟨h.enters, fun w hw => (h.calls w hw).mono fun _ _ ⟨v, H', e1, ⟨x, ⟨hx, hx2⟩, p⟩, r⟩ => ⟨v, x :: H', e1, p, by
    obtain ⟨b, o⟩ := x
    dsimp only at hx hx2
    subst hx hx2
    exact r.addNone e⟩⟩
abbrev encI (x : Int) : List Value := [.int .i64 x]
abbrev ivs (l : List Int) : List Value := l.flatMap encI
theorem encI1 (x : Int) : (encI x).length = 1 := rfl
end Go.Proofs.YtbkdebnkoidicaaGreat
end
section
set_option linter.unusedVariables false
set_option maxRecDepth 20000
namespace Go.Proofs.YtbkdebnkoidicaaGreat
structure Nd where
  v : Int
  before : Nat
  next : Nat
abbrev ekQ (n : Nat) : Value := .int .u64 (n : Int)
abbrev evQ (x : Nd) : Value := .agg #[.int .i64 x.v, .int .u64 (x.before : Int), .int .u64 (x.next : Int)]
theorem ekQ_key (k : Nat) : MapKept.IsKey (.int .u64) (ekQ k) := rfl
theorem ekQ_inj (a b : Nat) (h : ekQ a = ekQ b) : a = b := by
  simp only [ekQ, Value.int.injEq] at h; omega
/-- The first and the last ticket. -/
def hd (q : Nat) : List (Nat × Int) → Nat
  | [] => q
  | (t, _) :: _ => t
def lst (p : Nat) : List (Nat × Int) → Nat
  | [] => p
  | (t, _) :: r => lst t r
/-- The nodes of a part of a queue, between the tickets p and q. -/
def nds (p q : Nat) : List (Nat × Int) → List (Nat × Nd)
  | [] => []
  | (t, v) :: r => (t, ⟨v, p, hd q r⟩) :: nds t q r
theorem hd_append (q : Nat) : ∀ (A B : List (Nat × Int)), hd q (A ++ B) = hd (hd q B) A
  | [], _ => rfl
  | (_, _) :: _, _ => rfl
theorem lst_append (p : Nat) : ∀ (A B : List (Nat × Int)), lst p (A ++ B) = lst (lst p A) B
  | [], _ => rfl
  | (t, _) :: r, B => lst_append t r B
theorem nds_append (q : Nat) : ∀ (A B : List (Nat × Int)) (p : Nat), nds p q (A ++ B) = nds p (hd q B) A ++ nds (lst p A) q B
  | [], _, _ => rfl
  | (t, v) :: r, B, p => by
    simp only [List.cons_append, nds, lst, nds_append q r B t, hd_append]
theorem nds_keys (q : Nat) : ∀ (l : List (Nat × Int)) (p : Nat), (nds p q l).map (·.1) = l.map (·.1)
  | [], _ => rfl
  | (t, v) :: r, p => by simp only [nds, List.map_cons, nds_keys q r t]
theorem nds_len (p q : Nat) (l : List (Nat × Int)) : (nds p q l).length = l.length := by
  have := congrArg List.length (nds_keys q l p)
  simpa using this
theorem lst_mem : ∀ (l : List (Nat × Int)) (p : Nat), l ≠ [] → lst p l ∈ l.map (·.1)
  | [], _, h => absurd rfl h
  | [(t, v)], p, _ => by simp [lst]
  | (t, v) :: x :: r, p, _ => by
    have := lst_mem (x :: r) t (by simp)
    exact List.mem_cons_of_mem _ this
theorem lst_in (q : Nat) : ∀ (l : List (Nat × Int)) (p : Nat), l ≠ [] → ∃ w bq, (lst p l, (⟨w, bq, q⟩ : Nd)) ∈ nds p q l
  | [], _, h => absurd rfl h
  | [(t, v)], p, _ => ⟨v, p, List.mem_cons_self ..⟩
  | (t, v) :: x :: r, p, _ => by
    obtain ⟨w, bq, h⟩ := lst_in q (x :: r) t (by simp)
    exact ⟨w, bq, List.mem_cons_of_mem _ h⟩
theorem hd_in (q : Nat) (p : Nat) : ∀ (l : List (Nat × Int)), l ≠ [] → ∃ w nq, (hd q l, (⟨w, p, nq⟩ : Nd)) ∈ nds p q l
  | [], h => absurd rfl h
  | (t, v) :: r, _ => ⟨v, hd q r, List.mem_cons_self ..⟩
theorem setL_append {A B : List (Nat × Nd)} (k : Nat) (a : Nd) : setL (A ++ B) k a = setL A k a ++ setL B k a := List.map_append
theorem setL_out {A : List (Nat × Nd)} {k : Nat} {a : Nd} (h : k ∉ A.map (·.1)) : setL A k a = A := setL_same fun x hx e => h (List.mem_map.2 ⟨x, hx, e⟩)
theorem setL_last (q q' : Nat) : ∀ (l : List (Nat × Int)) (p : Nat) (w : Int) (bq : Nat), l ≠ [] → (l.map (·.1)).Nodup → (lst p l, (⟨w, bq, q⟩ : Nd)) ∈ nds p q l → setL (nds p q l) (lst p l) ⟨w, bq, q'⟩ = nds p q' l
  | [], _, _, _, h, _, _ => absurd rfl h
  | [(t, v)], p, w, bq, _, _, hm => by
    simp only [nds, lst, hd, List.mem_singleton, Prod.mk.injEq, Nd.mk.injEq, true_and, and_true] at hm
    obtain ⟨rfl, rfl⟩ := hm
    simp [nds, lst, hd, setL]
  | (t, v) :: x :: r, p, w, bq, _, hn, hm => by
    rw [List.map_cons, List.nodup_cons] at hn
    have hne : t ≠ lst t (x :: r) := fun e => hn.1 (by
      have := lst_mem (x :: r) t (by simp)
      rw [← e] at this; exact this)
    have hm2 : (lst t (x :: r), (⟨w, bq, q⟩ : Nd)) ∈ nds t q (x :: r) := by
      rcases List.mem_cons.1 hm with e | h
      · exact absurd (congrArg Prod.fst e).symm hne
      · exact h
    have ih := setL_last q q' (x :: r) t w bq (by simp) hn.2 hm2
    show setL ((t, ⟨v, p, hd q (x :: r)⟩) :: nds t q (x :: r)) (lst t (x :: r)) ⟨w, bq, q'⟩ = (t, ⟨v, p, hd q' (x :: r)⟩) :: nds t q' (x :: r)
    have e1 : ∀ Y, setL ((t, (⟨v, p, hd q (x :: r)⟩ : Nd)) :: Y) (lst t (x :: r)) ⟨w, bq, q'⟩ = (t, ⟨v, p, hd q (x :: r)⟩) :: setL Y (lst t (x :: r)) ⟨w, bq, q'⟩ := fun Y => by
      show (if t = lst t (x :: r) then _ else _) :: _ = _
      rw [if_neg hne]; rfl
    rw [e1, ih]
    rfl
theorem setL_head (p p' q : Nat) (l : List (Nat × Int)) (w : Int) (nq : Nat) (hl : l ≠ []) (hn : (l.map (·.1)).Nodup) (hm : (hd q l, (⟨w, p, nq⟩ : Nd)) ∈ nds p q l) : setL (nds p q l) (hd q l) ⟨w, p', nq⟩ = nds p' q l := by
  cases l with
  | nil => exact absurd rfl hl
  | cons x r =>
    obtain ⟨t, v⟩ := x
    rw [List.map_cons, List.nodup_cons] at hn
    have hnr : t ∉ (nds t q r).map (·.1) := by rw [nds_keys]; exact hn.1
    have e : v = w ∧ hd q r = nq := by
      rcases List.mem_cons.1 hm with e | h
      · have := congrArg Prod.snd e
        simp only [Nd.mk.injEq] at this
        exact ⟨this.1.symm, this.2.2.symm⟩
      · exact absurd (List.mem_map.2 ⟨_, h, rfl⟩) hnr
    obtain ⟨rfl, rfl⟩ := e
    show (if t = t then _ else _) :: setL (nds t q r) t _ = _
    rw [if_pos rfl, setL_out hnr]
    rfl
theorem delL_mid (A B : List (Nat × Int)) (t : Nat) (v : Int) (hn : ((A ++ (t, v) :: B).map (·.1)).Nodup) : delL (nds 0 0 (A ++ (t, v) :: B)) t = nds 0 t A ++ nds t 0 B := by
  have hA : ∀ x ∈ nds 0 t A, x.1 ≠ t := fun x hx e => by
    have h1 : x.1 ∈ A.map (·.1) := by rw [← nds_keys t A 0]; exact List.mem_map.2 ⟨x, hx, rfl⟩
    rw [e] at h1
    rw [List.map_append, List.map_cons, List.nodup_append] at hn
    exact hn.2.2 t h1 t (List.mem_cons_self ..) rfl
  have hB : ∀ x ∈ nds t 0 B, x.1 ≠ t := fun x hx e => by
    have h1 : x.1 ∈ B.map (·.1) := by rw [← nds_keys 0 B t]; exact List.mem_map.2 ⟨x, hx, rfl⟩
    rw [e] at h1
    rw [List.map_append, List.map_cons, List.nodup_append] at hn
    exact (List.nodup_cons.1 hn.2.1).1 h1
  rw [nds_append]
  unfold delL
  rw [List.filter_append]
  show List.filter _ (nds 0 t A) ++ List.filter _ ((t, _) :: nds t 0 B) = _
  rw [List.filter_cons_of_neg (by simp), List.filter_eq_self.2 (fun x hx => by simpa using hA x hx), List.filter_eq_self.2 (fun x hx => by simpa using hB x hx)]
theorem hd_ne {q q' : Nat} {l : List (Nat × Int)} (h : l ≠ []) : hd q l = hd q' l := by
  cases l with
  | nil => exact absurd rfl h
  | cons x r => rfl
theorem lst_ne {q q' : Nat} {l : List (Nat × Int)} (h : l ≠ []) : lst q l = lst q' l := by
  cases l with
  | nil => exact absurd rfl h
  | cons x r => rfl
/-- The tickets of a queue. -/
structure Qk (l : List (Nat × Int)) (g : Nat) : Prop where
  pos : ∀ x ∈ l, 1 ≤ x.1 ∧ x.1 ≤ g
  ord : l.Pairwise fun a b => a.1 < b.1
theorem Qk.empty (g : Nat) : Qk [] g := ⟨fun x h => (by cases h), .nil⟩
theorem Qk.nodup {l : List (Nat × Int)} {g : Nat} (h : Qk l g) : (l.map (·.1)).Nodup := by
  rw [List.Nodup, List.pairwise_map]
  exact h.ord.imp fun h => Nat.ne_of_lt h
theorem Qk.push {l : List (Nat × Int)} {g : Nat} (h : Qk l g) (v : Int) : Qk (l ++ [(g + 1, v)]) (g + 1) := by
  refine ⟨fun x hx => ?_, List.pairwise_append.2 ⟨h.ord, by simp, fun a ha b hb => ?_⟩⟩
  · rcases List.mem_append.1 hx with hx | hx
    · have := h.pos x hx; omega
    · rw [List.mem_singleton] at hx; subst hx; dsimp only; omega
  · rw [List.mem_singleton] at hb; subst hb
    have := h.pos a ha; dsimp only; omega
theorem Qk.rem {A B : List (Nat × Int)} {x : Nat × Int} {g : Nat} (h : Qk (A ++ x :: B) g) : Qk (A ++ B) g := by
  refine ⟨fun y hy => h.pos y ?_, h.ord.sublist (List.Sublist.append_left (List.sublist_cons_self x B) A)⟩
  rcases List.mem_append.1 hy with hy | hy
  · exact List.mem_append_left _ hy
  · exact List.mem_append_right _ (List.mem_cons_of_mem _ hy)
theorem Qk.hd0 {l : List (Nat × Int)} {g : Nat} (h : Qk l g) : hd 0 l = 0 ↔ l = [] := by
  cases l with
  | nil => simp [hd]
  | cons x r =>
    have := (h.pos x (List.mem_cons_self ..)).1
    obtain ⟨t, v⟩ := x
    simp only [hd]
    constructor
    · intro e; dsimp only at this; omega
    · intro e; cases e
theorem Qk.lst0 {l : List (Nat × Int)} {g : Nat} (h : Qk l g) : lst 0 l = 0 ↔ l = [] := by
  by_cases e : l = []
  · subst e; simp [lst]
  · have hm := lst_mem l 0 e
    obtain ⟨x, hx, hx2⟩ := List.mem_map.1 hm
    have := (h.pos x hx).1
    constructor
    · intro e2; omega
    · intro e2; exact absurd e2 e
theorem Qk.left {A B : List (Nat × Int)} {g : Nat} (h : Qk (A ++ B) g) : Qk A g := ⟨fun x hx => h.pos x (List.mem_append_left _ hx), (List.pairwise_append.1 h.ord).1⟩
theorem Qk.right {A B : List (Nat × Int)} {g : Nat} (h : Qk (A ++ B) g) : Qk B g := ⟨fun x hx => h.pos x (List.mem_append_right _ hx), (List.pairwise_append.1 h.ord).2.1⟩
theorem Qk.tail {x : Nat × Int} {B : List (Nat × Int)} {g : Nat} (h : Qk (x :: B) g) : Qk B g := ⟨fun y hy => h.pos y (List.mem_cons_of_mem _ hy), (List.pairwise_cons.1 h.ord).2⟩
theorem Qk.new {l : List (Nat × Int)} {g : Nat} (h : Qk l g) : g + 1 ∉ (nds 0 0 l).map (·.1) := by
  rw [nds_keys]
  intro hm
  obtain ⟨x, hx, e⟩ := List.mem_map.1 hm
  have := (h.pos x hx).2
  omega
theorem push_list {l : List (Nat × Int)} {g : Nat} (h : Qk l g) (v : Int) {w : Int} {bq : Nat} (hl : l ≠ []) (hin : (lst 0 l, (⟨w, bq, 0⟩ : Nd)) ∈ nds 0 0 l) :
    (setL ((g + 1, ⟨v, lst 0 l, 0⟩) :: nds 0 0 l) (lst 0 l) ⟨w, bq, g + 1⟩).Perm (nds 0 0 (l ++ [(g + 1, v)])) := by
  have hne : g + 1 ≠ lst 0 l := fun e => h.new (by rw [nds_keys, e]; exact lst_mem l 0 hl)
  have e1 : setL ((g + 1, (⟨v, lst 0 l, 0⟩ : Nd)) :: nds 0 0 l) (lst 0 l) ⟨w, bq, g + 1⟩ = (g + 1, ⟨v, lst 0 l, 0⟩) :: setL (nds 0 0 l) (lst 0 l) ⟨w, bq, g + 1⟩ := by
    show (if g + 1 = lst 0 l then _ else _) :: _ = _
    rw [if_neg hne]; rfl
  rw [e1, setL_last 0 (g + 1) l 0 w bq hl h.nodup hin, nds_append]
  exact (List.perm_append_comm (l₁ := [(g + 1, (⟨v, lst 0 l, 0⟩ : Nd))]))
end Go.Proofs.YtbkdebnkoidicaaGreat
end
section
set_option linter.unusedVariables false
set_option maxRecDepth 20000
set_option maxHeartbeats 1000000
namespace Go.Proofs.YtbkdebnkoidicaaGreat
abbrev ptrQ (p : Nat) : Value := .pointer (some ⟨p, 0, none⟩)
/-- A queue in memory: its block, its map's. -/
abbrev qR (p mb f la n : Nat) (es : Array MapEntry) (mc : Nat) : Heap := [⟨some p, cl [.int .u64 (f : Int), .int .u64 (la : Int), .int .u64 (n : Int), .map (some mb)] 252⟩, ⟨some mb, .map es mc⟩]
abbrev qH (p mb : Nat) (l : List (Nat × Int)) (n : Nat) (es : Array MapEntry) (mc : Nat) : Heap := qR p mb (hd 0 l) (lst 0 l) n es mc
theorem qnew_ok : Spec Tryz.prog 94 [] [] (fun r H' => ∃ p mb, r = ptrQ p ∧ H' = qH p mb [] 0 #[] 0) := by
  refine Spec.of (E := []) Tryz.func94 rfl (by kernel_rfl) Tryz.ntmps94 rfl rfl (fun w => ?_)
  refine WC_seq ?_
  refine WC_region ?_
  refine WL_val rfl rfl rfl (R_assign rfl rfl) ?_
  refine WL_nil ?_
  refine WQ_code ?_
  refine WC_seq ?_
  refine WC_region ?_
  refine WL_do rfl rfl rfl (D_makeMap rfl) ?_
  rintro _ _ ⟨mb, rfl, rfl⟩
  refine WL_val rfl rfl rfl (R_build rfl zv252 pl252 rfl rfl) ?_
  refine WL_do rfl rfl rfl (D_box (cs := [_, _, _, _]) rfl rfl rfl) ?_
  rintro _ _ ⟨b1, rfl, rfl⟩
  refine WL_val rfl rfl rfl (R_assign rfl rfl) ?_
  refine WL_nil ?_
  refine WQ_code ?_
  refine WC_ret ?_
  refine WQ_ret rfl rfl (.cons (.tmp rfl) .nil) rfl (by
      exact ⟨_, mb, rfl, rfl⟩) (pqZ)
theorem mp_new : Mp (.int .u64) ekQ evQ #[] (nds 0 0 []) := Mp.empty ekQ_key ekQ_inj
theorem qzero_ok (p mb f la n : Nat) (es : Array MapEntry) (mc : Nat) : Spec Tryz.prog 148 [ptrQ p] (qR p mb f la n es mc) (fun r H' => r = .bool false ∧ H' = qR p mb f la n es mc) := by
  refine Spec.of (E := [(0, ptrQ p)]) Tryz.func148 rfl (by kernel_rfl) Tryz.ntmps148 rfl rfl (fun w => ?_)
  refine WC_seq ?_
  refine WC_region ?_
  refine WL_val rfl rfl rfl (R_assign rfl rfl) ?_
  refine WL_nil ?_
  refine WQ_code ?_
  refine WC_seq ?_
  refine WC_region ?_
  refine WL_val rfl rfl rfl (R_move rfl rfl) ?_
  refine WL_val rfl rfl rfl (R_ptrEqNil rfl Tryz.underlying177 rfl) ?_
  refine WL_val rfl rfl rfl (R_move rfl rfl) ?_
  refine WL_val rfl rfl rfl (R_move rfl rfl) ?_
  refine WL_val rfl rfl rfl (R_nilCheck rfl rfl) ?_
  refine WL_val rfl rfl rfl (R_fieldAddr rfl fa252_1 rfl) ?_
  refine WL_val rfl rfl rfl (R_load rfl sc248 rfl (mmZ) rfl) ?_
  refine WL_val rfl rfl rfl (R_mapEqNil rfl Tryz.underlying248 rfl) ?_
  refine WL_set (s := 10) (v := .bool false) rfl (by rfl) ?_
  refine WL_val rfl rfl rfl (R_pickF rfl rfl rfl) ?_
  refine WL_val rfl rfl rfl (R_assign rfl rfl) ?_
  refine WL_nil ?_
  refine WQ_code ?_
  refine WC_ret ?_
  refine WQ_ret rfl rfl (.cons (.tmp rfl) .nil) rfl (by
      exact ⟨rfl, rfl⟩) (pqZ)
theorem qzero_nil : Spec Tryz.prog 148 [.pointer none] [] (fun r H' => r = .bool true ∧ H' = []) := by
  refine Spec.of (E := [(0, .pointer none)]) Tryz.func148 rfl (by kernel_rfl) Tryz.ntmps148 rfl rfl (fun w => ?_)
  refine WC_seq ?_
  refine WC_region ?_
  refine WL_val rfl rfl rfl (R_assign rfl rfl) ?_
  refine WL_nil ?_
  refine WQ_code ?_
  refine WC_seq ?_
  refine WC_region ?_
  refine WL_val rfl rfl rfl (R_move rfl rfl) ?_
  refine WL_val rfl rfl rfl (R_ptrEqNil rfl Tryz.underlying177 rfl) ?_
  refine WL_val rfl rfl rfl (R_move rfl rfl) ?_
  refine WL_skip rfl rfl rfl ?_
  refine WL_skip rfl rfl rfl ?_
  refine WL_skip rfl rfl rfl ?_
  refine WL_skip rfl rfl rfl ?_
  refine WL_skip rfl rfl rfl ?_
  refine WL_val rfl rfl rfl (R_pickT rfl rfl rfl) ?_
  refine WL_val rfl rfl rfl (R_assign rfl rfl) ?_
  refine WL_nil ?_
  refine WQ_code ?_
  refine WC_ret ?_
  refine WQ_ret rfl rfl (.cons (.tmp rfl) .nil) rfl (by
      exact ⟨rfl, rfl⟩) (pqZ)
theorem qpush_raw (p mb : Nat) (l : List (Nat × Int)) (n : Nat) (es : Array MapEntry) (mc : Nat) (hq : Qk l n) (hM : Mp (.int .u64) ekQ evQ es (nds 0 0 l)) (hl : l.length < 4096) (hn : n < 1000000000000) (v : Int) : Spec Tryz.prog 95 [ptrQ p, .int .i64 v] (qH p mb l n es mc)
    (fun r H' => ∃ es' mc' f la, r = .tuple #[.int .u64 ((n + 1 : Nat) : Int), .int .i64 0] ∧ H' = qR p mb f la (n + 1) es' mc' ∧ f = hd 0 (l ++ [(n + 1, v)]) ∧ la = lst 0 (l ++ [(n + 1, v)]) ∧ Mp (.int .u64) ekQ evQ es' (nds 0 0 (l ++ [(n + 1, v)]))) := by
  refine Spec.of (E := [(0, ptrQ p), (1, .int .i64 v)]) Tryz.func95 rfl (by kernel_rfl) Tryz.ntmps95 rfl rfl (fun w => ?_)
  refine WC_seq ?_
  refine WC_region ?_
  refine WL_val rfl rfl rfl (R_assign rfl rfl) ?_
  refine WL_val rfl rfl rfl (R_assign rfl rfl) ?_
  refine WL_nil ?_
  refine WQ_code ?_
  refine WC_seq ?_
  refine WC_block ?_
  refine WC_seq ?_
  refine WC_region ?_
  refine WL_val rfl rfl rfl (R_move rfl rfl) ?_
  refine WL_do rfl rfl rfl (D_call (qzero_ok p mb _ _ _ es mc) rfl rfl rfl rfl (pqZ)) ?_
  rintro _ _ ⟨_, ⟨rfl, rfl⟩, rfl⟩
  refine WL_val rfl rfl rfl (R_assign rfl rfl) ?_
  refine WL_nil ?_
  refine WQ_code ?_
  refine WC_F rfl ?_
  refine WC_seq ?_
  refine WC_region ?_
  refine WL_val rfl rfl rfl (R_move rfl rfl) ?_
  refine WL_val rfl rfl rfl (R_nilCheck rfl rfl) ?_
  refine WL_val rfl rfl rfl (R_fieldAddr rfl fa252_1 rfl) ?_
  refine WL_val rfl rfl rfl (R_load rfl sc248 rfl (mmZ) rfl) ?_
  refine WL_val rfl rfl rfl (R_lenMap rfl Tryz.underlying248 rfl (mmZ) hM) ?_
  refine WL_val rfl rfl rfl (R_geq rfl rfl rfl) ?_
  refine WL_val rfl rfl rfl (R_assign rfl rfl) ?_
  refine WL_nil ?_
  refine WQ_code ?_
  refine WC_dF rfl (by rw [nds_len]; omega) ?_
  refine WC_skip ?_
  refine WQ_code ?_
  refine WC_seq ?_
  refine WC_region ?_
  refine WL_val rfl rfl rfl (R_move rfl rfl) ?_
  refine WL_val rfl rfl rfl (R_nilCheck rfl rfl) ?_
  refine WL_val rfl rfl rfl (R_fieldAddr rfl fa252_0 rfl) ?_
  refine WL_val rfl rfl rfl (R_fieldAddr rfl fa250_2 rfl) ?_
  refine WL_val rfl rfl rfl (R_load rfl sc27 rfl (mmZ) rfl) ?_
  refine WL_val rfl rfl rfl (R_addR (r := ((n + 1 : Nat) : Int)) rfl rfl rfl (by rw [w64 ⟨by omega, by omega⟩]; omega)) ?_
  refine WL_val rfl rfl rfl (R_nilCheck rfl rfl) ?_
  refine WL_val rfl rfl rfl (R_fieldAddr rfl fa252_0 rfl) ?_
  refine WL_val rfl rfl rfl (R_fieldAddr rfl fa250_2 rfl) ?_
  refine WL_do0 rfl rfl (D_store (vs := [_]) rfl Tryz.sizeOf27 rfl rfl rfl rfl rfl (plZ) (by exact Nat.le_of_ble_eq_true rfl)) ?_
  rintro _ _ rfl
  refine WL_nil ?_
  refine WQ_code ?_
  refine WC_seq ?_
  refine WC_drawR [⟨some mb, _⟩] [(0, true), (1, true), (2, true), (3, true), (4, true), (5, true), (6, true), (7, true), (8, true), (9, true), (10, true), (11, true), (12, true), (13, true), (14, true), (15, true), (16, false)] followsMixed rfl rfl (by kernel_rfl) (pqZ) ?_
  refine WM_val rfl rfl rfl rfl (R_move rfl rfl) ?_
  refine WM_val rfl rfl rfl rfl (R_nilCheck rfl rfl) ?_
  refine WM_val rfl rfl rfl rfl (R_fieldAddr rfl fa252_1 rfl) ?_
  refine WM_val rfl rfl rfl rfl (R_load rfl sc248 rfl (mmZ) rfl) ?_
  refine WM_val rfl rfl rfl rfl (R_move rfl rfl) ?_
  refine WM_val rfl rfl rfl rfl (R_nilCheck rfl rfl) ?_
  refine WM_val rfl rfl rfl rfl (R_fieldAddr rfl fa252_0 rfl) ?_
  refine WM_val rfl rfl rfl rfl (R_fieldAddr rfl fa250_2 rfl) ?_
  refine WM_val rfl rfl rfl rfl (R_load rfl sc27 rfl (mmZ) rfl) ?_
  refine WM_val rfl rfl rfl rfl (R_move rfl rfl) ?_
  refine WM_val rfl rfl rfl rfl (R_move rfl rfl) ?_
  refine WM_val rfl rfl rfl rfl (R_nilCheck rfl rfl) ?_
  refine WM_val rfl rfl rfl rfl (R_fieldAddr rfl fa252_0 rfl) ?_
  refine WM_val rfl rfl rfl rfl (R_fieldAddr rfl fa250_1 rfl) ?_
  refine WM_val rfl rfl rfl rfl (R_load rfl sc27 rfl (mmZ) rfl) ?_
  refine WM_val rfl rfl rfl rfl (R_build rfl zv254 pl254 rfl rfl) ?_
  refine WM_do0 rfl rfl rfl (D_mapAdd (ek := ekQ) (ev := evQ) (k := n + 1) (v := (⟨v, lst 0 l, 0⟩ : Nd)) rfl Tryz.underlying248 Tryz.underlying27 rfl rfl rfl (plZ) hM (hq.new)) ?_
  rintro _ _ ⟨es1, mc1, hM1, rfl⟩
  refine ⟨⟨_, pqZ⟩, ?_⟩
  refine WM_nil ?_
  refine WQ_code ?_
  refine WC_seq ?_
  refine WC_seq ?_
  refine WC_region ?_
  refine WL_val rfl rfl rfl (R_move rfl rfl) ?_
  refine WL_val rfl rfl rfl (R_nilCheck rfl rfl) ?_
  refine WL_val rfl rfl rfl (R_fieldAddr rfl fa252_0 rfl) ?_
  refine WL_val rfl rfl rfl (R_fieldAddr rfl fa250_1 rfl) ?_
  refine WL_val rfl rfl rfl (R_load rfl sc27 rfl (mmZ) rfl) ?_
  refine WL_val rfl rfl rfl (R_eql rfl rfl rfl) ?_
  refine WL_nil ?_
  refine WQ_code ?_
  refine WC_dec rfl (fun c1 => ?_) (fun c1 => ?_)
  · obtain rfl : l = [] := hq.lst0.1 (by omega)
    refine WC_region ?_
    refine WL_val rfl rfl rfl (R_move rfl rfl) ?_
    refine WL_val rfl rfl rfl (R_move rfl rfl) ?_
    refine WL_val rfl rfl rfl (R_nilCheck rfl rfl) ?_
    refine WL_val rfl rfl rfl (R_fieldAddr rfl fa252_0 rfl) ?_
    refine WL_val rfl rfl rfl (R_fieldAddr rfl fa250_2 rfl) ?_
    refine WL_val rfl rfl rfl (R_load rfl sc27 rfl (mmZ) rfl) ?_
    refine WL_val rfl rfl rfl (R_nilCheck rfl rfl) ?_
    refine WL_val rfl rfl rfl (R_fieldAddr rfl fa252_0 rfl) ?_
    refine WL_val rfl rfl rfl (R_fieldAddr rfl fa250_0 rfl) ?_
    refine WL_do0 rfl rfl (D_store (vs := [_]) rfl Tryz.sizeOf27 rfl rfl rfl rfl rfl (plZ) (by exact Nat.le_of_ble_eq_true rfl)) ?_
    rintro _ _ rfl
    refine WL_nil ?_
    refine WQ_code ?_
    refine WC_seq ?_
    refine WC_region ?_
    refine WL_val rfl rfl rfl (R_move rfl rfl) ?_
    refine WL_val rfl rfl rfl (R_move rfl rfl) ?_
    refine WL_val rfl rfl rfl (R_nilCheck rfl rfl) ?_
    refine WL_val rfl rfl rfl (R_fieldAddr rfl fa252_0 rfl) ?_
    refine WL_val rfl rfl rfl (R_fieldAddr rfl fa250_2 rfl) ?_
    refine WL_val rfl rfl rfl (R_load rfl sc27 rfl (mmZ) rfl) ?_
    refine WL_val rfl rfl rfl (R_nilCheck rfl rfl) ?_
    refine WL_val rfl rfl rfl (R_fieldAddr rfl fa252_0 rfl) ?_
    refine WL_val rfl rfl rfl (R_fieldAddr rfl fa250_1 rfl) ?_
    refine WL_do0 rfl rfl (D_store (vs := [_]) rfl Tryz.sizeOf27 rfl rfl rfl rfl rfl (plZ) (by exact Nat.le_of_ble_eq_true rfl)) ?_
    rintro _ _ rfl
    refine WL_nil ?_
    refine WQ_code ?_
    refine WC_seq ?_
    refine WC_region ?_
    refine WL_val rfl rfl rfl (R_move rfl rfl) ?_
    refine WL_val rfl rfl rfl (R_nilCheck rfl rfl) ?_
    refine WL_val rfl rfl rfl (R_fieldAddr rfl fa252_0 rfl) ?_
    refine WL_val rfl rfl rfl (R_fieldAddr rfl fa250_2 rfl) ?_
    refine WL_val rfl rfl rfl (R_load rfl sc27 rfl (mmZ) rfl) ?_
    refine WL_val rfl rfl rfl (R_assign rfl rfl) ?_
    refine WL_val rfl rfl rfl (R_assign rfl rfl) ?_
    refine WL_nil ?_
    refine WQ_code ?_
    refine WC_ret ?_
    refine WQ_ret rfl rfl (.cons (.tmp rfl) (.cons (.tmp rfl) .nil)) rfl (by
        exact ⟨_, mc1, n + 1, n + 1, rfl, rfl, rfl, rfl, hM1⟩) (pqZ)
  · have hl0 : l ≠ [] := fun e => c1 (by rw [e]; rfl)
    obtain ⟨w9, bq, hin⟩ := lst_in 0 l 0 hl0
    refine WC_seq ?_
    refine WC_draw _ [(0, true), (1, true), (2, true), (3, true), (4, true), (5, true), (6, true), (7, true), (8, true), (9, true), (10, false), (11, false)] followsMixed rfl rfl (by kernel_rfl) .all ?_
    refine WM_val rfl rfl rfl rfl (R_move rfl rfl) ?_
    refine WM_val rfl rfl rfl rfl (R_nilCheck rfl rfl) ?_
    refine WM_val rfl rfl rfl rfl (R_fieldAddr rfl fa252_1 rfl) ?_
    refine WM_val rfl rfl rfl rfl (R_load rfl sc248 rfl (mmZ) rfl) ?_
    refine WM_val rfl rfl rfl rfl (R_move rfl rfl) ?_
    refine WM_val rfl rfl rfl rfl (R_nilCheck rfl rfl) ?_
    refine WM_val rfl rfl rfl rfl (R_fieldAddr rfl fa252_0 rfl) ?_
    refine WM_val rfl rfl rfl rfl (R_fieldAddr rfl fa250_1 rfl) ?_
    refine WM_val rfl rfl rfl rfl (R_load rfl sc27 rfl (mmZ) rfl) ?_
    refine WM_val rfl rfl rfl rfl (R_look (ek := ekQ) (ev := evQ) (k := lst 0 l) (a := ⟨w9, bq, 0⟩) rfl Tryz.underlying248 Tryz.underlying27 rfl rfl (mmZ) hM1 (List.mem_cons_of_mem _ hin)) ?_
    refine WM_do rfl rfl rfl rfl (D_alloc rfl zv254) ?_
    rintro _ _ ⟨b1, rfl, rfl⟩
    refine ⟨⟨_, pqZ⟩, ?_⟩
    refine WM_do0 rfl rfl rfl (D_store (vs := [_, _, _]) rfl Tryz.sizeOf254 rfl rfl rfl rfl rfl (plZ) (by exact Nat.le_of_ble_eq_true rfl)) ?_
    rintro _ _ rfl
    refine ⟨⟨_, pqZ⟩, ?_⟩
    refine WM_nil ?_
    refine WQ_code ?_
    refine WC_seq ?_
    refine WC_region ?_
    refine WL_val rfl rfl rfl (R_move rfl rfl) ?_
    refine WL_val rfl rfl rfl (R_nilCheck rfl rfl) ?_
    refine WL_val rfl rfl rfl (R_fieldAddr rfl fa252_0 rfl) ?_
    refine WL_val rfl rfl rfl (R_fieldAddr rfl fa250_2 rfl) ?_
    refine WL_val rfl rfl rfl (R_load rfl sc27 rfl (mmZ) rfl) ?_
    refine WL_val rfl rfl rfl (R_fieldAddr rfl fa254_2 rfl) ?_
    refine WL_do0 rfl rfl (D_store (vs := [_]) rfl Tryz.sizeOf27 rfl rfl rfl rfl rfl (plZ) (by exact Nat.le_of_ble_eq_true rfl)) ?_
    rintro _ _ rfl
    refine WL_nil ?_
    refine WQ_code ?_
    refine WC_drawR [⟨some mb, _⟩] [(0, true), (1, true), (2, true), (3, true), (4, true), (5, true), (6, true), (7, true), (8, true), (9, true), (10, false)] followsMixed rfl rfl (by kernel_rfl) (pqZ) ?_
    refine WM_val rfl rfl rfl rfl (R_move rfl rfl) ?_
    refine WM_val rfl rfl rfl rfl (R_nilCheck rfl rfl) ?_
    refine WM_val rfl rfl rfl rfl (R_fieldAddr rfl fa252_1 rfl) ?_
    refine WM_val rfl rfl rfl rfl (R_load rfl sc248 rfl (mmZ) rfl) ?_
    refine WM_val rfl rfl rfl rfl (R_move rfl rfl) ?_
    refine WM_val rfl rfl rfl rfl (R_nilCheck rfl rfl) ?_
    refine WM_val rfl rfl rfl rfl (R_fieldAddr rfl fa252_0 rfl) ?_
    refine WM_val rfl rfl rfl rfl (R_fieldAddr rfl fa250_1 rfl) ?_
    refine WM_val rfl rfl rfl rfl (R_load rfl sc27 rfl (mmZ) rfl) ?_
    refine WM_val rfl rfl rfl rfl (R_loadA (vs := [_, _, _]) rfl ag254 rfl (mmZ) rfl (atZ)) ?_
    refine WM_do0 rfl rfl rfl (D_mapSet (ek := ekQ) (ev := evQ) (k := lst 0 l) (a := ⟨w9, bq, 0⟩) (v := (⟨w9, bq, n + 1⟩ : Nd)) rfl Tryz.underlying248 Tryz.underlying27 rfl rfl rfl (plZ) hM1 (List.mem_cons_of_mem _ hin)) ?_
    rintro _ _ ⟨es2, mc2, hM2, rfl⟩
    refine ⟨⟨_, pqZ⟩, ?_⟩
    refine WM_nil ?_
    refine WQ_code ?_
    refine WC_seq ?_
    refine WC_region ?_
    refine WL_val rfl rfl rfl (R_move rfl rfl) ?_
    refine WL_val rfl rfl rfl (R_move rfl rfl) ?_
    refine WL_val rfl rfl rfl (R_nilCheck rfl rfl) ?_
    refine WL_val rfl rfl rfl (R_fieldAddr rfl fa252_0 rfl) ?_
    refine WL_val rfl rfl rfl (R_fieldAddr rfl fa250_2 rfl) ?_
    refine WL_val rfl rfl rfl (R_load rfl sc27 rfl (mmZ) rfl) ?_
    refine WL_val rfl rfl rfl (R_nilCheck rfl rfl) ?_
    refine WL_val rfl rfl rfl (R_fieldAddr rfl fa252_0 rfl) ?_
    refine WL_val rfl rfl rfl (R_fieldAddr rfl fa250_1 rfl) ?_
    refine WL_do0 rfl rfl (D_store (vs := [_]) rfl Tryz.sizeOf27 rfl rfl rfl rfl rfl (plZ) (by exact Nat.le_of_ble_eq_true rfl)) ?_
    rintro _ _ rfl
    refine WL_nil ?_
    refine WQ_code ?_
    refine WC_seq ?_
    refine WC_region ?_
    refine WL_val rfl rfl rfl (R_move rfl rfl) ?_
    refine WL_val rfl rfl rfl (R_nilCheck rfl rfl) ?_
    refine WL_val rfl rfl rfl (R_fieldAddr rfl fa252_0 rfl) ?_
    refine WL_val rfl rfl rfl (R_fieldAddr rfl fa250_2 rfl) ?_
    refine WL_val rfl rfl rfl (R_load rfl sc27 rfl (mmZ) rfl) ?_
    refine WL_val rfl rfl rfl (R_assign rfl rfl) ?_
    refine WL_val rfl rfl rfl (R_assign rfl rfl) ?_
    refine WL_nil ?_
    refine WQ_code ?_
    refine WC_ret ?_
    refine WQ_ret rfl rfl (.cons (.tmp rfl) (.cons (.tmp rfl) .nil)) rfl (by
        exact ⟨_, mc2, hd 0 l, n + 1, rfl, rfl, by rw [hd_append]; exact hd_ne hl0, by rw [lst_append]; rfl, hM2.to (push_list hq v hl0 hin)⟩) (pqZ)
theorem qpush_ok (p mb : Nat) (l : List (Nat × Int)) (n : Nat) (es : Array MapEntry) (mc : Nat) (hq : Qk l n) (hM : Mp (.int .u64) ekQ evQ es (nds 0 0 l)) (hl : l.length < 4096) (hn : n < 1000000000000) (v : Int) : Spec Tryz.prog 95 [ptrQ p, .int .i64 v] (qH p mb l n es mc)
    (fun r H' => ∃ es' mc', r = .tuple #[.int .u64 ((n + 1 : Nat) : Int), .int .i64 0] ∧ H' = qH p mb (l ++ [(n + 1, v)]) (n + 1) es' mc' ∧ Mp (.int .u64) ekQ evQ es' (nds 0 0 (l ++ [(n + 1, v)]))) :=
  (qpush_raw p mb l n es mc hq hM hl hn v).mono fun r H' ⟨es', mc', f, la, h1, h2, h3, h4, h5⟩ => by subst h3; subst h4; exact ⟨es', mc', h1, h2, h5⟩
theorem out_right {A B : List (Nat × Int)} {x : Nat × Int} {g : Nat} (h : Qk (A ++ x :: B) g) (hA : A ≠ []) : lst 0 A ∉ B.map (·.1) := fun hm => by
  have h1 := h.rem.nodup
  rw [List.map_append, List.nodup_append] at h1
  exact h1.2.2 _ (lst_mem A 0 hA) _ hm rfl
theorem out_left {A B : List (Nat × Int)} {x : Nat × Int} {g : Nat} (h : Qk (A ++ x :: B) g) (hB : B ≠ []) : hd 0 B ∉ A.map (·.1) := fun hm => by
  have h1 := h.rem.nodup
  rw [List.map_append, List.nodup_append] at h1
  obtain ⟨w2, nq, h2⟩ := hd_in 0 0 B hB
  exact h1.2.2 _ hm _ (by rw [← nds_keys 0 B 0]; exact List.mem_map.2 ⟨_, h2, rfl⟩) rfl
theorem qrem_raw (p mb : Nat) (A B : List (Nat × Int)) (t : Nat) (v : Int) (n : Nat) (es : Array MapEntry) (mc : Nat) (hq : Qk (A ++ (t, v) :: B) n) (hM : Mp (.int .u64) ekQ evQ es (nds 0 0 (A ++ (t, v) :: B))) : Spec Tryz.prog 160 [ptrQ p, .int .u64 (t : Int)] (qR p mb (hd t A) (lst t B) n es mc)
    (fun r H' => ∃ es' mc' f la, r = .tuple #[.int .i64 v, .int .i64 0] ∧ H' = qR p mb f la n es' mc' ∧ f = hd 0 (A ++ B) ∧ la = lst 0 (A ++ B) ∧ Mp (.int .u64) ekQ evQ es' (nds 0 (hd 0 B) A ++ nds (lst 0 A) 0 B)) := by
  have hin : (t, (⟨v, lst 0 A, hd 0 B⟩ : Nd)) ∈ nds 0 0 (A ++ (t, v) :: B) := by rw [nds_append]; exact List.mem_append_right _ (List.mem_cons_self ..)
  have hdel := delL_mid A B t v hq.nodup
  have hqA := hq.left
  have hqB := hq.right.tail
  have hnd := hq.rem.nodup
  refine Spec.of (E := [(0, ptrQ p), (1, .int .u64 (t : Int))]) Tryz.func160 rfl (by kernel_rfl) Tryz.ntmps160 rfl rfl (fun w => ?_)
  refine WC_seq ?_
  refine WC_region ?_
  refine WL_val rfl rfl rfl (R_assign rfl rfl) ?_
  refine WL_val rfl rfl rfl (R_assign rfl rfl) ?_
  refine WL_nil ?_
  refine WQ_code ?_
  refine WC_seq ?_
  refine WC_seq ?_
  refine WC_region ?_
  refine WL_val rfl rfl rfl (R_move rfl rfl) ?_
  refine WL_do rfl rfl rfl (D_call (qzero_ok p mb _ _ _ es mc) rfl rfl rfl rfl (pqZ)) ?_
  rintro _ _ ⟨_, ⟨rfl, rfl⟩, rfl⟩
  refine WL_nil ?_
  refine WQ_code ?_
  refine WC_F rfl ?_
  refine WC_skip ?_
  refine WQ_code ?_
  refine WC_seq ?_
  refine WC_region ?_
  refine WL_val rfl rfl rfl (R_move rfl rfl) ?_
  refine WL_val rfl rfl rfl (R_nilCheck rfl rfl) ?_
  refine WL_val rfl rfl rfl (R_fieldAddr rfl fa252_1 rfl) ?_
  refine WL_val rfl rfl rfl (R_load rfl sc248 rfl (mmZ) rfl) ?_
  refine WL_val rfl rfl rfl (R_move rfl rfl) ?_
  refine WL_val rfl rfl rfl (R_lookT (ek := ekQ) (ev := evQ) (k := t) (a := ⟨v, lst 0 A, hd 0 B⟩) rfl Tryz.underlying248 Tryz.underlying27 rfl rfl (mmZ) hM (hin)) ?_
  refine WL_val rfl rfl rfl (R_move rfl rfl) ?_
  refine WL_val rfl rfl rfl (R_extract rfl rfl rfl) ?_
  refine WL_val rfl rfl rfl (R_extract rfl rfl rfl) ?_
  refine WL_do rfl rfl rfl (D_alloc rfl zv254) ?_
  rintro _ _ ⟨b1, rfl, rfl⟩
  refine WL_do0 rfl rfl (D_store (vs := [_, _, _]) rfl Tryz.sizeOf254 rfl rfl rfl rfl rfl (plZ) (by exact Nat.le_of_ble_eq_true rfl)) ?_
  rintro _ _ rfl
  refine WL_val rfl rfl rfl (R_assign rfl rfl) ?_
  refine WL_nil ?_
  refine WQ_code ?_
  refine WC_seq ?_
  refine WC_seq ?_
  refine WC_region ?_
  refine WL_val rfl rfl rfl (R_move rfl rfl) ?_
  refine WL_val rfl rfl rfl (R_not rfl rfl) ?_
  refine WL_nil ?_
  refine WQ_code ?_
  refine WC_F rfl ?_
  refine WC_skip ?_
  refine WQ_code ?_
  refine WC_seq ?_
  refine WC_region ?_
  refine WL_val rfl rfl rfl (R_move rfl rfl) ?_
  refine WL_val rfl rfl rfl (R_nilCheck rfl rfl) ?_
  refine WL_val rfl rfl rfl (R_fieldAddr rfl fa252_1 rfl) ?_
  refine WL_val rfl rfl rfl (R_load rfl sc248 rfl (mmZ) rfl) ?_
  refine WL_val rfl rfl rfl (R_move rfl rfl) ?_
  refine WL_do0 rfl rfl (D_delete (ek := ekQ) (ev := evQ) (k := t) (a := ⟨v, lst 0 A, hd 0 B⟩) rfl Tryz.underlying248 Tryz.underlying27 rfl rfl (plZ) hM (hin)) ?_
  rintro _ _ ⟨es1, mc1, hM1, rfl⟩
  rw [hdel] at hM1
  refine WL_nil ?_
  refine WQ_code ?_
  refine WC_seq ?_
  refine WC_seq ?_
  refine WC_region ?_
  refine WL_val rfl rfl rfl (R_fieldAddr rfl fa254_1 rfl) ?_
  refine WL_val rfl rfl rfl (R_load rfl sc27 rfl (mmZ) rfl) ?_
  refine WL_val rfl rfl rfl (R_eql rfl rfl rfl) ?_
  refine WL_nil ?_
  refine WQ_code ?_
  refine WC_dec rfl (fun c1 => ?_) (fun c1 => ?_)
  · have h9 : ((lst 0 A : Nat) : Int) = 0 := c1
    obtain rfl : A = [] := hqA.lst0.1 (by omega)
    refine WC_region ?_
    refine WL_val rfl rfl rfl (R_move rfl rfl) ?_
    refine WL_val rfl rfl rfl (R_fieldAddr rfl fa254_2 rfl) ?_
    refine WL_val rfl rfl rfl (R_load rfl sc27 rfl (mmZ) rfl) ?_
    refine WL_val rfl rfl rfl (R_nilCheck rfl rfl) ?_
    refine WL_val rfl rfl rfl (R_fieldAddr rfl fa252_0 rfl) ?_
    refine WL_val rfl rfl rfl (R_fieldAddr rfl fa250_0 rfl) ?_
    refine WL_do0 rfl rfl (D_store (vs := [_]) rfl Tryz.sizeOf27 rfl rfl rfl rfl rfl (plZ) (by exact Nat.le_of_ble_eq_true rfl)) ?_
    rintro _ _ rfl
    refine WL_nil ?_
    refine WQ_code ?_
    refine WC_seq ?_
    refine WC_seq ?_
    refine WC_region ?_
    refine WL_val rfl rfl rfl (R_fieldAddr rfl fa254_2 rfl) ?_
    refine WL_val rfl rfl rfl (R_load rfl sc27 rfl (mmZ) rfl) ?_
    refine WL_val rfl rfl rfl (R_eql rfl rfl rfl) ?_
    refine WL_nil ?_
    refine WQ_code ?_
    refine WC_dec rfl (fun c2 => ?_) (fun c2 => ?_)
    · have h8 : ((hd 0 B : Nat) : Int) = 0 := c2
      obtain rfl : B = [] := hqB.hd0.1 (by omega)
      refine WC_region ?_
      refine WL_val rfl rfl rfl (R_move rfl rfl) ?_
      refine WL_val rfl rfl rfl (R_fieldAddr rfl fa254_1 rfl) ?_
      refine WL_val rfl rfl rfl (R_load rfl sc27 rfl (mmZ) rfl) ?_
      refine WL_val rfl rfl rfl (R_nilCheck rfl rfl) ?_
      refine WL_val rfl rfl rfl (R_fieldAddr rfl fa252_0 rfl) ?_
      refine WL_val rfl rfl rfl (R_fieldAddr rfl fa250_1 rfl) ?_
      refine WL_do0 rfl rfl (D_store (vs := [_]) rfl Tryz.sizeOf27 rfl rfl rfl rfl rfl (plZ) (by exact Nat.le_of_ble_eq_true rfl)) ?_
      rintro _ _ rfl
      refine WL_nil ?_
      refine WQ_code ?_
      refine WC_seq ?_
      refine WC_region ?_
      refine WL_val rfl rfl rfl (R_fieldAddr rfl fa254_0 rfl) ?_
      refine WL_val rfl rfl rfl (R_load rfl sc3 rfl (mmZ) rfl) ?_
      refine WL_val rfl rfl rfl (R_assign rfl rfl) ?_
      refine WL_val rfl rfl rfl (R_assign rfl rfl) ?_
      refine WL_nil ?_
      refine WQ_code ?_
      refine WC_ret ?_
      refine WQ_ret rfl rfl (.cons (.tmp rfl) (.cons (.tmp rfl) .nil)) rfl (by
          exact ⟨_, mc1, hd 0 [], lst 0 [], rfl, rfl, rfl, rfl, hM1⟩) (pqZ)
    · have hB : B ≠ [] := fun e => c2 (by rw [e]; rfl)
      obtain ⟨w2, nq, hin2⟩ := hd_in 0 t B hB
      refine WC_seq ?_
      refine WC_draw _ [(0, true), (1, true), (2, true), (3, true), (4, true), (5, true), (6, true), (7, false), (8, false)] followsMixed rfl rfl (by kernel_rfl) .all ?_
      refine WM_val rfl rfl rfl rfl (R_move rfl rfl) ?_
      refine WM_val rfl rfl rfl rfl (R_nilCheck rfl rfl) ?_
      refine WM_val rfl rfl rfl rfl (R_fieldAddr rfl fa252_1 rfl) ?_
      refine WM_val rfl rfl rfl rfl (R_load rfl sc248 rfl (mmZ) rfl) ?_
      refine WM_val rfl rfl rfl rfl (R_fieldAddr rfl fa254_2 rfl) ?_
      refine WM_val rfl rfl rfl rfl (R_load rfl sc27 rfl (mmZ) rfl) ?_
      refine WM_val rfl rfl rfl rfl (R_look (ek := ekQ) (ev := evQ) (k := hd 0 B) (a := ⟨w2, t, nq⟩) rfl Tryz.underlying248 Tryz.underlying27 rfl rfl (mmZ) hM1 (List.mem_append_right _ hin2)) ?_
      refine WM_do rfl rfl rfl rfl (D_alloc rfl zv254) ?_
      rintro _ _ ⟨b2, rfl, rfl⟩
      refine ⟨⟨_, pqZ⟩, ?_⟩
      refine WM_do0 rfl rfl rfl (D_store (vs := [_, _, _]) rfl Tryz.sizeOf254 rfl rfl rfl rfl rfl (plZ) (by exact Nat.le_of_ble_eq_true rfl)) ?_
      rintro _ _ rfl
      refine ⟨⟨_, pqZ⟩, ?_⟩
      refine WM_nil ?_
      refine WQ_code ?_
      refine WC_seq ?_
      refine WC_region ?_
      refine WL_val rfl rfl rfl (R_fieldAddr rfl fa254_1 rfl) ?_
      refine WL_val rfl rfl rfl (R_load rfl sc27 rfl (mmZ) rfl) ?_
      refine WL_val rfl rfl rfl (R_fieldAddr rfl fa254_1 rfl) ?_
      refine WL_do0 rfl rfl (D_store (vs := [_]) rfl Tryz.sizeOf27 rfl rfl rfl rfl rfl (plZ) (by exact Nat.le_of_ble_eq_true rfl)) ?_
      rintro _ _ rfl
      refine WL_nil ?_
      refine WQ_code ?_
      refine WC_drawR [⟨some mb, _⟩] [(0, true), (1, true), (2, true), (3, true), (4, true), (5, true), (6, true), (7, false)] followsMixed rfl rfl (by kernel_rfl) (pqZ) ?_
      refine WM_val rfl rfl rfl rfl (R_move rfl rfl) ?_
      refine WM_val rfl rfl rfl rfl (R_nilCheck rfl rfl) ?_
      refine WM_val rfl rfl rfl rfl (R_fieldAddr rfl fa252_1 rfl) ?_
      refine WM_val rfl rfl rfl rfl (R_load rfl sc248 rfl (mmZ) rfl) ?_
      refine WM_val rfl rfl rfl rfl (R_fieldAddr rfl fa254_2 rfl) ?_
      refine WM_val rfl rfl rfl rfl (R_load rfl sc27 rfl (mmZ) rfl) ?_
      refine WM_val rfl rfl rfl rfl (R_loadA (vs := [_, _, _]) rfl ag254 rfl (mmZ) rfl (atZ)) ?_
      refine WM_do0 rfl rfl rfl (D_mapSet (ek := ekQ) (ev := evQ) (k := hd 0 B) (a := ⟨w2, t, nq⟩) (v := (⟨w2, lst 0 [], nq⟩ : Nd)) rfl Tryz.underlying248 Tryz.underlying27 rfl rfl rfl (plZ) hM1 (List.mem_append_right _ hin2)) ?_
      rintro _ _ ⟨es3, mc3, hM3, rfl⟩
      refine ⟨⟨_, pqZ⟩, ?_⟩
      rw [setL_append, setL_head t (lst 0 []) 0 B w2 nq hB hqB.nodup hin2, setL_out (by rw [nds_keys]; exact out_left hq hB)] at hM3
      refine WM_nil ?_
      refine WQ_code ?_
      refine WC_seq ?_
      refine WC_region ?_
      refine WL_val rfl rfl rfl (R_fieldAddr rfl fa254_0 rfl) ?_
      refine WL_val rfl rfl rfl (R_load rfl sc3 rfl (mmZ) rfl) ?_
      refine WL_val rfl rfl rfl (R_assign rfl rfl) ?_
      refine WL_val rfl rfl rfl (R_assign rfl rfl) ?_
      refine WL_nil ?_
      refine WQ_code ?_
      refine WC_ret ?_
      refine WQ_ret rfl rfl (.cons (.tmp rfl) (.cons (.tmp rfl) .nil)) rfl (by
          exact ⟨_, mc3, hd 0 B, lst t B, rfl, rfl, rfl, (by rw [lst_append]; exact lst_ne hB), hM3⟩) (pqZ)
  · have hA : A ≠ [] := fun e => c1 (by rw [e]; rfl)
    obtain ⟨w1, bq, hin1⟩ := lst_in t A 0 hA
    refine WC_seq ?_
    refine WC_draw _ [(0, true), (1, true), (2, true), (3, true), (4, true), (5, true), (6, true), (7, false), (8, false)] followsMixed rfl rfl (by kernel_rfl) .all ?_
    refine WM_val rfl rfl rfl rfl (R_move rfl rfl) ?_
    refine WM_val rfl rfl rfl rfl (R_nilCheck rfl rfl) ?_
    refine WM_val rfl rfl rfl rfl (R_fieldAddr rfl fa252_1 rfl) ?_
    refine WM_val rfl rfl rfl rfl (R_load rfl sc248 rfl (mmZ) rfl) ?_
    refine WM_val rfl rfl rfl rfl (R_fieldAddr rfl fa254_1 rfl) ?_
    refine WM_val rfl rfl rfl rfl (R_load rfl sc27 rfl (mmZ) rfl) ?_
    refine WM_val rfl rfl rfl rfl (R_look (ek := ekQ) (ev := evQ) (k := lst 0 A) (a := ⟨w1, bq, t⟩) rfl Tryz.underlying248 Tryz.underlying27 rfl rfl (mmZ) hM1 (List.mem_append_left _ hin1)) ?_
    refine WM_do rfl rfl rfl rfl (D_alloc rfl zv254) ?_
    rintro _ _ ⟨b3, rfl, rfl⟩
    refine ⟨⟨_, pqZ⟩, ?_⟩
    refine WM_do0 rfl rfl rfl (D_store (vs := [_, _, _]) rfl Tryz.sizeOf254 rfl rfl rfl rfl rfl (plZ) (by exact Nat.le_of_ble_eq_true rfl)) ?_
    rintro _ _ rfl
    refine ⟨⟨_, pqZ⟩, ?_⟩
    refine WM_nil ?_
    refine WQ_code ?_
    refine WC_seq ?_
    refine WC_region ?_
    refine WL_val rfl rfl rfl (R_fieldAddr rfl fa254_2 rfl) ?_
    refine WL_val rfl rfl rfl (R_load rfl sc27 rfl (mmZ) rfl) ?_
    refine WL_val rfl rfl rfl (R_fieldAddr rfl fa254_2 rfl) ?_
    refine WL_do0 rfl rfl (D_store (vs := [_]) rfl Tryz.sizeOf27 rfl rfl rfl rfl rfl (plZ) (by exact Nat.le_of_ble_eq_true rfl)) ?_
    rintro _ _ rfl
    refine WL_nil ?_
    refine WQ_code ?_
    refine WC_drawR [⟨some mb, _⟩] [(0, true), (1, true), (2, true), (3, true), (4, true), (5, true), (6, true), (7, false)] followsMixed rfl rfl (by kernel_rfl) (pqZ) ?_
    refine WM_val rfl rfl rfl rfl (R_move rfl rfl) ?_
    refine WM_val rfl rfl rfl rfl (R_nilCheck rfl rfl) ?_
    refine WM_val rfl rfl rfl rfl (R_fieldAddr rfl fa252_1 rfl) ?_
    refine WM_val rfl rfl rfl rfl (R_load rfl sc248 rfl (mmZ) rfl) ?_
    refine WM_val rfl rfl rfl rfl (R_fieldAddr rfl fa254_1 rfl) ?_
    refine WM_val rfl rfl rfl rfl (R_load rfl sc27 rfl (mmZ) rfl) ?_
    refine WM_val rfl rfl rfl rfl (R_loadA (vs := [_, _, _]) rfl ag254 rfl (mmZ) rfl (atZ)) ?_
    refine WM_do0 rfl rfl rfl (D_mapSet (ek := ekQ) (ev := evQ) (k := lst 0 A) (a := ⟨w1, bq, t⟩) (v := (⟨w1, bq, hd 0 B⟩ : Nd)) rfl Tryz.underlying248 Tryz.underlying27 rfl rfl rfl (plZ) hM1 (List.mem_append_left _ hin1)) ?_
    rintro _ _ ⟨es2, mc2, hM2, rfl⟩
    refine ⟨⟨_, pqZ⟩, ?_⟩
    rw [setL_append, setL_last t (hd 0 B) A 0 w1 bq hA hqA.nodup hin1, setL_out (by rw [nds_keys]; exact out_right hq hA)] at hM2
    refine WM_nil ?_
    refine WQ_code ?_
    refine WC_seq ?_
    refine WC_seq ?_
    refine WC_region ?_
    refine WL_val rfl rfl rfl (R_fieldAddr rfl fa254_2 rfl) ?_
    refine WL_val rfl rfl rfl (R_load rfl sc27 rfl (mmZ) rfl) ?_
    refine WL_val rfl rfl rfl (R_eql rfl rfl rfl) ?_
    refine WL_nil ?_
    refine WQ_code ?_
    refine WC_dec rfl (fun c3 => ?_) (fun c3 => ?_)
    · have h8 : ((hd 0 B : Nat) : Int) = 0 := c3
      obtain rfl : B = [] := hqB.hd0.1 (by omega)
      refine WC_region ?_
      refine WL_val rfl rfl rfl (R_move rfl rfl) ?_
      refine WL_val rfl rfl rfl (R_fieldAddr rfl fa254_1 rfl) ?_
      refine WL_val rfl rfl rfl (R_load rfl sc27 rfl (mmZ) rfl) ?_
      refine WL_val rfl rfl rfl (R_nilCheck rfl rfl) ?_
      refine WL_val rfl rfl rfl (R_fieldAddr rfl fa252_0 rfl) ?_
      refine WL_val rfl rfl rfl (R_fieldAddr rfl fa250_1 rfl) ?_
      refine WL_do0 rfl rfl (D_store (vs := [_]) rfl Tryz.sizeOf27 rfl rfl rfl rfl rfl (plZ) (by exact Nat.le_of_ble_eq_true rfl)) ?_
      rintro _ _ rfl
      refine WL_nil ?_
      refine WQ_code ?_
      refine WC_seq ?_
      refine WC_region ?_
      refine WL_val rfl rfl rfl (R_fieldAddr rfl fa254_0 rfl) ?_
      refine WL_val rfl rfl rfl (R_load rfl sc3 rfl (mmZ) rfl) ?_
      refine WL_val rfl rfl rfl (R_assign rfl rfl) ?_
      refine WL_val rfl rfl rfl (R_assign rfl rfl) ?_
      refine WL_nil ?_
      refine WQ_code ?_
      refine WC_ret ?_
      refine WQ_ret rfl rfl (.cons (.tmp rfl) (.cons (.tmp rfl) .nil)) rfl (by
          exact ⟨_, mc2, hd t A, lst 0 A, rfl, rfl, (by rw [hd_append]; exact hd_ne hA), (by rw [List.append_nil]), hM2⟩) (pqZ)
    · have hB : B ≠ [] := fun e => c3 (by rw [e]; rfl)
      obtain ⟨w2, nq, hin2⟩ := hd_in 0 t B hB
      refine WC_seq ?_
      refine WC_draw _ [(0, true), (1, true), (2, true), (3, true), (4, true), (5, true), (6, true), (7, false), (8, false)] followsMixed rfl rfl (by kernel_rfl) .all ?_
      refine WM_val rfl rfl rfl rfl (R_move rfl rfl) ?_
      refine WM_val rfl rfl rfl rfl (R_nilCheck rfl rfl) ?_
      refine WM_val rfl rfl rfl rfl (R_fieldAddr rfl fa252_1 rfl) ?_
      refine WM_val rfl rfl rfl rfl (R_load rfl sc248 rfl (mmZ) rfl) ?_
      refine WM_val rfl rfl rfl rfl (R_fieldAddr rfl fa254_2 rfl) ?_
      refine WM_val rfl rfl rfl rfl (R_load rfl sc27 rfl (mmZ) rfl) ?_
      refine WM_val rfl rfl rfl rfl (R_look (ek := ekQ) (ev := evQ) (k := hd 0 B) (a := ⟨w2, t, nq⟩) rfl Tryz.underlying248 Tryz.underlying27 rfl rfl (mmZ) hM2 (List.mem_append_right _ hin2)) ?_
      refine WM_do rfl rfl rfl rfl (D_alloc rfl zv254) ?_
      rintro _ _ ⟨b4, rfl, rfl⟩
      refine ⟨⟨_, pqZ⟩, ?_⟩
      refine WM_do0 rfl rfl rfl (D_store (vs := [_, _, _]) rfl Tryz.sizeOf254 rfl rfl rfl rfl rfl (plZ) (by exact Nat.le_of_ble_eq_true rfl)) ?_
      rintro _ _ rfl
      refine ⟨⟨_, pqZ⟩, ?_⟩
      refine WM_nil ?_
      refine WQ_code ?_
      refine WC_seq ?_
      refine WC_region ?_
      refine WL_val rfl rfl rfl (R_fieldAddr rfl fa254_1 rfl) ?_
      refine WL_val rfl rfl rfl (R_load rfl sc27 rfl (mmZ) rfl) ?_
      refine WL_val rfl rfl rfl (R_fieldAddr rfl fa254_1 rfl) ?_
      refine WL_do0 rfl rfl (D_store (vs := [_]) rfl Tryz.sizeOf27 rfl rfl rfl rfl rfl (plZ) (by exact Nat.le_of_ble_eq_true rfl)) ?_
      rintro _ _ rfl
      refine WL_nil ?_
      refine WQ_code ?_
      refine WC_drawR [⟨some mb, _⟩] [(0, true), (1, true), (2, true), (3, true), (4, true), (5, true), (6, true), (7, false)] followsMixed rfl rfl (by kernel_rfl) (pqZ) ?_
      refine WM_val rfl rfl rfl rfl (R_move rfl rfl) ?_
      refine WM_val rfl rfl rfl rfl (R_nilCheck rfl rfl) ?_
      refine WM_val rfl rfl rfl rfl (R_fieldAddr rfl fa252_1 rfl) ?_
      refine WM_val rfl rfl rfl rfl (R_load rfl sc248 rfl (mmZ) rfl) ?_
      refine WM_val rfl rfl rfl rfl (R_fieldAddr rfl fa254_2 rfl) ?_
      refine WM_val rfl rfl rfl rfl (R_load rfl sc27 rfl (mmZ) rfl) ?_
      refine WM_val rfl rfl rfl rfl (R_loadA (vs := [_, _, _]) rfl ag254 rfl (mmZ) rfl (atZ)) ?_
      refine WM_do0 rfl rfl rfl (D_mapSet (ek := ekQ) (ev := evQ) (k := hd 0 B) (a := ⟨w2, t, nq⟩) (v := (⟨w2, lst 0 A, nq⟩ : Nd)) rfl Tryz.underlying248 Tryz.underlying27 rfl rfl rfl (plZ) hM2 (List.mem_append_right _ hin2)) ?_
      rintro _ _ ⟨es3, mc3, hM3, rfl⟩
      refine ⟨⟨_, pqZ⟩, ?_⟩
      rw [setL_append, setL_head t (lst 0 A) 0 B w2 nq hB hqB.nodup hin2, setL_out (by rw [nds_keys]; exact out_left hq hB)] at hM3
      refine WM_nil ?_
      refine WQ_code ?_
      refine WC_seq ?_
      refine WC_region ?_
      refine WL_val rfl rfl rfl (R_fieldAddr rfl fa254_0 rfl) ?_
      refine WL_val rfl rfl rfl (R_load rfl sc3 rfl (mmZ) rfl) ?_
      refine WL_val rfl rfl rfl (R_assign rfl rfl) ?_
      refine WL_val rfl rfl rfl (R_assign rfl rfl) ?_
      refine WL_nil ?_
      refine WQ_code ?_
      refine WC_ret ?_
      refine WQ_ret rfl rfl (.cons (.tmp rfl) (.cons (.tmp rfl) .nil)) rfl (by
          exact ⟨_, mc3, hd t A, lst t B, rfl, rfl, (by rw [hd_append]; exact hd_ne hA), (by rw [lst_append]; exact lst_ne hB), hM3⟩) (pqZ)
end Go.Proofs.YtbkdebnkoidicaaGreat
end
section
set_option linter.unusedVariables false
set_option maxRecDepth 20000
set_option maxHeartbeats 1000000
namespace Go.Proofs.YtbkdebnkoidicaaGreat
theorem qrem_ok (p mb : Nat) (A B : List (Nat × Int)) (t : Nat) (v : Int) (n : Nat) (es : Array MapEntry) (mc : Nat) (hq : Qk (A ++ (t, v) :: B) n) (hM : Mp (.int .u64) ekQ evQ es (nds 0 0 (A ++ (t, v) :: B))) : Spec Tryz.prog 160 [ptrQ p, .int .u64 (t : Int)] (qH p mb (A ++ (t, v) :: B) n es mc)
    (fun r H' => ∃ es' mc', r = .tuple #[.int .i64 v, .int .i64 0] ∧ H' = qH p mb (A ++ B) n es' mc' ∧ Mp (.int .u64) ekQ evQ es' (nds 0 0 (A ++ B))) := by
  have h := qrem_raw p mb A B t v n es mc hq hM
  have e1 : hd t A = hd 0 (A ++ (t, v) :: B) := by rw [hd_append]; rfl
  have e2 : lst t B = lst 0 (A ++ (t, v) :: B) := by rw [lst_append]; rfl
  rw [e1, e2] at h
  exact h.mono fun r H' ⟨es', mc', f, la, h1, h2, h3, h4, h5⟩ => by subst h3; subst h4; exact ⟨es', mc', h1, h2, by rw [nds_append]; exact h5⟩
theorem ext_clone : Extern.find Tryz.f205 = some Extern.MapsClone.clone := by kernel_rfl
theorem ext_clone_next : Extern.findNext Tryz.f205 = none := by kernel_rfl
theorem ext_clone_name : (Tryz.f205.name == "runtime.NumGoroutine") = false := by kernel_rfl
theorem mclone_ok (mb : Nat) (es : Array MapEntry) (mc : Nat) : Spec Tryz.prog 180 [.map (some mb)] [⟨some mb, .map es mc⟩] (fun r H' => ∃ m2, r = .map (some m2) ∧ H' = [⟨some m2, .map es mc⟩, ⟨some mb, .map es mc⟩]) := by
  refine Spec.of (E := [(0, .map (some mb))]) Tryz.func180 rfl (by kernel_rfl) Tryz.ntmps180 rfl rfl (fun w => ?_)
  refine WC_seq ?_
  refine WC_region ?_
  refine WL_val rfl rfl rfl (R_assign rfl rfl) ?_
  refine WL_nil ?_
  refine WQ_code ?_
  refine WC_seq ?_
  refine WC_seq ?_
  refine WC_region ?_
  refine WL_val rfl rfl rfl (R_move rfl rfl) ?_
  refine WL_val rfl rfl rfl (R_mapEqNil rfl Tryz.underlying248 rfl) ?_
  refine WL_set (s := 4) (v := .bool false) rfl (by rfl) ?_
  refine WL_nil ?_
  refine WQ_code ?_
  refine WC_F rfl ?_
  refine WC_skip ?_
  refine WQ_code ?_
  refine WC_seq ?_
  refine WC_region ?_
  refine WL_val rfl rfl rfl (R_move rfl rfl) ?_
  refine WL_val rfl rfl rfl (R_mkIface rfl Tryz.underlying248 (by intro ms e; cases e) rfl) ?_
  refine WL_do rfl rfl rfl (D_mapsClone Tryz.func205 ext_clone_name rfl ext_clone_next ext_clone rfl rfl (mmZ)) ?_
  rintro _ _ ⟨m2, rfl, rfl⟩
  refine WL_val rfl rfl rfl (R_assert rfl Tryz.underlying248 (by intro ms e; cases e) rfl) ?_
  refine WL_val rfl rfl rfl (R_assign rfl rfl) ?_
  refine WL_nil ?_
  refine WQ_code ?_
  refine WC_ret ?_
  refine WQ_ret rfl rfl (.cons (.tmp rfl) .nil) rfl (by
      exact ⟨m2, rfl, rfl⟩) (pqZ)
theorem qcopy_ok (p mb : Nat) (l : List (Nat × Int)) (n : Nat) (es : Array MapEntry) (mc : Nat) : Spec Tryz.prog 145 [ptrQ p] (qH p mb l n es mc) (fun r H' => ∃ p2 m2, r = ptrQ p2 ∧ H' = qH p2 m2 l n es mc ++ qH p mb l n es mc) := by
  refine Spec.of (E := [(0, ptrQ p)]) Tryz.func145 rfl (by kernel_rfl) Tryz.ntmps145 rfl rfl (fun w => ?_)
  refine WC_seq ?_
  refine WC_region ?_
  refine WL_val rfl rfl rfl (R_assign rfl rfl) ?_
  refine WL_nil ?_
  refine WQ_code ?_
  refine WC_seq ?_
  refine WC_seq ?_
  refine WC_region ?_
  refine WL_val rfl rfl rfl (R_move rfl rfl) ?_
  refine WL_do rfl rfl rfl (D_call (qzero_ok p mb _ _ _ es mc) rfl rfl rfl rfl (pqZ)) ?_
  rintro _ _ ⟨_, ⟨rfl, rfl⟩, rfl⟩
  refine WL_nil ?_
  refine WQ_code ?_
  refine WC_F rfl ?_
  refine WC_skip ?_
  refine WQ_code ?_
  refine WC_seq ?_
  refine WC_draw _ [(0, true), (1, true), (2, true), (3, true), (4, true), (5, true), (6, true), (7, true), (8, false), (9, true), (10, false), (11, true)] followsMixed rfl rfl (by kernel_rfl) .all ?_
  refine WM_val rfl rfl rfl rfl (R_move rfl rfl) ?_
  refine WM_val rfl rfl rfl rfl (R_nilCheck rfl rfl) ?_
  refine WM_val rfl rfl rfl rfl (R_fieldAddr rfl fa252_0 rfl) ?_
  refine WM_val rfl rfl rfl rfl (R_loadA (vs := [_, _, _]) rfl ag250 rfl (mmZ) rfl (atZ)) ?_
  refine WM_val rfl rfl rfl rfl (R_move rfl rfl) ?_
  refine WM_val rfl rfl rfl rfl (R_nilCheck rfl rfl) ?_
  refine WM_val rfl rfl rfl rfl (R_fieldAddr rfl fa252_1 rfl) ?_
  refine WM_val rfl rfl rfl rfl (R_load rfl sc248 rfl (mmZ) rfl) ?_
  refine WM_do rfl rfl rfl rfl (D_call (mclone_ok mb es mc) rfl rfl rfl rfl (pqZ)) ?_
  rintro _ _ ⟨_, ⟨m2, rfl, rfl⟩, rfl⟩
  refine ⟨⟨_, pqZ⟩, ?_⟩
  refine WM_val rfl rfl rfl rfl (R_build rfl zv252 pl252 rfl rfl) ?_
  refine WM_do rfl rfl rfl rfl (D_box (cs := [_, _, _, _]) rfl rfl rfl) ?_
  rintro _ _ ⟨b1, rfl, rfl⟩
  refine ⟨⟨_, pqZ⟩, ?_⟩
  refine WM_val rfl rfl rfl rfl (R_assign rfl rfl) ?_
  refine WM_nil ?_
  refine WQ_code ?_
  refine WC_ret ?_
  refine WQ_ret rfl rfl (.cons (.tmp rfl) .nil) rfl (by
      exact ⟨_, m2, rfl, rfl⟩) (pqZ)
theorem qcopy_nil : Spec Tryz.prog 145 [.pointer none] [] (fun r H' => r = .pointer none ∧ H' = []) := by
  refine Spec.of (E := [(0, .pointer none)]) Tryz.func145 rfl (by kernel_rfl) Tryz.ntmps145 rfl rfl (fun w => ?_)
  refine WC_seq ?_
  refine WC_region ?_
  refine WL_val rfl rfl rfl (R_assign rfl rfl) ?_
  refine WL_nil ?_
  refine WQ_code ?_
  refine WC_seq ?_
  refine WC_seq ?_
  refine WC_region ?_
  refine WL_val rfl rfl rfl (R_move rfl rfl) ?_
  refine WL_do rfl rfl rfl (D_call (qzero_nil) rfl rfl rfl rfl (pqZ)) ?_
  rintro _ _ ⟨_, ⟨rfl, rfl⟩, rfl⟩
  refine WL_nil ?_
  refine WQ_code ?_
  refine WC_T rfl ?_
  refine WC_seq ?_
  refine WC_region ?_
  refine WL_val rfl rfl rfl (R_assign rfl rfl) ?_
  refine WL_nil ?_
  refine WQ_code ?_
  refine WC_ret ?_
  refine WQ_ret rfl rfl (.cons (.tmp rfl) .nil) rfl (by
      exact ⟨rfl, rfl⟩) (pqZ)
theorem qall_ok (p mb : Nat) (l : List (Nat × Int)) (n : Nat) (es : Array MapEntry) (mc : Nat) : Spec Tryz.prog 159 [ptrQ p] (qH p mb l n es mc) (fun r H' => ∃ bc p2 m2, r = .func (.func 200) #[] #[ptrQ bc] ∧ H' = ⟨some bc, cl [ptrQ p2] 177⟩ :: (qH p2 m2 l n es mc ++ qH p mb l n es mc)) := by
  refine Spec.of (E := [(0, ptrQ p)]) Tryz.func159 rfl (by kernel_rfl) Tryz.ntmps159 rfl rfl (fun w => ?_)
  refine WC_seq ?_
  refine WC_region ?_
  refine WL_val rfl rfl rfl (R_assign rfl rfl) ?_
  refine WL_nil ?_
  refine WQ_code ?_
  refine WC_seq ?_
  refine WC_region ?_
  refine WL_val rfl rfl rfl (R_move rfl rfl) ?_
  refine WL_do rfl rfl rfl (D_call (qcopy_ok p mb l n es mc) rfl rfl rfl rfl (pqZ)) ?_
  rintro _ _ ⟨_, ⟨p2, m2, rfl, rfl⟩, rfl⟩
  refine WL_do rfl rfl rfl (D_alloc rfl zv177) ?_
  rintro _ _ ⟨b1, rfl, rfl⟩
  refine WL_do0 rfl rfl (D_store (vs := [_]) rfl Tryz.sizeOf177 rfl rfl rfl rfl rfl (plZ) (by exact Nat.le_of_ble_eq_true rfl)) ?_
  rintro _ _ rfl
  refine WL_nil ?_
  refine WQ_code ?_
  refine WC_seq ?_
  refine WC_region ?_
  refine WL_val rfl rfl rfl (R_makeFunc rfl rfl rfl) ?_
  refine WL_val rfl rfl rfl (R_assign rfl rfl) ?_
  refine WL_nil ?_
  refine WQ_code ?_
  refine WC_ret ?_
  refine WQ_ret rfl rfl (.cons (.tmp rfl) .nil) rfl (by
      exact ⟨_, p2, m2, rfl, rfl⟩) (pqZ)
theorem qall_nil : Spec Tryz.prog 159 [.pointer none] [] (fun r H' => ∃ bc, r = .func (.func 200) #[] #[ptrQ bc] ∧ H' = [⟨some bc, cl [.pointer none] 177⟩]) := by
  refine Spec.of (E := [(0, .pointer none)]) Tryz.func159 rfl (by kernel_rfl) Tryz.ntmps159 rfl rfl (fun w => ?_)
  refine WC_seq ?_
  refine WC_region ?_
  refine WL_val rfl rfl rfl (R_assign rfl rfl) ?_
  refine WL_nil ?_
  refine WQ_code ?_
  refine WC_seq ?_
  refine WC_region ?_
  refine WL_val rfl rfl rfl (R_move rfl rfl) ?_
  refine WL_do rfl rfl rfl (D_call (qcopy_nil) rfl rfl rfl rfl (pqZ)) ?_
  rintro _ _ ⟨_, ⟨rfl, rfl⟩, rfl⟩
  refine WL_do rfl rfl rfl (D_alloc rfl zv177) ?_
  rintro _ _ ⟨b1, rfl, rfl⟩
  refine WL_do0 rfl rfl (D_store (vs := [_]) rfl Tryz.sizeOf177 rfl rfl rfl rfl rfl (plZ) (by exact Nat.le_of_ble_eq_true rfl)) ?_
  rintro _ _ rfl
  refine WL_nil ?_
  refine WQ_code ?_
  refine WC_seq ?_
  refine WC_region ?_
  refine WL_val rfl rfl rfl (R_makeFunc rfl rfl rfl) ?_
  refine WL_val rfl rfl rfl (R_assign rfl rfl) ?_
  refine WL_nil ?_
  refine WQ_code ?_
  refine WC_ret ?_
  refine WQ_ret rfl rfl (.cons (.tmp rfl) .nil) rfl (by
      exact ⟨_, rfl, rfl⟩) (pqZ)
def encQ (x : Nat × Int) : List Value := [.int .u64 (x.1 : Int), .int .i64 x.2]
theorem qiter_none (bc : Nat) : IterSpec Tryz.prog 200 [ptrQ bc] [⟨some bc, cl [.pointer none] 177⟩] encQ [] := by
  intro lp J Jx hY hj h0
  refine Spec.of (E := [(0, yieldV lp), (1, ptrQ bc)]) Tryz.func200 rfl (by kernel_rfl) Tryz.ntmps200 rfl rfl (fun w => ?_)
  refine WC_seq ?_
  refine WC_seq ?_
  refine WC_region ?_
  refine WL_val rfl rfl rfl (R_load rfl sc177 rfl (mmZ) rfl) ?_
  refine WL_val rfl rfl rfl (R_ptrEqNil rfl Tryz.underlying177 rfl) ?_
  refine WL_nil ?_
  refine WQ_code ?_
  refine WC_T rfl ?_
  refine WC_ret ?_
  refine WQ_ret rfl rfl .nil rfl (by
      exact ⟨_, .inl h0, rfl⟩) (pqZ)
theorem qiter_ok (bc : Nat) (p mb : Nat) (l : List (Nat × Int)) (n : Nat) (es : Array MapEntry) (mc : Nat) (hq : Qk l n) (hM : Mp (.int .u64) ekQ evQ es (nds 0 0 l)) : IterSpec Tryz.prog 200 [ptrQ bc] (⟨some bc, cl [ptrQ p] 177⟩ :: qH p mb l n es mc) encQ l := by
  intro lp J Jx hY hj h0
  refine Spec.of (E := [(0, yieldV lp), (1, ptrQ bc)]) Tryz.func200 rfl (by kernel_rfl) Tryz.ntmps200 rfl rfl (fun w => ?_)
  refine WC_seq ?_
  refine WC_seq ?_
  refine WC_region ?_
  refine WL_val rfl rfl rfl (R_load rfl sc177 rfl (mmZ) rfl) ?_
  refine WL_val rfl rfl rfl (R_ptrEqNil rfl Tryz.underlying177 rfl) ?_
  refine WL_nil ?_
  refine WQ_code ?_
  refine WC_F rfl ?_
  refine WC_skip ?_
  refine WQ_code ?_
  refine WC_seq ?_
  refine WC_region ?_
  refine WL_val rfl rfl rfl (R_load rfl sc177 rfl (mmZ) rfl) ?_
  refine WL_val rfl rfl rfl (R_nilCheck rfl rfl) ?_
  refine WL_val rfl rfl rfl (R_fieldAddr rfl fa252_0 rfl) ?_
  refine WL_val rfl rfl rfl (R_fieldAddr rfl fa250_0 rfl) ?_
  refine WL_val rfl rfl rfl (R_load rfl sc27 rfl (mmZ) rfl) ?_
  refine WL_val rfl rfl rfl (R_assign rfl rfl) ?_
  refine WL_nil ?_
  refine WQ_code ?_
  refine WC_block ?_
  refine WC_loopH (G := List (Nat × Int) × List (Nat × Int) × Heap) [3, 11, 12, 13, 14, 15, 16, 17, 18, 19, 20, 21, 22, 23, 24, 25, 26, 27, 28, 29, 30] (fun g => l = g.1 ++ g.2.1 ∧ J g.1 g.2.2) (fun g => [(3, .int .u64 ((hd 0 g.2.1 : Nat) : Int))]) (fun g => ⟨some bc, cl [ptrQ p] 177⟩ :: (qH p mb l n es mc ++ g.2.2)) (fun g => g.2.1.length) (([], l, hj)) (⟨rfl, h0⟩) leZ (pqZ) ?_
  rintro g ⟨hl, hJ⟩
  obtain ⟨pre, r, hj⟩ := g
  simp only at hl hJ ⊢
  refine WC_seq ?_
  refine WC_seq ?_
  refine WC_region ?_
  refine WL_val rfl rfl rfl (R_move rfl rfl) ?_
  refine WL_val rfl rfl rfl (R_neq rfl rfl rfl) ?_
  refine WL_nil ?_
  refine WQ_code ?_
  refine WC_dec rfl (fun c1 => ?_) (fun c1 => ?_)
  · obtain ⟨⟨t, v⟩, r, rfl⟩ : ∃ x r2, r = x :: r2 := by cases r with | nil => exact absurd rfl c1 | cons x r2 => exact ⟨x, r2, rfl⟩
    have hin : (t, (⟨v, lst 0 pre, hd 0 r⟩ : Nd)) ∈ nds 0 0 l := by rw [hl, nds_append]; exact List.mem_append_right _ (List.mem_cons_self ..)
    refine WC_skip ?_
    refine WQ_code ?_
    refine WC_seq ?_
    refine WC_block ?_
    refine WC_seq ?_
    refine WC_region ?_
    refine WL_val rfl rfl rfl (R_move rfl rfl) ?_
    refine WL_val rfl rfl rfl (R_move rfl rfl) ?_
    refine WL_val rfl rfl rfl (R_load rfl sc177 rfl (mmZ) rfl) ?_
    refine WL_val rfl rfl rfl (R_nilCheck rfl rfl) ?_
    refine WL_val rfl rfl rfl (R_fieldAddr rfl fa252_1 rfl) ?_
    refine WL_val rfl rfl rfl (R_load rfl sc248 rfl (mmZ) rfl) ?_
    refine WL_val rfl rfl rfl (R_move rfl rfl) ?_
    refine WL_val rfl rfl rfl (R_look (ek := ekQ) (ev := evQ) (k := t) (a := ⟨v, lst 0 pre, hd 0 r⟩) rfl Tryz.underlying248 Tryz.underlying27 rfl rfl (mmZ) hM (hin)) ?_
    refine WL_val rfl rfl rfl (R_field rfl Tryz.underlying254 rfl rfl sc3 rfl rfl) ?_
    refine WL_do rfl rfl rfl (D_yield (F := [_, _, _]) (hY pre (t, v) r hj hl hJ) rfl rfl rfl rfl (List.Perm.refl _)) ?_
    rintro _ _ ⟨hj2, (⟨rfl, hJ2⟩ | ⟨rfl, hJ2⟩), rfl⟩
    · refine WL_val rfl rfl rfl (R_not rfl rfl) ?_
      refine WL_nil ?_
      refine WQ_code ?_
      refine WC_F rfl ?_
      refine WC_skip ?_
      refine WQ_code ?_
      refine WC_region ?_
      refine WL_val rfl rfl rfl (R_load rfl sc177 rfl (mmZ) rfl) ?_
      refine WL_val rfl rfl rfl (R_nilCheck rfl rfl) ?_
      refine WL_val rfl rfl rfl (R_fieldAddr rfl fa252_1 rfl) ?_
      refine WL_val rfl rfl rfl (R_load rfl sc248 rfl (mmZ) rfl) ?_
      refine WL_val rfl rfl rfl (R_move rfl rfl) ?_
      refine WL_val rfl rfl rfl (R_look (ek := ekQ) (ev := evQ) (k := t) (a := ⟨v, lst 0 pre, hd 0 r⟩) rfl Tryz.underlying248 Tryz.underlying27 rfl rfl (mmZ) hM (hin)) ?_
      refine WL_val rfl rfl rfl (R_field rfl Tryz.underlying254 rfl rfl sc27 rfl rfl) ?_
      refine WL_val rfl rfl rfl (R_assign rfl rfl) ?_
      refine WL_nil ?_
      refine WQ_nextH (gg := (pre, (t, v) :: r, hj)) ((pre ++ [(t, v)], r, hj2)) (⟨by (show l = (pre ++ [(t, v)]) ++ r); rw [hl, List.append_assoc]; rfl, hJ2⟩) (by (show r.length < r.length + 1); omega) leZ (psZ) rfl (pqZ)
    · refine WL_val rfl rfl rfl (R_not rfl rfl) ?_
      refine WL_nil ?_
      refine WQ_code ?_
      refine WC_T rfl ?_
      refine WC_ret ?_
      refine WQ_ret rfl rfl .nil rfl (by
          first | exact ⟨_, .inr ⟨_, hJ2⟩, rfl⟩ | (rw [hr, List.append_nil] at hl; rw [← hl] at hJ; exact ⟨_, .inl hJ, rfl⟩)) (pqZ)
  · have hr : r = [] := by cases r with | nil => rfl | cons x r2 => exact absurd (show ((hd 0 (x :: r2) : Nat) : Int) ≠ 0 from by have h8 := (hq.pos x (by rw [hl]; exact List.mem_append_right _ (List.mem_cons_self ..))).1; obtain ⟨x1, x2⟩ := x; (show ((x1 : Nat) : Int) ≠ 0); dsimp only at h8; omega) c1
    refine WC_exit ?_
    refine WQ_ret rfl rfl .nil rfl (by
        first | exact ⟨_, .inr ⟨_, hJ2⟩, rfl⟩ | (rw [hr, List.append_nil] at hl; rw [← hl] at hJ; exact ⟨_, .inl hJ, rfl⟩)) (pqZ)
end Go.Proofs.YtbkdebnkoidicaaGreat
end
section
set_option linter.unusedVariables false
set_option maxRecDepth 20000
set_option maxHeartbeats 1000000
namespace Go.Proofs.YtbkdebnkoidicaaGreat
def encE (x : Int × Nat) : List Value := [.int .i64 x.1, .int .u64 (x.2 : Int)]
theorem encE2 (x : Int × Nat) : (encE x).length = 2 := rfl
/-- A table of tasks in memory. -/
abbrev tR (p pe pq : Nat) (S : List (Int × Nat)) (c : Nat) (tl : List Value) : Heap := [⟨some p, cl [.slice (some ⟨pe, 0, none⟩) S.length c, ptrQ pq] 239⟩, ⟨some pe, cl (S.flatMap encE ++ tl) 269⟩]
abbrev tH (p pe pq pm : Nat) (S : List (Int × Nat)) (c : Nat) (tl : List Value) (Q : List (Nat × Int)) (n : Nat) (es : Array MapEntry) (mc : Nat) : Heap := tR p pe pq S c tl ++ qH pq pm Q n es mc
/-- States and run set fit. -/
structure Tk (S : List (Int × Nat)) (Q : List (Nat × Int)) (n : Nat) : Prop where
  len : 1 ≤ S.length ∧ S.length ≤ 64
  qk : Qk Q n
  ready : ∀ (i : Nat) (t : Nat), S[i]? = some (1, t) → (t, (i : Int)) ∈ Q
  back : ∀ t v, (t, v) ∈ Q → ∃ i : Nat, v = (i : Int) ∧ S[i]? = some (1, t)
  stt : ∀ (i : Nat) (x : Int) (t : Nat), S[i]? = some (x, t) → x = 0 ∨ x = 1 ∨ x = 2
abbrev OfP (k fr to : Int) : Prop := (k = 0 ∧ fr = 0 ∧ to = 1) ∨ (k = 1 ∧ fr = 1 ∧ to = 2) ∨ (k = 2 ∧ fr = 2 ∧ to = 1) ∨ (k = 3 ∧ fr = 1 ∧ to = 0) ∨ (k = 4 ∧ fr = 1 ∧ to = 1)
theorem of0 : Spec Tryz.prog 182 [.int .i64 0] [] (fun r H' => r = .agg #[.int .i64 0, .int .i64 1] ∧ H' = []) := by
  refine Spec.of (E := [(0, .int .i64 0)]) Tryz.func182 rfl (by kernel_rfl) Tryz.ntmps182 rfl rfl (fun w => ?_)
  refine WC_seq ?_
  refine WC_region ?_
  refine WL_do rfl rfl rfl (D_alloc rfl zv296) ?_
  rintro _ _ ⟨b1, rfl, rfl⟩
  refine WL_nil ?_
  refine WQ_code ?_
  refine WC_seq ?_
  refine WC_region ?_
  refine WL_val rfl rfl rfl (R_build rfl zv296 pl296 rfl rfl) ?_
  refine WL_val rfl rfl rfl (R_build rfl zv296 pl296 rfl rfl) ?_
  refine WL_val rfl rfl rfl (R_build rfl zv296 pl296 rfl rfl) ?_
  refine WL_val rfl rfl rfl (R_build rfl zv296 pl296 rfl rfl) ?_
  refine WL_val rfl rfl rfl (R_build rfl zv296 pl296 rfl rfl) ?_
  refine WL_val rfl rfl rfl (R_buildArr rfl Tryz.underlying321 Tryz.sizeOf296 zv321 rfl rfl) ?_
  refine WL_val rfl rfl rfl (R_move rfl rfl) ?_
  refine WL_val rfl rfl rfl (R_indexArrA (vs := [_, _]) rfl Tryz.underlying321 ag296 rfl rfl (by decide) rfl (atZ)) ?_
  refine WL_do0 rfl rfl (D_store (vs := [_, _]) rfl Tryz.sizeOf296 rfl rfl rfl rfl rfl (plZ) (by exact Nat.le_of_ble_eq_true rfl)) ?_
  rintro _ _ rfl
  refine WL_nil ?_
  refine WQ_code ?_
  refine WC_ret ?_
  refine WQ_ret rfl rfl (.cons (.cell (vs := [_, _]) rfl ag296 (mmZ) rfl (atZ)) .nil) rfl (by
      exact ⟨rfl, rfl⟩) (pqZ)
theorem of1 : Spec Tryz.prog 182 [.int .i64 1] [] (fun r H' => r = .agg #[.int .i64 1, .int .i64 2] ∧ H' = []) := by
  refine Spec.of (E := [(0, .int .i64 1)]) Tryz.func182 rfl (by kernel_rfl) Tryz.ntmps182 rfl rfl (fun w => ?_)
  refine WC_seq ?_
  refine WC_region ?_
  refine WL_do rfl rfl rfl (D_alloc rfl zv296) ?_
  rintro _ _ ⟨b1, rfl, rfl⟩
  refine WL_nil ?_
  refine WQ_code ?_
  refine WC_seq ?_
  refine WC_region ?_
  refine WL_val rfl rfl rfl (R_build rfl zv296 pl296 rfl rfl) ?_
  refine WL_val rfl rfl rfl (R_build rfl zv296 pl296 rfl rfl) ?_
  refine WL_val rfl rfl rfl (R_build rfl zv296 pl296 rfl rfl) ?_
  refine WL_val rfl rfl rfl (R_build rfl zv296 pl296 rfl rfl) ?_
  refine WL_val rfl rfl rfl (R_build rfl zv296 pl296 rfl rfl) ?_
  refine WL_val rfl rfl rfl (R_buildArr rfl Tryz.underlying321 Tryz.sizeOf296 zv321 rfl rfl) ?_
  refine WL_val rfl rfl rfl (R_move rfl rfl) ?_
  refine WL_val rfl rfl rfl (R_indexArrA (vs := [_, _]) rfl Tryz.underlying321 ag296 rfl rfl (by decide) rfl (atZ)) ?_
  refine WL_do0 rfl rfl (D_store (vs := [_, _]) rfl Tryz.sizeOf296 rfl rfl rfl rfl rfl (plZ) (by exact Nat.le_of_ble_eq_true rfl)) ?_
  rintro _ _ rfl
  refine WL_nil ?_
  refine WQ_code ?_
  refine WC_ret ?_
  refine WQ_ret rfl rfl (.cons (.cell (vs := [_, _]) rfl ag296 (mmZ) rfl (atZ)) .nil) rfl (by
      exact ⟨rfl, rfl⟩) (pqZ)
theorem of2 : Spec Tryz.prog 182 [.int .i64 2] [] (fun r H' => r = .agg #[.int .i64 2, .int .i64 1] ∧ H' = []) := by
  refine Spec.of (E := [(0, .int .i64 2)]) Tryz.func182 rfl (by kernel_rfl) Tryz.ntmps182 rfl rfl (fun w => ?_)
  refine WC_seq ?_
  refine WC_region ?_
  refine WL_do rfl rfl rfl (D_alloc rfl zv296) ?_
  rintro _ _ ⟨b1, rfl, rfl⟩
  refine WL_nil ?_
  refine WQ_code ?_
  refine WC_seq ?_
  refine WC_region ?_
  refine WL_val rfl rfl rfl (R_build rfl zv296 pl296 rfl rfl) ?_
  refine WL_val rfl rfl rfl (R_build rfl zv296 pl296 rfl rfl) ?_
  refine WL_val rfl rfl rfl (R_build rfl zv296 pl296 rfl rfl) ?_
  refine WL_val rfl rfl rfl (R_build rfl zv296 pl296 rfl rfl) ?_
  refine WL_val rfl rfl rfl (R_build rfl zv296 pl296 rfl rfl) ?_
  refine WL_val rfl rfl rfl (R_buildArr rfl Tryz.underlying321 Tryz.sizeOf296 zv321 rfl rfl) ?_
  refine WL_val rfl rfl rfl (R_move rfl rfl) ?_
  refine WL_val rfl rfl rfl (R_indexArrA (vs := [_, _]) rfl Tryz.underlying321 ag296 rfl rfl (by decide) rfl (atZ)) ?_
  refine WL_do0 rfl rfl (D_store (vs := [_, _]) rfl Tryz.sizeOf296 rfl rfl rfl rfl rfl (plZ) (by exact Nat.le_of_ble_eq_true rfl)) ?_
  rintro _ _ rfl
  refine WL_nil ?_
  refine WQ_code ?_
  refine WC_ret ?_
  refine WQ_ret rfl rfl (.cons (.cell (vs := [_, _]) rfl ag296 (mmZ) rfl (atZ)) .nil) rfl (by
      exact ⟨rfl, rfl⟩) (pqZ)
theorem of3 : Spec Tryz.prog 182 [.int .i64 3] [] (fun r H' => r = .agg #[.int .i64 1, .int .i64 0] ∧ H' = []) := by
  refine Spec.of (E := [(0, .int .i64 3)]) Tryz.func182 rfl (by kernel_rfl) Tryz.ntmps182 rfl rfl (fun w => ?_)
  refine WC_seq ?_
  refine WC_region ?_
  refine WL_do rfl rfl rfl (D_alloc rfl zv296) ?_
  rintro _ _ ⟨b1, rfl, rfl⟩
  refine WL_nil ?_
  refine WQ_code ?_
  refine WC_seq ?_
  refine WC_region ?_
  refine WL_val rfl rfl rfl (R_build rfl zv296 pl296 rfl rfl) ?_
  refine WL_val rfl rfl rfl (R_build rfl zv296 pl296 rfl rfl) ?_
  refine WL_val rfl rfl rfl (R_build rfl zv296 pl296 rfl rfl) ?_
  refine WL_val rfl rfl rfl (R_build rfl zv296 pl296 rfl rfl) ?_
  refine WL_val rfl rfl rfl (R_build rfl zv296 pl296 rfl rfl) ?_
  refine WL_val rfl rfl rfl (R_buildArr rfl Tryz.underlying321 Tryz.sizeOf296 zv321 rfl rfl) ?_
  refine WL_val rfl rfl rfl (R_move rfl rfl) ?_
  refine WL_val rfl rfl rfl (R_indexArrA (vs := [_, _]) rfl Tryz.underlying321 ag296 rfl rfl (by decide) rfl (atZ)) ?_
  refine WL_do0 rfl rfl (D_store (vs := [_, _]) rfl Tryz.sizeOf296 rfl rfl rfl rfl rfl (plZ) (by exact Nat.le_of_ble_eq_true rfl)) ?_
  rintro _ _ rfl
  refine WL_nil ?_
  refine WQ_code ?_
  refine WC_ret ?_
  refine WQ_ret rfl rfl (.cons (.cell (vs := [_, _]) rfl ag296 (mmZ) rfl (atZ)) .nil) rfl (by
      exact ⟨rfl, rfl⟩) (pqZ)
theorem of4 : Spec Tryz.prog 182 [.int .i64 4] [] (fun r H' => r = .agg #[.int .i64 1, .int .i64 1] ∧ H' = []) := by
  refine Spec.of (E := [(0, .int .i64 4)]) Tryz.func182 rfl (by kernel_rfl) Tryz.ntmps182 rfl rfl (fun w => ?_)
  refine WC_seq ?_
  refine WC_region ?_
  refine WL_do rfl rfl rfl (D_alloc rfl zv296) ?_
  rintro _ _ ⟨b1, rfl, rfl⟩
  refine WL_nil ?_
  refine WQ_code ?_
  refine WC_seq ?_
  refine WC_region ?_
  refine WL_val rfl rfl rfl (R_build rfl zv296 pl296 rfl rfl) ?_
  refine WL_val rfl rfl rfl (R_build rfl zv296 pl296 rfl rfl) ?_
  refine WL_val rfl rfl rfl (R_build rfl zv296 pl296 rfl rfl) ?_
  refine WL_val rfl rfl rfl (R_build rfl zv296 pl296 rfl rfl) ?_
  refine WL_val rfl rfl rfl (R_build rfl zv296 pl296 rfl rfl) ?_
  refine WL_val rfl rfl rfl (R_buildArr rfl Tryz.underlying321 Tryz.sizeOf296 zv321 rfl rfl) ?_
  refine WL_val rfl rfl rfl (R_move rfl rfl) ?_
  refine WL_val rfl rfl rfl (R_indexArrA (vs := [_, _]) rfl Tryz.underlying321 ag296 rfl rfl (by decide) rfl (atZ)) ?_
  refine WL_do0 rfl rfl (D_store (vs := [_, _]) rfl Tryz.sizeOf296 rfl rfl rfl rfl rfl (plZ) (by exact Nat.le_of_ble_eq_true rfl)) ?_
  rintro _ _ rfl
  refine WL_nil ?_
  refine WQ_code ?_
  refine WC_ret ?_
  refine WQ_ret rfl rfl (.cons (.cell (vs := [_, _]) rfl ag296 (mmZ) rfl (atZ)) .nil) rfl (by
      exact ⟨rfl, rfl⟩) (pqZ)
theorem of_ok {k fr to : Int} (h : OfP k fr to) : Spec Tryz.prog 182 [.int .i64 k] [] (fun r H' => r = .agg #[.int .i64 fr, .int .i64 to] ∧ H' = []) := by
  rcases h with ⟨rfl, rfl, rfl⟩ | ⟨rfl, rfl, rfl⟩ | ⟨rfl, rfl, rfl⟩ | ⟨rfl, rfl, rfl⟩ | ⟨rfl, rfl, rfl⟩
  · exact of0
  · exact of1
  · exact of2
  · exact of3
  · exact of4
theorem check_ok (p pe pq : Nat) (S : List (Int × Nat)) (c : Nat) (tl : List Value) (i : Int) : Spec Tryz.prog 162 [ptrQ p, .int .i64 i] (tR p pe pq S c tl) (fun r H' => r = .int .i64 (if i < 0 ∨ (S.length : Int) ≤ i then 2 else 0) ∧ H' = tR p pe pq S c tl) := by
  refine Spec.of (E := [(0, ptrQ p), (1, .int .i64 i)]) Tryz.func162 rfl (by kernel_rfl) Tryz.ntmps162 rfl rfl (fun w => ?_)
  refine WC_seq ?_
  refine WC_region ?_
  refine WL_val rfl rfl rfl (R_assign rfl rfl) ?_
  refine WL_nil ?_
  refine WQ_code ?_
  refine WC_seq ?_
  refine WC_block ?_
  refine WC_seq ?_
  refine WC_region ?_
  refine WL_val rfl rfl rfl (R_move rfl rfl) ?_
  refine WL_val rfl rfl rfl (R_ptrEqNil rfl Tryz.underlying148 rfl) ?_
  refine WL_val rfl rfl rfl (R_move rfl rfl) ?_
  refine WL_val rfl rfl rfl (R_move rfl rfl) ?_
  refine WL_val rfl rfl rfl (R_nilCheck rfl rfl) ?_
  refine WL_val rfl rfl rfl (R_fieldAddr rfl fa239_1 rfl) ?_
  refine WL_val rfl rfl rfl (R_load rfl sc177 rfl (mmZ) rfl) ?_
  refine WL_val rfl rfl rfl (R_ptrEqNil rfl Tryz.underlying177 rfl) ?_
  refine WL_val rfl rfl rfl (R_pickF rfl rfl rfl) ?_
  refine WL_val rfl rfl rfl (R_assign rfl rfl) ?_
  refine WL_nil ?_
  refine WQ_code ?_
  refine WC_F rfl ?_
  refine WC_seq ?_
  refine WC_region ?_
  refine WL_val rfl rfl rfl (R_move rfl rfl) ?_
  refine WL_val rfl rfl rfl (R_lss rfl rfl rfl) ?_
  refine WL_val rfl rfl rfl (R_move rfl rfl) ?_
  refine WL_splitD (s := 18) rfl (fun c1 => ?_) (fun c1 => ?_)
  · refine WL_skip rfl rfl rfl ?_
    refine WL_skip rfl rfl rfl ?_
    refine WL_skip rfl rfl rfl ?_
    refine WL_skip rfl rfl rfl ?_
    refine WL_skip rfl rfl rfl ?_
    refine WL_skip rfl rfl rfl ?_
    refine WL_skip rfl rfl rfl ?_
    refine WL_val rfl rfl rfl (R_pickT rfl rfl rfl) ?_
    refine WL_val rfl rfl rfl (R_assign rfl rfl) ?_
    refine WL_nil ?_
    refine WQ_code ?_
    refine WC_T rfl ?_
    refine WC_seq ?_
    refine WC_region ?_
    refine WL_val rfl rfl rfl (R_assign rfl rfl) ?_
    refine WL_nil ?_
    refine WQ_code ?_
    refine WC_ret ?_
    refine WQ_ret rfl rfl (.cons (.tmp rfl) .nil) rfl (by
        exact ⟨congrArg (Value.int .i64) (by split <;> omega), rfl⟩) (pqZ)
  · refine WL_val rfl rfl rfl (R_move rfl rfl) ?_
    refine WL_val rfl rfl rfl (R_move rfl rfl) ?_
    refine WL_val rfl rfl rfl (R_nilCheck rfl rfl) ?_
    refine WL_val rfl rfl rfl (R_fieldAddr rfl fa239_0 rfl) ?_
    refine WL_val rfl rfl rfl (R_load rfl sc237 rfl (mmZ) rfl) ?_
    refine WL_val rfl rfl rfl (R_len rfl Tryz.underlying237 rfl) ?_
    refine WL_val rfl rfl rfl (R_geq rfl rfl rfl) ?_
    refine WL_val rfl rfl rfl (R_pickF rfl rfl rfl) ?_
    refine WL_val rfl rfl rfl (R_assign rfl rfl) ?_
    refine WL_nil ?_
    refine WQ_code ?_
    refine WC_dec rfl (fun c2 => ?_) (fun c2 => ?_)
    · refine WC_seq ?_
      refine WC_region ?_
      refine WL_val rfl rfl rfl (R_assign rfl rfl) ?_
      refine WL_nil ?_
      refine WQ_code ?_
      refine WC_ret ?_
      refine WQ_ret rfl rfl (.cons (.tmp rfl) .nil) rfl (by
          exact ⟨congrArg (Value.int .i64) (by split <;> omega), rfl⟩) (pqZ)
    · refine WC_skip ?_
      refine WQ_code ?_
      refine WC_seq ?_
      refine WC_region ?_
      refine WL_val rfl rfl rfl (R_assign rfl rfl) ?_
      refine WL_nil ?_
      refine WQ_code ?_
      refine WC_ret ?_
      refine WQ_ret rfl rfl (.cons (.tmp rfl) .nil) rfl (by
          exact ⟨congrArg (Value.int .i64) (by split <;> omega), rfl⟩) (pqZ)
def idle (m : Nat) : List (Int × Nat) := List.replicate m (0, 0)
theorem tnew_ok (m : Nat) (h1 : 1 ≤ m) (h2 : m ≤ 64) : Spec Tryz.prog 84 [.int .i64 (m : Int)] [] (fun r H' => ∃ p pe pq pm, r = .tuple #[ptrQ p, .int .i64 0] ∧ H' = tH p pe pq pm (idle m) m [] [] 0 #[] 0) := by
  refine Spec.of (E := [(0, .int .i64 (m : Int))]) Tryz.func84 rfl (by kernel_rfl) Tryz.ntmps84 rfl rfl (fun w => ?_)
  refine WC_seq ?_
  refine WC_region ?_
  refine WL_val rfl rfl rfl (R_assign rfl rfl) ?_
  refine WL_val rfl rfl rfl (R_assign rfl rfl) ?_
  refine WL_nil ?_
  refine WQ_code ?_
  refine WC_seq ?_
  refine WC_seq ?_
  refine WC_region ?_
  refine WL_val rfl rfl rfl (R_move rfl rfl) ?_
  refine WL_val rfl rfl rfl (R_lss rfl rfl rfl) ?_
  refine WL_val rfl rfl rfl (R_move rfl rfl) ?_
  refine WL_set (s := 6) (v := .bool false) rfl (by simp; omega) ?_
  refine WL_val rfl rfl rfl (R_move rfl rfl) ?_
  refine WL_val rfl rfl rfl (R_gtr rfl rfl rfl) ?_
  refine WL_val rfl rfl rfl (R_pickF rfl rfl rfl) ?_
  refine WL_nil ?_
  refine WQ_code ?_
  refine WC_dF rfl (by omega) ?_
  refine WC_skip ?_
  refine WQ_code ?_
  refine WC_seq ?_
  refine WC_drawB _ [(0, .q), (2, .n [1]), (1, .b []), (3, .q), (4, .b []), (5, .q), (6, .q)] followsMixed rfl rfl (by kernel_rfl) .all ?_
  refine WB_val rfl rfl rfl rfl (R_move rfl rfl) ?_
  refine WB_do rfl rfl rfl rfl (.cons rfl rfl (B_make (n := m) rfl si237 rfl rfl (by omega) (by omega)) .nil) (fun _ => D_call (qnew_ok) rfl rfl rfl rfl (pqZ)) ?_
  rintro _ _ ⟨_, ⟨pq, pm, rfl, rfl⟩, rfl⟩
  refine ⟨⟨_, pqZ⟩, ?_⟩
  refine WB_birth rfl rfl rfl rfl .nil (B_make (n := m) rfl si237 rfl rfl (by omega) (by omega)) (fun b1 => ?_)
  rw [show (List.replicate m [Value.int .i64 0, .int .u64 0]).flatten = (idle m).flatMap encE ++ [] from by rw [List.append_nil, idle, ← fm_rep]; rfl, show Value.slice (some ⟨b1, 0, none⟩) m m = Value.slice (some ⟨b1, 0, none⟩) (idle m).length m from by rw [idle, List.length_replicate]]
  refine WB_val rfl rfl rfl rfl (R_build rfl zv239 pl239 rfl rfl) ?_
  refine WB_birth rfl rfl rfl rfl .nil (B_box (cs := [_, _]) rfl rfl rfl) (fun b2 => ?_)
  refine WB_val rfl rfl rfl rfl (R_assign rfl rfl) ?_
  refine WB_val rfl rfl rfl rfl (R_assign rfl rfl) ?_
  refine WB_nil ?_
  refine WQ_code ?_
  refine WC_ret ?_
  refine WQ_ret rfl rfl (.cons (.tmp rfl) (.cons (.tmp rfl) .nil)) rfl (by
      exact ⟨_, b1, pq, pm, rfl, rfl⟩) (pqZ)
theorem tk_idle {m : Nat} (h1 : 1 ≤ m) (h2 : m ≤ 64) : Tk (idle m) [] 0 := by
  refine ⟨by simp [idle]; omega, Qk.empty 0, fun i t h => ?_, fun t v h => (by cases h), fun i x t h => ?_⟩
  · have := (List.mem_replicate.1 (List.mem_of_getElem? h)).2
    cases this
  · have := (List.mem_replicate.1 (List.mem_of_getElem? h)).2
    cases this; exact .inl rfl
end Go.Proofs.YtbkdebnkoidicaaGreat
end
section
set_option linter.unusedVariables false
set_option maxRecDepth 20000
namespace Go.Proofs.YtbkdebnkoidicaaGreat
theorem Tk.room {S : List (Int × Nat)} {Q : List (Nat × Int)} {n : Nat} (h : Tk S Q n) : Q.length ≤ 64 := by
  have h1 : (Q.map fun x => x.2.toNat).Nodup := by
    rw [List.Nodup, List.pairwise_map]
    refine (List.Pairwise.and_mem.1 h.qk.ord).imp fun {a b} ⟨ha, hb, hlt⟩ e => ?_
    obtain ⟨i, hi, h1⟩ := h.back a.1 a.2 ha
    obtain ⟨j, hj, h2⟩ := h.back b.1 b.2 hb
    have : i = j := by rw [hi, hj] at e; simpa using e
    subst this
    rw [h1] at h2
    simp only [Option.some.injEq, Prod.mk.injEq, true_and] at h2
    omega
  have h2 := pigeon _ (List.range S.length) h1 (fun k hk => by
    obtain ⟨x, hx, rfl⟩ := List.mem_map.1 hk
    obtain ⟨i, hi, h1⟩ := h.back x.1 x.2 hx
    rw [hi, Int.toNat_natCast]
    exact List.mem_range.2 (List.getElem?_eq_some_iff.1 h1).1)
  rw [List.length_map, List.length_range] at h2
  have := h.len.2
  omega
theorem Tk.only {S : List (Int × Nat)} {A B : List (Nat × Int)} {n t i : Nat} (h : Tk S (A ++ (t, (i : Int)) :: B) n) : ∀ x ∈ A ++ B, x.2 ≠ (i : Int) := fun x hx e => by
  obtain ⟨i', hi', h1⟩ := h.back t i (List.mem_append_right _ (List.mem_cons_self ..))
  obtain rfl : i = i' := by omega
  have hx' : x ∈ A ++ (t, (i : Int)) :: B := by
    rcases List.mem_append.1 hx with hx | hx
    · exact List.mem_append_left _ hx
    · exact List.mem_append_right _ (List.mem_cons_of_mem _ hx)
  obtain ⟨j, hj, h2⟩ := h.back x.1 x.2 hx'
  have : j = i := by rw [hj] at e; omega
  subst this
  rw [h1] at h2
  simp only [Option.some.injEq, Prod.mk.injEq, true_and] at h2
  have hn := h.qk.nodup
  have hp := ((List.perm_middle (l₁ := A) (a := (t, (j : Int))) (l₂ := B)).map (fun x : Nat × Int => x.1)).nodup_iff.1 hn
  rw [List.map_cons, List.nodup_cons] at hp
  exact hp.1 (List.mem_map.2 ⟨x, hx, h2.symm⟩)
theorem tk_leave {S : List (Int × Nat)} {A B : List (Nat × Int)} {n t i : Nat} {to : Int} (h : Tk S (A ++ (t, (i : Int)) :: B) n) (hto : to = 0 ∨ to = 2) (u : Nat) : Tk (S.set i (to, u)) (A ++ B) n := by
  have hin : ∀ x ∈ A ++ B, x ∈ A ++ (t, (i : Int)) :: B := fun x hx => by
    rcases List.mem_append.1 hx with hx | hx
    · exact List.mem_append_left _ hx
    · exact List.mem_append_right _ (List.mem_cons_of_mem _ hx)
  refine ⟨by rw [List.length_set]; exact h.len, h.qk.rem, fun j t' hj => ?_, fun t' v hv => ?_, fun j x t' hj => ?_⟩
  · rw [List.getElem?_set] at hj
    split at hj
    · rename_i e
      split at hj
      · simp only [Option.some.injEq, Prod.mk.injEq] at hj; omega
      · cases hj
    · rename_i e
      have h1 := h.ready j t' hj
      rcases List.mem_append.1 h1 with h1 | h1
      · exact List.mem_append_left _ h1
      · rcases List.mem_cons.1 h1 with h1 | h1
        · simp only [Prod.mk.injEq] at h1; omega
        · exact List.mem_append_right _ h1
  · obtain ⟨j, hj, h1⟩ := h.back t' v (hin _ hv)
    have hne := h.only _ hv
    refine ⟨j, hj, ?_⟩
    rw [List.getElem?_set, if_neg (fun e => hne (by rw [hj, e]))]
    exact h1
  · rw [List.getElem?_set] at hj
    split at hj
    · split at hj
      · simp only [Option.some.injEq, Prod.mk.injEq] at hj; omega
      · cases hj
    · exact h.stt j x t' hj
theorem tk_enter {S : List (Int × Nat)} {Q : List (Nat × Int)} {n i : Nat} {x : Int} {t : Nat} (h : Tk S Q n) (hi : S[i]? = some (x, t)) (hx : x ≠ 1) : Tk (S.set i (1, n + 1)) (Q ++ [(n + 1, (i : Int))]) (n + 1) := by
  have hlt := (List.getElem?_eq_some_iff.1 hi).1
  refine ⟨by rw [List.length_set]; exact h.len, h.qk.push _, fun j t' hj => ?_, fun t' v hv => ?_, fun j y t' hj => ?_⟩
  · rw [List.getElem?_set] at hj
    split at hj
    · rename_i e
      subst e
      simp only [Option.some.injEq, Prod.mk.injEq, true_and] at hj
      subst hj
      exact List.mem_append_right _ (List.mem_cons_self ..)
    · exact List.mem_append_left _ (h.ready j t' hj)
  · rcases List.mem_append.1 hv with hv | hv
    · obtain ⟨j, hj, h1⟩ := h.back t' v hv
      refine ⟨j, hj, ?_⟩
      rw [List.getElem?_set, if_neg (fun e => ?_)]
      · exact h1
      · subst e
        rw [hi] at h1
        simp only [Option.some.injEq, Prod.mk.injEq] at h1
        exact hx h1.1
    · rw [List.mem_singleton] at hv
      simp only [Prod.mk.injEq] at hv
      obtain ⟨rfl, rfl⟩ := hv
      exact ⟨i, rfl, by rw [List.getElem?_set, if_pos rfl, if_pos hlt]⟩
  · rw [List.getElem?_set] at hj
    split at hj
    · simp only [Option.some.injEq, Prod.mk.injEq] at hj; omega
    · exact h.stt j y t' hj
theorem vals_rem {S : List (Int × Nat)} {A B : List (Nat × Int)} {n t i : Nat} (h : Tk S (A ++ (t, (i : Int)) :: B) n) : ((A ++ (t, (i : Int)) :: B).map (·.2)).filter (fun v => decide (v ≠ (i : Int))) = (A ++ B).map (·.2) := by
  rw [List.map_append, List.map_cons, List.filter_append, List.filter_cons_of_neg (by simp), ← List.filter_append, ← List.map_append]
  exact List.filter_eq_self.2 fun v hv => by
    obtain ⟨x, hx, rfl⟩ := List.mem_map.1 hv
    simpa using h.only x hx
theorem vals_same {S : List (Int × Nat)} {Q : List (Nat × Int)} {n i : Nat} {x : Int} {t : Nat} (h : Tk S Q n) (hi : S[i]? = some (x, t)) (hx : x ≠ 1) : (Q.map (·.2)).filter (fun v => decide (v ≠ (i : Int))) = Q.map (·.2) :=
  List.filter_eq_self.2 fun v hv => by
    obtain ⟨y, hy, rfl⟩ := List.mem_map.1 hv
    obtain ⟨j, hj, h1⟩ := h.back y.1 y.2 hy
    simp only [decide_eq_true_eq]
    intro e
    have : j = i := by rw [hj] at e; omega
    subst this
    rw [hi] at h1
    simp only [Option.some.injEq, Prod.mk.injEq] at h1
    exact hx h1.1
/-- What a call does to states and run set. -/
def DoQ (S : List (Int × Nat)) (Q : List (Nat × Int)) (n : Nat) (fr to task e : Int) (S' : List (Int × Nat)) (Q' : List (Nat × Int)) (n' : Nat) : Prop :=
  n' ≤ n + 1 ∧ S'.length = S.length ∧ Tk S' Q' n' ∧
  (((task < 0 ∨ (S.length : Int) ≤ task) ∧ e = 2 ∧ S' = S ∧ Q' = Q) ∨
   ∃ (i : Nat) (x : Int) (t : Nat), task = (i : Int) ∧ S[i]? = some (x, t) ∧ ((x ≠ fr ∧ e = 8 ∧ S' = S ∧ Q' = Q) ∨
     (x = fr ∧ e = 0 ∧ S'.map (·.1) = (S.map (·.1)).set i to ∧ Q'.map (·.2) = (Q.map (·.2)).filter (fun v => decide (v ≠ (i : Int))) ++ (if to = 1 then [(i : Int)] else []))))
end Go.Proofs.YtbkdebnkoidicaaGreat
end

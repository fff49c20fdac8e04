/-
  Deferred closures, panics and recover: functions that defer one closure; calls that panic.
-/
import Derived.Test.YtkcfgglmlogjbaaGreatY00
import Derived.Laws.IdiomRangeMap
import Derived.Laws.Strings
import Derived.Laws.StructEq
import Derived.ArgAppend
import Derived.Lib.ConvBytes
import Derived.Lib.MakeNoZero
import Derived.Laws.BytesArg
import Derived.Test.YtkcfgglmlogjbaaGreatRows
import Derived.RecoverIn
section
set_option linter.unusedSectionVars false
namespace Go.Proofs.YtkcfgglmlogjbaaGreat
open Go.RowKit (Below)
section
variable (X : Ctx) (ops : Array Oper) (p : Post) (C : World → Prop) (N : List Nat)
def AnyD : Nat → Array Bool → Act → World → Prop
  | 0, listed, a, w => Region.ready .any ops listed = [] ∧ p.nrm a w
  | fuel + 1, listed, a, w => (Region.ready .any ops listed = [] → p.nrm a w) ∧
    ∀ i ∈ Region.ready .any ops listed, wpOpIn (fen X.ro) 0 X.P ops p.toQ i (fun a' w' => C w' ∧ (N.contains i = false → Bel w w') ∧ ∀ w'', Bel w' w'' → AnyD fuel (listed.setIfInBounds i true) a' w'') a w
end
section
variable {X : Ctx} {ops : Array Oper} {p : Post} [NoPan p] {C C1 : World → Prop} {N : List Nat}
theorem AnyD.sound : ∀ (fuel : Nat) (listed : Array Bool) (a : Act) (w : World), AnyD X ops p C N fuel listed a w → wpAnyIn (fen X.ro) 0 X.P .any ops p.toQ fuel listed a w
  | 0, _, _, _, h => h
  | fuel + 1, _, _, _, h => ⟨h.1, fun i hi => wpOpIn_mono (fun a' w' k => AnyD.sound fuel _ a' w' (k.2.2 w' (Bel.refl _))) (h.2 i hi)⟩
/-- A quiet operation, of any world in C. -/
theorem AnyD.take {i : Nat} {oi : Oper} {v : Value} (hCb : ∀ w w', C w → Bel w w' → C w') (hi : ops[i]? = some oi) (hsd : noSD ops = true) :
    ∀ (fuel : Nat) (listed : Array Bool) (a : Act) (w : World),
      (∀ j oj, ops[j]? = some oj → j ≠ i → listed.getD j true = false → (∀ e ∈ oj.after, Region.binds .any e = true → e.on ≠ i) → oi.apart ops oj = true) →
      i ∈ Region.ready .any ops listed → YieldsC X ops C oi v a → C w →
      (∀ w', Bel w w' → AnyD X ops p C N fuel (listed.setIfInBounds i true) (a.put oi.dst v) w') → AnyD X ops p C N (fuel + 1) listed a w := by
  intro fuel
  induction fuel with
  | zero =>
    intro listed a w _ hr hy hC H
    refine ⟨fun h => (by rw [h] at hr; cases hr), fun j hj => ?_⟩
    by_cases hji : j = i
    · subst hji
      exact hy.wpOp hi (noSD_sel hsd hi).2 hC fun w' hb => ⟨hCb w w' hC hb, fun _ => hb, fun w'' hb' => H w'' (hb.trans' hb')⟩
    · have := ready_mono hj hji
      rw [(H w (Bel.refl _)).1] at this
      cases this
  | succ fuel ih =>
    intro listed a w hfree hr hy hC H
    refine ⟨fun h => (by rw [h] at hr; cases hr), fun j hj => ?_⟩
    by_cases hji : j = i
    · subst hji
      exact hy.wpOp hi (noSD_sel hsd hi).2 hC fun w' hb => ⟨hCb w w' hC hb, fun _ => hb, fun w'' hb' => H w'' (hb.trans' hb')⟩
    · have h1 := (H w (Bel.refl _)).2 j (ready_mono hj hji)
      obtain ⟨hjun, oj, hoj, hall⟩ := mem_ready.1 hj
      have hnot : ∀ e ∈ oj.after, Region.binds .any e = true → e.on ≠ i := fun e he hb heq => by
        have h1 := hall e he hb
        have h0 := (mem_ready.1 hr).1
        rw [heq] at h1
        rcases Nat.lt_or_ge i listed.size with h' | h'
        · simp [h'] at h0 h1; rw [h0] at h1; cases h1
        · simp [Array.getElem?_eq_none h'] at h1
      have h2 := wpOpIn_putC hoj (hfree j oj hoj hji hjun hnot) (noSD_sel hsd hi).1 (noSD_sel hsd hoj).1 (noSD_sel hsd hoj).2 hy h1
      have hfree' : ∀ k ok, ops[k]? = some ok → k ≠ i → (listed.setIfInBounds j true).getD k true = false →
          (∀ e ∈ ok.after, Region.binds .any e = true → e.on ≠ i) → oi.apart ops ok = true := fun k ok hk hki hun hno => by
        refine hfree k ok hk hki ?_ hno
        by_cases hjk : j = k
        · subst hjk; exact hjun
        · rw [getD_set_ne true hjk] at hun; exact hun
      refine wpOpIn_mono (fun a' w' h3 => ⟨h3.2.1, h3.2.2.1, fun w'' hb => ?_⟩) h2
      refine ih (listed.setIfInBounds j true) a' w'' hfree' (ready_mono hr (Ne.symm hji)) h3.1 (hCb _ _ h3.2.1 hb) fun w3 hb3 => ?_
      rw [Array.setIfInBounds_comm _ _ hji]
      exact h3.2.2.2 w3 (hb.trans' hb3)
/-- What an operation waits for, near and far. -/
def reach (ops : Array Oper) (i : Nat) : Nat → Nat → Bool
  | 0, _ => false
  | n + 1, j => match ops[j]? with
    | some oj => oj.after.any fun e => Region.binds .any e && (e.on == i || reach ops i n e.on)
    | none => false
/-- What is listed, has all that it waits for listed. -/
def Closed (ops : Array Oper) (listed : Array Bool) : Prop := ∀ (k : Nat) (ok : Oper), ops[k]? = some ok → listed.getD k true = true → ∀ e ∈ ok.after, Region.binds .any e = true → listed.getD e.on true = true
theorem Closed.reach {listed : Array Bool} (hc : Closed ops listed) (i : Nat) : ∀ (n j : Nat) (oj : Oper), ops[j]? = some oj → (∀ e ∈ oj.after, Region.binds .any e = true → listed.getD e.on true = true) → reach ops i n j = true → listed.getD i true = true
  | 0, _, _, _, _, h => by cases h
  | n + 1, j, oj, hj, hd, h => by
    simp only [Go.Proofs.YtkcfgglmlogjbaaGreat.reach, hj, Array.any_eq_true] at h
    obtain ⟨k, hk, h2⟩ := h
    simp only [Bool.and_eq_true, Bool.or_eq_true, beq_iff_eq] at h2
    have h3 := hd _ (Array.getElem_mem hk) h2.1
    rcases h2.2 with e | e
    · rw [← e]; exact h3
    · cases ho : ops[oj.after[k].on]? with
      | none => 
        cases n with
        | zero => cases e
        | succ n => simp only [Go.Proofs.YtkcfgglmlogjbaaGreat.reach, ho] at e; cases e
      | some o2 => exact Closed.reach hc i n _ o2 ho (hc _ o2 ho h3) e
theorem getD_up {listed : Array Bool} {k : Nat} (h : listed.getD k false = true) : listed.getD k true = true := by
  rw [Array.getD_eq_getD_getElem?] at h ⊢
  cases e : listed[k]? with
  | none => rfl
  | some b => rw [e] at h; exact h
theorem getD_set {listed : Array Bool} {j k : Nat} (h : listed.getD k true = true) : (listed.setIfInBounds j true).getD k true = true := by
  by_cases e : j = k
  · subst e
    simp only [Array.getD_eq_getD_getElem?, Array.getElem?_setIfInBounds]
    by_cases h2 : j < listed.size <;> simp [h2]
  · rw [getD_set_ne true e]; exact h
theorem Closed.step {listed : Array Bool} (hc : Closed ops listed) {j : Nat} (hj : j ∈ Region.ready .any ops listed) : Closed ops (listed.setIfInBounds j true) := by
  intro k ok hk hl e he hb
  obtain ⟨_, oj, hoj, hall⟩ := mem_ready.1 hj
  by_cases ek : j = k
  · subst ek
    rw [hoj] at hk
    have := Option.some.inj hk
    subst this
    exact getD_set (getD_up (hall e he hb))
  · rw [getD_set_ne true ek] at hl
    exact getD_set (hc k ok hk hl e he hb)
/-- A quiet operation that all that turns something waits for: of any world in C1. -/
theorem AnyD.take1 {i : Nat} {oi : Oper} {v : Value} (h1b : ∀ w w', C1 w → Bel w w' → C1 w') (h1C : ∀ w, C1 w → C w) (hi : ops[i]? = some oi) (hsd : noSD ops = true)
    (hN : ∀ j oj, N.contains j = true → ops[j]? = some oj → ∃ n, reach ops i n j = true) :
    ∀ (fuel : Nat) (listed : Array Bool) (a : Act) (w : World), Closed ops listed →
      (∀ j oj, ops[j]? = some oj → j ≠ i → listed.getD j true = false → (∀ e ∈ oj.after, Region.binds .any e = true → e.on ≠ i) → oi.apart ops oj = true) →
      i ∈ Region.ready .any ops listed → YieldsC X ops C1 oi v a → C1 w →
      (∀ w', Bel w w' → AnyD X ops p C N fuel (listed.setIfInBounds i true) (a.put oi.dst v) w') → AnyD X ops p C N (fuel + 1) listed a w := by
  intro fuel
  induction fuel with
  | zero =>
    intro listed a w _ _ hr hy hC H
    refine ⟨fun h => (by rw [h] at hr; cases hr), fun j hj => ?_⟩
    by_cases hji : j = i
    · subst hji
      exact hy.wpOp hi (noSD_sel hsd hi).2 hC fun w' hb => ⟨h1C _ (h1b w w' hC hb), fun _ => hb, fun w'' hb' => H w'' (hb.trans' hb')⟩
    · have := ready_mono hj hji
      rw [(H w (Bel.refl _)).1] at this
      cases this
  | succ fuel ih =>
    intro listed a w hcl hfree hr hy hC H
    refine ⟨fun h => (by rw [h] at hr; cases hr), fun j hj => ?_⟩
    by_cases hji : j = i
    · subst hji
      exact hy.wpOp hi (noSD_sel hsd hi).2 hC fun w' hb => ⟨h1C _ (h1b w w' hC hb), fun _ => hb, fun w'' hb' => H w'' (hb.trans' hb')⟩
    · have h1 := (H w (Bel.refl _)).2 j (ready_mono hj hji)
      obtain ⟨hjun, oj, hoj, hall⟩ := mem_ready.1 hj
      have hnot : ∀ e ∈ oj.after, Region.binds .any e = true → e.on ≠ i := fun e he hb heq => by
        have h1 := hall e he hb
        have h0 := (mem_ready.1 hr).1
        rw [heq] at h1
        rcases Nat.lt_or_ge i listed.size with h' | h'
        · simp [h'] at h0 h1; rw [h0] at h1; cases h1
        · simp [Array.getElem?_eq_none h'] at h1
      have hjN : N.contains j = false := by
        cases hc : N.contains j with
        | false => rfl
        | true =>
          obtain ⟨n, hn⟩ := hN j oj hc hoj
          have h8 := hcl.reach i n j oj hoj (fun e he hb => getD_up (hall e he hb)) hn
          have h9 := (mem_ready.1 hr).1
          rw [h8] at h9; cases h9
      have h2 := wpOpIn_putC hoj (hfree j oj hoj hji hjun hnot) (noSD_sel hsd hi).1 (noSD_sel hsd hoj).1 (noSD_sel hsd hoj).2 hy h1
      have hfree' : ∀ k ok, ops[k]? = some ok → k ≠ i → (listed.setIfInBounds j true).getD k true = false →
          (∀ e ∈ ok.after, Region.binds .any e = true → e.on ≠ i) → oi.apart ops ok = true := fun k ok hk hki hun hno => by
        refine hfree k ok hk hki ?_ hno
        by_cases hjk : j = k
        · subst hjk; exact hjun
        · rw [getD_set_ne true hjk] at hun; exact hun
      refine wpOpIn_mono (fun a' w' h3 => ⟨h3.2.1, h3.2.2.1, fun w'' hb => ?_⟩) h2
      refine ih (listed.setIfInBounds j true) a' w'' (hcl.step hj) hfree' (ready_mono hr (Ne.symm hji)) h3.1 (h1b _ _ (h1b _ _ hC (h3.2.2.1 hjN)) hb) fun w3 hb3 => ?_
      rw [Array.setIfInBounds_comm _ _ hji]
      exact h3.2.2.2 w3 (hb.trans' hb3)
def noisyOf (r : List (Nat × Bool)) : List Nat := (r.filter (fun t => !t.2)).map (·.1)
theorem MW.anyD (hCb : ∀ w w', C w → Bel w w' → C w') (hsd : noSD ops = true) : ∀ (l : List (Nat × Bool)) (listed : Array Bool) (a : Act) (w : World), orderB ops l listed = true → (∀ t ∈ l, t.2 = false → N.contains t.1 = true) → C w → MW X ops p C l a w →
    AnyD X ops p C N l.length listed a w
  | [], listed, a, w, hB, _, _, h => ⟨by simpa [orderB] using hB, h⟩
  | (i, true) :: r, listed, a, w, hB, hn, hC, h => by
    simp only [orderB, cond_true, Bool.and_eq_true, List.contains_iff_mem] at hB
    obtain ⟨⟨h1, h2⟩, h3⟩ := hB
    obtain ⟨o, v, ho, hy, hk⟩ := h
    exact AnyD.take hCb ho hsd r.length listed a w (Region.free_spec ho h2) h1 hy hC fun w' hb => MW.anyD hCb hsd r _ _ w' h3 (fun t ht => hn t (List.mem_cons_of_mem _ ht)) (hCb w w' hC hb) (hk w' hb)
  | (i, false) :: r, listed, a, w, hB, hn, hC, h => by
    simp only [orderB, cond_false, Bool.and_eq_true, beq_iff_eq] at hB
    obtain ⟨h1, h3⟩ := hB
    refine ⟨fun e => (by rw [h1] at e; cases e), fun j hj => ?_⟩
    rw [h1, List.mem_singleton] at hj
    subst hj
    exact wpOpIn_mono (fun a' w' hk => ⟨hk.1, fun hf => (by rw [hn (j, false) (List.mem_cons_self ..) rfl] at hf; cases hf), fun w'' hb => MW.anyD hCb hsd r _ _ w'' h3 (fun t ht => hn t (List.mem_cons_of_mem _ ht)) (hCb _ _ hk.1 hb) (hk.2 w'' hb)⟩) h
/-- The first part: '(i, true)' reads memory ars it was; '(i, false)': quiet in any world. -/
def ME (X : Ctx) (ops : Array Oper) (p : Post) (C1 C : World → Prop) (r : List (Nat × Bool)) : List (Nat × Bool) → Act → World → Prop
  | [], a, w => MW X ops p C r a w
  | (i, true) :: es, a, w => ∃ o v, ops[i]? = some o ∧ YieldsC X ops C1 o v a ∧ ∀ w', Bel w w' → ME X ops p C1 C r es (a.put o.dst v) w'
  | (i, false) :: es, a, w => ∃ o v, ops[i]? = some o ∧ YieldsC X ops C o v a ∧ ∀ w', Bel w w' → ME X ops p C1 C r es (a.put o.dst v) w'
def waitsFor (ops : Array Oper) (N : List Nat) (i : Nat) : Bool := N.all fun j => reach ops i ops.size j
def orderE (ops : Array Oper) (N : List Nat) (r : List (Nat × Bool)) : List (Nat × Bool) → Array Bool → Bool
  | [], listed => orderB ops r listed
  | (i, q) :: es, listed => (Region.ready .any ops listed).contains i && Region.free .any ops listed i && (!q || waitsFor ops N i) && orderE ops N r es (listed.setIfInBounds i true)
theorem waitsFor_spec {i : Nat} (h : waitsFor ops N i = true) (j : Nat) (oj : Oper) (hj : N.contains j = true) (_ : ops[j]? = some oj) : ∃ n, reach ops i n j = true :=
  ⟨_, List.all_eq_true.1 h j (List.contains_iff_mem.1 hj)⟩
theorem ME.anyD (r : List (Nat × Bool)) (h1b : ∀ w w', C1 w → Bel w w' → C1 w') (h1C : ∀ w, C1 w → C w) (hCb : ∀ w w', C w → Bel w w' → C w') (hsd : noSD ops = true) :
    ∀ (es : List (Nat × Bool)) (listed : Array Bool) (a : Act) (w : World), Closed ops listed → orderE ops (noisyOf r) r es listed = true → C1 w → ME X ops p C1 C r es a w → AnyD X ops p C (noisyOf r) (es.length + r.length) listed a w
  | [], listed, a, w, _, hB, hC, h => by
    simp only [List.length_nil, Nat.zero_add]
    exact MW.anyD hCb hsd r listed a w hB (fun t ht hf => List.contains_iff_mem.2 (List.mem_map.2 ⟨t, List.mem_filter.2 ⟨ht, by rw [hf]; rfl⟩, rfl⟩)) (h1C w hC) h
  | (i, true) :: es, listed, a, w, hcl, hB, hC, h => by
    simp only [orderE, Bool.and_eq_true, List.contains_iff_mem, Bool.not_true, Bool.false_or] at hB
    obtain ⟨⟨⟨h1, h2⟩, h3⟩, h4⟩ := hB
    obtain ⟨o, v, ho, hy, hk⟩ := h
    rw [show ((i, true) :: es).length + r.length = (es.length + r.length) + 1 from by simp only [List.length_cons]; omega]
    exact AnyD.take1 h1b h1C ho hsd (waitsFor_spec h3) _ listed a w hcl (Region.free_spec ho h2) h1 hy hC fun w' hb => ME.anyD r h1b h1C hCb hsd es _ _ w' (hcl.step h1) h4 (h1b w w' hC hb) (hk w' hb)
  | (i, false) :: es, listed, a, w, hcl, hB, hC, h => by
    simp only [orderE, Bool.and_eq_true, List.contains_iff_mem] at hB
    obtain ⟨⟨⟨h1, h2⟩, _⟩, h4⟩ := hB
    obtain ⟨o, v, ho, hy, hk⟩ := h
    rw [show ((i, false) :: es).length + r.length = (es.length + r.length) + 1 from by simp only [List.length_cons]; omega]
    exact AnyD.take hCb ho hsd _ listed a w (Region.free_spec ho h2) h1 hy (h1C w hC) fun w' hb => ME.anyD r h1b h1C hCb hsd es _ _ w' (hcl.step h1) h4 (h1b w w' hC hb) (hk w' hb)
end
/-- The walk over states, first part. -/
def WZ (X : Ctx) (ops : Array Oper) (p : Post) (Hq : Heap) (r es : List (Nat × Bool)) (E : Env) (H : Heap) : Prop := ∀ a w, AE X E a → HW X.H0 X.w0 H w → ME X ops p (fun w => HW X.H0 X.w0 H w) (fun w => HW X.H0 X.w0 Hq w) r es a w
section
variable {X : Ctx} {ops : Array Oper} {p : Post} {Hq : Heap} {E : Env} {H F : Heap} {r es : List (Nat × Bool)} {i : Nat} {o : Oper}
theorem closed0 (l : List Oper) : Closed l.toArray (Array.replicate l.length false) := by
  intro k ok hk hl
  have : k < l.length := by
    have := (Array.getElem?_eq_some_iff.1 hk).1
    simpa using this
  simp [Array.getD_eq_getD_getElem?, this] at hl
theorem WC_drawE [NoPan p] {id : Nat} {l : List Oper} (xs : Heap) (es ord : List (Nat × Bool)) (hm : X.P.follows .mixedOrders = true) (hsd : noSD l.toArray = true) (hlen : es.length + ord.length = l.length)
    (hB : orderE l.toArray (noisyOf ord) ord es (Array.replicate l.length false) = true) (hq : Pulls xs H Hq) (h : WZ X l.toArray p Hq ord es E H) : WC X (.region id l.toArray true) p E H := by
  intro a w ha hw
  refine wpIn_region_any hm ?_
  have hb : Bel w { w with drawn := w.drawn + 1 } := Bel.drew' w
  have hw1 := hw.bel hb
  have h1 := ME.anyD (X := X) (p := p) (C1 := fun w => HW X.H0 X.w0 H w) (C := fun w => HW X.H0 X.w0 Hq w) ord (fun _ _ h b => h.bel b) (fun _ h => pulls_rest hq h) (fun _ _ h b => h.bel b) hsd es _ a _ (closed0 l) hB hw1 (h a _ ha hw1)
  rw [hlen] at h1
  have := AnyD.sound _ _ _ _ h1
  simpa using this
theorem WZ_rest (h : WM X ops p Hq r E H) : WZ X ops p Hq r [] E H := h
theorem WZ_early {d : Nat} {v : Value} (ho : ops[i]? = some o) (hg : wantedE ops E o = some true) (hd : o.dst = some d) (hN : Nat.blt d X.N = true) (h : Runs X o E H v)
    (k : WZ X ops p Hq r es ((d, v) :: E) H) : WZ X ops p Hq r ((i, true) :: es) E H := fun a w ha hw =>
  ⟨o, v, ho, .inl ⟨wantedE_spec ha hg, fun w' hw' => .inl (h.2 a w' ha hw')⟩, fun w' hb => k _ _ (by rw [hd]; exact ha.put d v hN) (hw.bel hb)⟩
theorem WZ_val {d : Nat} {v : Value} (ho : ops[i]? = some o) (hg : wantedE ops E o = some true) (hd : o.dst = some d) (hN : Nat.blt d X.N = true) (h : Runs X o E Hq v)
    (k : WZ X ops p Hq r es ((d, v) :: E) H) : WZ X ops p Hq r ((i, false) :: es) E H := fun a w ha hw =>
  ⟨o, v, ho, .inl ⟨wantedE_spec ha hg, fun w' hw' => .inl (h.2 a w' ha hw')⟩, fun w' hb => k _ _ (by rw [hd]; exact ha.put d v hN) (hw.bel hb)⟩
end
end Go.Proofs.YtkcfgglmlogjbaaGreat
end
section
namespace Go.Proofs.YtkcfgglmlogjbaaGreat
section
variable {X : Ctx} {E : Env} {H : Heap} {o : Oper} {t t' : TypeId} {x y : Operand} {k k' : IntKind} {m n r : Int}
theorem R_addR (ho : o.op = .binOp .add t x y t') (hx : ev E x = some (.int k m)) (hy : ev E y = some (.int k n)) (hr : k.wrap (m + n) = r) : Runs X o E H (.int k r) := hr ▸ R_addW ho hx hy
theorem R_subR (ho : o.op = .binOp .sub t x y t') (hx : ev E x = some (.int k m)) (hy : ev E y = some (.int k n)) (hr : k.wrap (m - n) = r) : Runs X o E H (.int k r) := hr ▸ R_subW ho hx hy
theorem R_mulR (ho : o.op = .binOp .mul t x y t') (hx : ev E x = some (.int k m)) (hy : ev E y = some (.int k n)) (hr : k.wrap (m * n) = r) : Runs X o E H (.int k r) := hr ▸ R_mulW ho hx hy
theorem R_remR (ho : o.op = .binOp .rem t x y t') (hx : ev E x = some (.int k m)) (hy : ev E y = some (.int k n)) (hn : n ≠ 0) (hr : m.tmod n = r) : Runs X o E H (.int k r) :=
  R_arith ho hx hy fun w => by simp [go_sem, Op.intDiv, hn, hr]
theorem R_orR (ho : o.op = .binOp .or t x y t') (hx : ev E x = some (.int k m)) (hy : ev E y = some (.int k n)) (hr : k.wrap (BitVec.ofInt k.bits m ||| BitVec.ofInt k.bits n).toNat = r) : Runs X o E H (.int k r) :=
  R_arith ho hx hy fun w => by rw [← hr]; simp [go_sem, Op.intBits]
theorem R_shrR (ho : o.op = .binOp .shr t x y t') (hx : ev E x = some (.int k m)) (hy : ev E y = some (.int k' n)) (hn : ¬ n < 0) (hr : m.fdiv (2 ^ (min n.toNat k.bits)) = r) : Runs X o E H (.int k r) :=
  ⟨(by rw [ho]; intro c e; cases e), fun a w ha _ => by
    have h : (binOp .shr t (.int k m) (.int k' n)).run X.P w = .ok (.int k r) w := by rw [← hr]; simp only [binOp, Op.shift, if_neg hn, Sem.run_pure]
    simp only [execOp, ho, ha.eval hx, ha.eval hy]
    simp [eqGuard, h]⟩
theorem R_conv {src dst : TypeId} {u : TypeDesc} (ho : o.op = .convert src dst x) (hs : X.P.underlying src = some u) (hd : X.P.underlying dst = some (.int k')) (hx : ev E x = some (.int k m)) (hr : k'.wrap m = r) : Runs X o E H (.int k' r) :=
  ⟨(by rw [ho]; intro c e; cases e), fun a w ha _ => by
    have h : (convert src dst (.int k m)).run X.P w = .ok (.int k' r) w := by
      rw [← hr]
      simp only [convert, Sem.run_bind, run_underlying hs, run_underlying hd, Result.andThen_ok]
      cases u <;> simp [Conv.intToInt]
    simp [execOp, ho, ha.eval hx, h]⟩
theorem R_minR {tys : Array TypeId} (ho : o.op = .call { callee := .builtin .min, args := #[x, y], argTypes := tys }) (hx : ev E x = some (.int k m)) (hy : ev E y = some (.int k' n)) (hr : min m n = r) : Runs X o E H (.int k r) := hr ▸ R_min ho hx hy
end
theorem w64 {n : Int} (h : 0 ≤ n ∧ n ≤ 18446744073709551615) : IntKind.u64.wrap n = n := IntWalk.u64_in n h
theorem bvN (b : Nat) (a : Nat) : (BitVec.ofInt b (a : Int)) = BitVec.ofNat b a := by simp
end Go.Proofs.YtkcfgglmlogjbaaGreat
end
section
set_option linter.unusedVariables false
set_option linter.unusedSimpArgs false
namespace Go.Proofs.YtkcfgglmlogjbaaGreat
/-! ### Parts of a heap that stay ars they are -/
theorem Pull.app {x : Ent} {B B' : Heap} (h : Pull x B B') : ∀ A : Heap, Pull x (A ++ B) (A ++ B')
  | [] => h
  | _ :: A => .tail (Pull.app h A)
theorem Pulls.app {ys B F : Heap} (h : Pulls ys B F) : ∀ A : Heap, Pulls (A ++ ys) (A ++ B) F
  | [] => h
  | _ :: A => .cons .head (Pulls.app h A)
theorem Pulls.skipA {xs B F : Heap} (h : Pulls xs B F) : ∀ A : Heap, Pulls xs (A ++ B) (A ++ F)
  | [] => h
  | _ :: A => .skip (Pulls.skipA h A)
theorem Pulls.appE (A B : Heap) : Pulls A (A ++ B) B := by
  have := Pulls.app (ys := []) (B := B) (F := B) .nil A
  rw [List.append_nil] at this; exact this
/-- A part of a heap taken out ars a whole, wherever it lies. -/
inductive PullA (A : Heap) : Heap → Heap → Prop
  | here {B : Heap} : PullA A (A ++ B) B
  | all : PullA A A []
  | tail {y : Ent} {l l' : Heap} : PullA A l l' → PullA A (y :: l) (y :: l')
  | app {l l' : Heap} (C : Heap) : PullA A l l' → PullA A (C ++ l) (C ++ l')
theorem PullA.perm {A H F : Heap} (h : PullA A H F) : H.Perm (A ++ F) := by
  induction h with
  | here => exact .refl _
  | all => simp
  | tail _ ih => exact (List.Perm.cons _ ih).trans List.perm_middle.symm
  | app C _ ih =>
    refine (List.Perm.append_left C ih).trans ?_
    rw [← List.append_assoc, ← List.append_assoc]
    exact List.Perm.append_right _ List.perm_append_comm
theorem Pulls.chunk {A xs H H1 F : Heap} (h : PullA A H H1) (k : Pulls xs H1 F) : Pulls (A ++ xs) H F :=
  .ofPerm (h.perm.trans (by rw [List.append_assoc]; exact List.Perm.append_left A k.perm))
theorem Pulls.chunk1 {A H F : Heap} (h : PullA A H F) : Pulls A H F := .ofPerm h.perm
theorem Pull.assoc {x : Ent} {A B C F : Heap} (h : Pull x (A ++ (B ++ C)) F) : Pull x ((A ++ B) ++ C) F := by rw [List.append_assoc]; exact h
theorem PullA.assoc {X A B C F : Heap} (h : PullA X (A ++ (B ++ C)) F) : PullA X ((A ++ B) ++ C) F := by rw [List.append_assoc]; exact h
theorem Pulls.assoc {xs A B C F : Heap} (h : Pulls xs (A ++ (B ++ C)) F) : Pulls xs ((A ++ B) ++ C) F := by rw [List.append_assoc]; exact h
theorem Pulls.assocX {A B C H F : Heap} (h : Pulls (A ++ (B ++ C)) H F) : Pulls ((A ++ B) ++ C) H F := by rw [List.append_assoc]; exact h
theorem mem_assoc {x : Ent} {A B C : Heap} (h : x ∈ A ++ (B ++ C)) : x ∈ (A ++ B) ++ C := by rw [List.append_assoc]; exact h
theorem pqY {A H F : Heap} (h : Pulls A H F := by repeat (first | exact Pulls.nil | exact Pulls.all | (apply Pulls.cons; (repeat (first | exact Pull.head | apply Pull.tail | apply Pull.assoc | apply Pull.app))) | apply Pulls.assocX | (apply Pulls.chunk; (repeat (first | exact PullA.here | exact PullA.all | apply PullA.tail | apply PullA.assoc | apply PullA.app))) | exact Pulls.appE _ _ | apply Pulls.skip | apply Pulls.assoc | apply Pulls.skipA)) : Pulls A H F := h
theorem mmY {x : Ent} {H : Heap} (h : x ∈ H := by repeat (first | exact List.Mem.head _ | refine List.Mem.tail _ ?_ | refine mem_assoc ?_ | refine List.mem_append_right _ ?_)) : x ∈ H := h
theorem HW.rebase {H H2 H' : Heap} {w w' : World} (hp : H2.Perm H) (r : HW H w H' w') : HW H2 w H' w' :=
  ⟨r.hok, r.os, r.tape, r.output, r.size, fun k hk hn => r.kept k hk (fun h => hn ((keys_perm hp).mem_iff.2 h)), fun k hk => (r.own k hk).imp (fun h => (keys_perm hp).mem_iff.2 h) id, r.dr⟩
theorem Spec.fr {P : Program} {f : FuncId} {args : List Value} {H : Heap} {post : Value → Heap → Prop} (h : Spec P f args H post) (F : Heap) : Spec P f args (H ++ F) (fun v H' => ∃ H1, post v H1 ∧ H' = H1 ++ F) :=
  ⟨h.enters, fun w hw => (h.calls w hw.left).mono fun e w' ⟨v, H', e1, p, r⟩ => ⟨v, H' ++ F, e1, ⟨H', p, rfl⟩, HW.frame (HW.start hw) (.refl _) r⟩⟩
theorem Spec.perm {P : Program} {f : FuncId} {args : List Value} {H H2 : Heap} {post : Value → Heap → Prop} (h : Spec P f args H post) (hp : H2.Perm H) : Spec P f args H2 post :=
  ⟨h.enters, fun w hw => (h.calls w (hw.perm hp)).mono fun e w' ⟨v, H', e1, p, r⟩ => ⟨v, H', e1, p, r.rebase hp⟩⟩
theorem Spec.re {P : Program} {f : FuncId} {args : List Value} {H : Heap} {post : Value → Heap → Prop} (h : Spec P f args H (fun r H' => ∃ H1, H'.Perm H1 ∧ post r H1)) : Spec P f args H post :=
  ⟨h.enters, fun w hw => (h.calls w hw).mono fun e w' ⟨v, H', e1, ⟨H1, p, q⟩, r⟩ => ⟨v, H1, e1, q, r.perm p⟩⟩
/-! ### Keys of any type -/
/-- Keys of a map's type, ars the model handles them. -/
structure KeyOk (P : Program) (kt : TypeId) {κ : Type} (ek : κ → Value) : Prop where
  chk : ∀ (em : Bool) (k : κ) (w : World), (Instr.checkKey em 10000 kt (ek k)).run P w = .ok () w
  find : ∀ (k : κ) (l : List MapEntry) (w : World), (∀ x ∈ l, ∃ k', x.key = ek k') → ∃ r, (Instr.findKey kt (ek k) l).run P w = .ok r w ∧ ((r = none ∧ ∀ x ∈ l, x.key ≠ ek k) ∨ ∃ (j : Nat) (e : MapEntry), r = some (j, e.val) ∧ l[j]? = some e ∧ e.key = ek k)
  inj : ∀ a b, ek a = ek b → a = b
/-- What lies in a map, with the stamps of its entries. -/
structure Mk {κ α : Type} (ek : κ → Value) (ev : α → Value) (es : Array MapEntry) (c : Nat) (L : List (κ × α)) : Prop where
  perm : (es.toList.map fun e => (e.key, e.val)).Perm (L.map fun x => (ek x.1, ev x.2))
  nodup : (L.map (·.1)).Nodup
  born : ∀ e ∈ es.toList, e.born < c
  bnd : (es.toList.map (·.born)).Nodup
section
variable {κ α : Type} {P : Program} {kt : TypeId} {ek : κ → Value} {ev : α → Value} {es : Array MapEntry} {c : Nat} {L L' : List (κ × α)}
theorem Mk.empty : Mk ek ev #[] 0 ([] : List (κ × α)) := ⟨by simp, by simp, by simp, by simp⟩
theorem Mk.to (h : Mk ek ev es c L) (p : L.Perm L') : Mk ek ev es c L' := ⟨h.perm.trans (p.map _), (p.map _).nodup_iff.1 h.nodup, h.born, h.bnd⟩
theorem Mk.has (h : Mk ek ev es c L) {x : κ × α} (hx : x ∈ L) : ∃ e ∈ es.toList, e.key = ek x.1 ∧ e.val = ev x.2 := by
  have : (ek x.1, ev x.2) ∈ es.toList.map fun e => (e.key, e.val) := h.perm.mem_iff.2 (List.mem_map.2 ⟨x, hx, rfl⟩)
  obtain ⟨e, he, hh⟩ := List.mem_map.1 this
  exact ⟨e, he, congrArg Prod.fst hh, congrArg Prod.snd hh⟩
theorem Mk.back (h : Mk ek ev es c L) {e : MapEntry} (he : e ∈ es.toList) : ∃ x ∈ L, e.key = ek x.1 ∧ e.val = ev x.2 := by
  have : (e.key, e.val) ∈ L.map fun x => (ek x.1, ev x.2) := h.perm.mem_iff.1 (List.mem_map.2 ⟨e, he, rfl⟩)
  obtain ⟨x, hx, hh⟩ := List.mem_map.1 this
  exact ⟨x, hx, (congrArg Prod.fst hh).symm, (congrArg Prod.snd hh).symm⟩
theorem Mk.keys (h : Mk ek ev es c L) : ∀ x ∈ es.toList, ∃ k', x.key = ek k' := fun x hx => by
  obtain ⟨y, _, e1, _⟩ := h.back hx
  exact ⟨y.1, e1⟩
theorem Mk.find (K : KeyOk P kt ek) (h : Mk ek ev es c L) {k : κ} {a : α} (hx : (k, a) ∈ L) (w : World) : ∃ j, (Instr.findKey kt (ek k) es.toList).run P w = .ok (some (j, ev a)) w := by
  obtain ⟨r, h1, h2⟩ := K.find k es.toList w h.keys
  rcases h2 with ⟨_, h2⟩ | ⟨j, e, rfl, h2, h3⟩
  · obtain ⟨e, he, hk, _⟩ := h.has hx
    exact absurd hk (h2 e he)
  · obtain ⟨⟨k', b⟩, hy, e1, e2⟩ := h.back (List.mem_of_getElem? h2)
    obtain rfl := K.inj _ _ (e1.symm.trans h3)
    obtain rfl := key_uniq h.nodup hx hy
    exact ⟨j, by rw [h1, e2]⟩
theorem Mk.none (K : KeyOk P kt ek) (h : Mk ek ev es c L) {k : κ} (hx : k ∉ L.map (·.1)) (w : World) : (Instr.findKey kt (ek k) es.toList).run P w = .ok none w := by
  obtain ⟨r, h1, h2⟩ := K.find k es.toList w h.keys
  rcases h2 with ⟨rfl, _⟩ | ⟨j, e, rfl, h2, h3⟩
  · exact h1
  · obtain ⟨⟨k', b⟩, hy, e1, _⟩ := h.back (List.mem_of_getElem? h2)
    obtain rfl := K.inj _ _ (e1.symm.trans h3)
    exact absurd (List.mem_map.2 ⟨_, hy, rfl⟩) hx
theorem Mk.add (h : Mk ek ev es c L) {k : κ} (a : α) (hx : k ∉ L.map (·.1)) : Mk ek ev (es.push { key := ek k, val := ev a, born := c }) (c + 1) ((k, a) :: L) := by
  refine ⟨?_, by simpa using ⟨by simpa using hx, h.nodup⟩, fun e he => ?_, ?_⟩
  · rw [Array.toList_push, List.map_append]
    exact List.perm_append_comm.trans (.cons _ h.perm)
  · rw [Array.toList_push, List.mem_append, List.mem_singleton] at he
    rcases he with he | rfl
    · exact Nat.lt_succ_of_lt (h.born e he)
    · exact Nat.lt_succ_self c
  · rw [Array.toList_push, List.map_append, List.nodup_append]
    refine ⟨h.bnd, by simp, fun x hx y hy => ?_⟩
    obtain ⟨e, he, rfl⟩ := List.mem_map.1 hx
    have := h.born e he
    simp at hy
    omega
end
section
variable {X : Ctx} {E : Env} {H F : Heap} {o : Oper} {κ α : Type} {ek : κ → Value} {ev : α → Value} {es : Array MapEntry} {c b : Nat} {L : List (κ × α)} {mt kt et : TypeId} {x y z : Operand}
/-- v := m[k] -/
theorem R_lookK {k : κ} {a : α} (ho : o.op = .lookup mt x y false) (hu : X.P.underlying mt = some (.map kt et)) (K : KeyOk X.P kt ek) (hx : Go.Proofs.YtkcfgglmlogjbaaGreat.ev E x = some (.map (some b))) (hy : Go.Proofs.YtkcfgglmlogjbaaGreat.ev E y = some (ek k)) (hm : (⟨some b, .map es c⟩ : Ent) ∈ H) (hM : Mk ek ev es c L) (hin : (k, a) ∈ L) :
    Runs X o E H (ev a) :=
  ⟨(by rw [ho]; intro c e; cases e), fun A w ha hw => by
    obtain ⟨j, h1⟩ := hM.find K hin w
    have hl : (Instr.lookup mt (.map (some b)) (ek k) false).run X.P w = .ok (ev a) w := by
      simp [Instr.lookup, run_underlying hu, MapKept.run_getObj_map (hw.mapAt hm), K.chk, h1, Result.andThen]
    simp [execOp, ho, ha.eval hx, ha.eval hy, hl]⟩
/-- m[k] = v, of a key that does not lie there. -/
theorem D_mapAddK {k : κ} {v : α} (ho : o.op = .mapUpdate mt x y z) (hu : X.P.underlying mt = some (.map kt et)) (K : KeyOk X.P kt ek) (hx : Go.Proofs.YtkcfgglmlogjbaaGreat.ev E x = some (.map (some b))) (hy : Go.Proofs.YtkcfgglmlogjbaaGreat.ev E y = some (ek k)) (hz : Go.Proofs.YtkcfgglmlogjbaaGreat.ev E z = some (ev v)) (hp : Pull ⟨some b, .map es c⟩ H F) (hM : Mk ek ev es c L) (hin : k ∉ L.map (·.1)) :
    Does X o E H (fun _ H' => ∃ es', Mk ek ev es' (c + 1) ((k, v) :: L) ∧ H' = ⟨some b, .map es' (c + 1)⟩ :: F) := by
  intro A w ha hw next Q kk
  refine ⟨about_true, ?_⟩
  rw [semAt_of (by rw [ho]; intro c e; cases e)]
  have hb := hw.mapAt (pull_mem hp)
  have h1 := hM.none K hin w
  have hrun : (execOp A.eval o).run X.P w = .ok .skip { w with heap := w.heap.setIfInBounds b (.map (es.push { key := ek k, val := ev v, born := c }) (c + 1)) } := by
    simp [execOp, ho, ha.eval hx, ha.eval hy, ha.eval hz, Instr.mapUpdate, run_underlying hu, MapKept.run_getObj_map hb, K.chk, h1, MapKept.run_setObj_map _ hb, Result.andThen]
  rw [hrun]
  exact kk undef _ _ ⟨_, hM.add v hin, rfl⟩ (hw.turnMap hp)
/-! ### for k, v := range m -/
end
end Go.Proofs.YtkcfgglmlogjbaaGreat
end
section
set_option linter.unusedVariables false
namespace Go.Proofs.YtkcfgglmlogjbaaGreat
section
variable {X : Ctx} {E : Env} {H : Heap} {o : Oper} {t t' : TypeId} {x y : Operand}
/-- The bytes of a string. -/
abbrev byt (s : ByteArray) : List UInt8 := s.data.toList
theorem R_strEq {a b : ByteArray} (ho : o.op = .binOp .eql t x y t') (hu : X.P.underlying t = some .string) (hx : Go.Proofs.YtkcfgglmlogjbaaGreat.ev E x = some (.string a)) (hy : Go.Proofs.YtkcfgglmlogjbaaGreat.ev E y = some (.string b)) : Runs X o E H (.bool (decide (byt a = byt b))) :=
  R_bin ho hx hy (fun w => by simp [eqGuard]) fun w => by
    rw [binOp_string_eql, ByteArray.toList_eq, ByteArray.toList_eq, Sem.run_pure]
    congr 2
    rw [Bool.eq_iff_iff]; simp
theorem R_strNe {a b : ByteArray} (ho : o.op = .binOp .neq t x y t') (hu : X.P.underlying t = some .string) (hx : Go.Proofs.YtkcfgglmlogjbaaGreat.ev E x = some (.string a)) (hy : Go.Proofs.YtkcfgglmlogjbaaGreat.ev E y = some (.string b)) : Runs X o E H (.bool (decide (byt a ≠ byt b))) :=
  R_bin ho hx hy (fun w => by simp [eqGuard]) fun w => by
    rw [binOp_string_neq, ByteArray.toList_eq, ByteArray.toList_eq, Sem.run_pure]
    congr 2
    rw [Bool.eq_iff_iff]; simp
end
section
variable {X : Ctx} {E : Env} {H F : Heap} {o : Oper} {mt kt et : TypeId} {x y z : Operand} {b c : Nat} {es : Array MapEntry} {d : TypeDesc}
variable {κ α : Type} {ek : κ → Value} {ev : α → Value} {L : List (κ × α)}
end
end Go.Proofs.YtkcfgglmlogjbaaGreat
end
section
set_option linter.unusedVariables false
set_option linter.unusedSimpArgs false
namespace Go.Proofs.YtkcfgglmlogjbaaGreat
section
variable {κ α : Type} {P : Program} {kt : TypeId} {ek : κ → Value} {ev : α → Value} {es : Array MapEntry} {c : Nat} {L L' : List (κ × α)}
theorem Mk.size (h : Mk ek ev es c L) : es.size = L.length := by
  have := h.perm.length_eq
  simpa using this
end
section
variable {X : Ctx} {E : Env} {H F : Heap} {o : Oper} {κ α : Type} {ek : κ → Value} {ev : α → Value} {es : Array MapEntry} {c b : Nat} {L : List (κ × α)} {mt kt et : TypeId} {x y z : Operand}
theorem R_lenMapK (ho : o.op = .call { callee := .builtin .len, args := #[x], argTypes := #[mt] }) (hu : X.P.underlying mt = some (.map kt et)) (hx : Go.Proofs.YtkcfgglmlogjbaaGreat.ev E x = some (.map (some b))) (hm : (⟨some b, .map es c⟩ : Ent) ∈ H) (hM : Mk ek ev es c L) :
    Runs X o E H (.int .i64 (L.length : Int)) :=
  ⟨(by rw [ho]; intro c e; cases e), fun A w ha hw => by
    have hg := MapKept.run_getObj_map (P := X.P) (hw.mapAt hm)
    have hl : (Builtin.len_ #[mt] o.type #[.map (some b)]).run X.P w = .ok (goInt L.length) w := by
      simp [Builtin.len_, run_underlying hu, hg, Result.andThen, hM.size]
    simp [execOp, ho, resolve, ha.eval hx, invoke, builtin, hl, goInt]⟩
variable {t : TypeId} {s : ByteArray}
end
end Go.Proofs.YtkcfgglmlogjbaaGreat
end
section
namespace Go.Proofs.YtkcfgglmlogjbaaGreat
section
variable {X : Ctx} {E : Env} {H : Heap} {o : Oper}
theorem Own.void' {n c sz : Nat} {xs tl : List Value} (h : Own none n c sz xs tl) : n = 0 ∧ c = 0 ∧ xs = [] ∧ tl = [] := by
  have h1 := h.nil rfl
  have h2 := h.le
  have h3 := h.cap
  rw [h1, Nat.zero_mul] at h3
  exact ⟨by omega, h1, List.eq_nil_of_length_eq_zero (by omega), List.eq_nil_of_length_eq_zero (by omega)⟩
end
end Go.Proofs.YtkcfgglmlogjbaaGreat
end
section
set_option linter.unusedVariables false
set_option linter.unusedSimpArgs false
namespace Go.Proofs.YtkcfgglmlogjbaaGreat
abbrev sVal (ob : Option Nat) (k n c : Nat) : Value := .slice (ob.map fun b => ⟨b, k, none⟩) n c
/-- The cells of such a slice: 'pre' before it, 'xs' up to its length, 'tl' up to its capacity. -/
structure OwnS (ob : Option Nat) (k n c sz : Nat) (pre xs tl : List Value) : Prop where
  off : pre.length = k ∨ c = 0
  len : xs.length = n * sz
  cap : xs.length + tl.length = c * sz
  le : n ≤ c
  big : c ≤ 9223372036854775807
  nil : ob = none → c = 0 ∧ pre = []
theorem OwnS.empty (sz : Nat) : OwnS none 0 0 0 sz [] [] [] := ⟨.inl rfl, by simp, by simp, by simp, by simp, fun _ => ⟨rfl, rfl⟩⟩
theorem OwnS.of {ob : Option Nat} {n c sz : Nat} {xs tl : List Value} (h : Own ob n c sz xs tl) : OwnS ob 0 n c sz [] xs tl := ⟨.inl rfl, h.len, h.cap, h.le, h.big, fun e => ⟨h.nil e, rfl⟩⟩
section
variable {ob : Option Nat} {k n c sz : Nat} {pre xs tl : List Value}
theorem OwnS.some_of (h : OwnS ob k n c sz pre xs tl) (hn : 0 < n) : ∃ b, ob = some b := by
  cases ob with
  | some b => exact ⟨b, rfl⟩
  | none => have := (h.nil rfl).1; have := h.le; omega
theorem OwnS.at_ (h : OwnS ob k n c sz pre xs tl) (hn : 0 < n) : pre.length = k := by
  rcases h.off with e | e
  · exact e
  · have := h.le; omega
/-- x[1:] -/
theorem OwnS.cut {ys zs : List Value} {m : Nat} (h : OwnS ob k n c sz pre xs tl) (hx : xs = ys ++ zs) (hy : ys.length = sz) (hn : n = m + 1) : OwnS ob (if c = 1 then k else k + sz) m (c - 1) sz (pre ++ ys) zs tl := by
  have h1 := h.len
  have h2 := h.cap
  have h3 := h.le
  have h4 := h.at_ (by omega)
  obtain ⟨d, rfl⟩ : ∃ d, c = d + 1 := ⟨c - 1, by omega⟩
  subst hx
  rw [List.length_append, hy, hn, Nat.add_mul, Nat.one_mul] at h1
  rw [List.length_append, hy, Nat.add_mul, Nat.one_mul] at h2
  rw [Nat.add_sub_cancel]
  refine ⟨?_, by omega, by omega, by omega, by have := h.big; omega, fun e => by have := (h.nil e).1; omega⟩
  by_cases e : d = 0
  · exact .inr e
  · left
    rw [if_neg (by omega), List.length_append, hy, h4]
theorem OwnS.get {α : Type} {enc : α → List Value} {T : List α} (hk : ∀ x, (enc x).length = sz) (h : OwnS ob k n c sz pre (T.flatMap enc) tl) {i : Nat} {x : α} (hx : T[i]? = some x) (hi : i < n) {j : Nat} (hj : j < sz) : (pre ++ (T.flatMap enc ++ tl))[k + i * sz + j]? = (enc x)[j]? := by
  have h4 := h.at_ (by omega)
  rw [Nat.add_assoc, List.getElem?_append_right (by omega), show k + (i * sz + j) - pre.length = i * sz + j from by omega]
  exact fm_get hk hx hj tl
end
section
variable {X : Ctx} {E : Env} {H : Heap} {o : Oper}
theorem R_indexS {t u : TypeId} {x y : Operand} {ob : Option Nat} {b k n c sz i : Nat} {kk : IntKind} (hob : ob = some b) (ho : o.op = .indexAddr t x y) (hu : X.P.underlying t = some (.slice u)) (hs : ∀ w, (sizeOf u).run X.P w = .ok sz w)
    (hx : ev E x = some (sVal ob k n c)) (hy : ev E y = some (.int kk (i : Int))) (hi : i < n) : Runs X o E H (.pointer (some ⟨b, k + i * sz, none⟩)) := by
  subst hob
  exact R_indexAddrN ho hu hs hx hy hi
theorem R_cut1 {t u : TypeId} {x y : Operand} {ob : Option Nat} {b k n m c sz : Nat} {kk : IntKind} (hob : ob = some b) (ho : o.op = .slice t x (some y) none none) (hu : X.P.underlying t = some (.slice u)) (hs : ∀ w, (sizeOf u).run X.P w = .ok sz w)
    (hx : ev E x = some (sVal ob k n c)) (hy : ev E y = some (.int kk 1)) (hn : n = m + 1) : Runs X o E H (sVal ob (if c = 1 then k else k + sz) m (c - 1)) := by
  subst hob hn
  have h := R_sliceFromK (m := 1) (H := H) ho hu hs hx hy (by omega)
  rw [Nat.one_mul] at h
  exact h
/-- append, from such a slice. -/
theorem D_appendS {t e e2 : TypeId} {sz bytes k n c m mc b2 k2 : Nat} {zs pre xs tl cs2 news : List Value} {ob : Option Nat} {x y : Operand} {F : Heap}
    (ho : o.op = .call { callee := .builtin .append, args := #[x, y], argTypes := #[t, t] }) (hs : SI X.P t e sz bytes zs) (hx : ev E x = some (sVal ob k n c)) (hown : OwnS ob k n c sz pre xs tl) (hp : Pull ⟨ob, cl (pre ++ (xs ++ tl)) e⟩ H F)
    (hy : ev E y = some (.slice (some ⟨b2, k2, none⟩) m mc)) (hm : (⟨some b2, cl cs2 e2⟩ : Ent) ∈ H) (hat : At cs2 k2 news) (hl : news.length = m * sz) (h1 : news.all Value.oneCell' = true) (hm0 : 0 < m) (hroom : (n + m) * bytes ≤ 140737488355328) (h63 : n + m ≤ 9223372036854775807) :
    Does X o E H (fun v H' => ∃ ob' k' c' pre' tl', v = sVal ob' k' (n + m) c' ∧ OwnS ob' k' (n + m) c' sz pre' (xs ++ news) tl' ∧ H' = ⟨ob', cl (pre' ++ (xs ++ news ++ tl')) e⟩ :: F) := by
  intro a w ha hw next Q kk
  obtain ⟨g1, i, z, g2, g3, g4, g5, g6, g7, g8⟩ := hs
  refine ⟨about_true, ?_⟩
  rw [semAt_of (by rw [ho]; intro c e; cases e)]
  have hnews := cells_at hw hm hat
  have hexec : ∀ v w', (Builtin.append_ #[t, t] o.type #[sVal ob k n c, .slice (some ⟨b2, k2, none⟩) m mc]).run X.P w = .ok v w' → (execOp a.eval o).run X.P w = .ok (.value v) w' := fun v w' h => by
    simp [execOp, ho, resolve, ha.eval hx, ha.eval hy, invoke, builtin, h]
  have hl' : news.length = m * i.size := by rw [g4]; exact hl
  cases ob with
  | none =>
    obtain ⟨hc, hpre⟩ := hown.nil rfl
    have hn : n = 0 := by have := hown.le; omega
    subst hn; subst hc; subst hpre
    have hxs : xs = [] := List.eq_nil_of_length_eq_zero (by simpa using hown.len)
    subst hxs
    have hr := run_append_nil (P := X.P) w t o.type e i z g1 g2 g3 ⟨b2, k2, none⟩ m mc news hl' hnews hm0 (by omega) (by rw [g5]; simp only [Nat.zero_add] at hroom; omega)
    rw [hexec _ _ hr]
    obtain ⟨tl', e1, e2⟩ := grown_own (w := w) (n := 0) (m := m) (c := 0) (e := e) (xs := []) (news := news) (zs := zs) (by simp) hl g7 h63 w.heap.size
    simp only [Nat.zero_add, List.nil_append, Array.empty_append] at e1 e2
    rw [g6]
    rw [e1]
    refine kk _ _ _ ⟨some w.heap.size, 0, _, [], tl', ?_, OwnS.of (by simpa using e2), rfl⟩ (((hw.drop hp).drew).alloc (cl (news ++ tl') e))
    simp
  | some b =>
    have hb : w.heap[b]? = some (cl (pre ++ (xs ++ tl)) e) := by
      have := hw.hok.ok _ (pull_mem hp)
      simpa [Ent.ok] using this
    by_cases hfit : n + m ≤ c
    · have hk : pre.length = k := by
        rcases hown.off with e9 | e9
        · exact e9
        · omega
      have hlen : (xs ++ news).length = (n + m) * sz := by rw [List.length_append, hown.len, hl, Nat.add_mul]
      have h3 := hown.cap
      have h5 := Nat.mul_le_mul_right sz hfit
      rw [← hlen, ← h3, List.length_append] at h5
      have hfc := run_firstCells_some (P := X.P) w i.size m ⟨b2, k2, none⟩ m mc news hl' hnews
      obtain ⟨w', s1, s2, s3, s4, s5, s6, s7, s8⟩ := run_storeCells_at (P := X.P) (b := b) (e := e) (k + n * i.size) news 0 (pre ++ (xs ++ tl)) w hb (by rw [g4, ← hown.len]; simp only [List.length_append]; omega) (List.all_eq_true.1 h1)
      have hr : (Builtin.append_ #[t, t] o.type #[sVal (some b) k n c, .slice (some ⟨b2, k2, none⟩) m mc]).run X.P w = .ok (sVal (some b) k (n + m) c) w' := by
        simp [Builtin.append_, run_underlying g1, sizeOf, typeInfo, g2, Builtin.lenOf, hfit, hfc, add_at, s1]
      rw [hexec _ _ hr]
      have hput : putAt (pre ++ (xs ++ tl)) (k + n * i.size + 0) news = pre ++ (xs ++ news ++ tl.drop news.length) := by
        rw [g4, ← hown.len, ← hk, Nat.add_zero, putAt_append, show xs.length = xs.length + 0 from rfl, putAt_append, putAt_eq _ _ _ (by omega)]
        simp
      refine kk _ _ _ ⟨some b, k, c, pre, tl.drop news.length, rfl, ⟨.inl hk, hlen, ?_, hfit, hown.big, fun h => by cases h⟩, rfl⟩ ?_
      · simp only [List.length_append, List.length_drop]
        omega
      · rw [hput] at s3
        exact hw.turn hp s2 s3 s4 s5 s6 s7 s8
    · have holds : ∀ j u, xs[j]? = some u → w.cell? ((⟨b, k, none⟩ : Addr).add j) = some u :=
        cells_at hw (pull_mem hp) (fun j u hj => by
          have hlt := (List.getElem?_eq_some_iff.1 hj).1
          have hn : 0 < n := by
            rcases Nat.eq_zero_or_pos n with q | q
            · have := hown.len; rw [q, Nat.zero_mul] at this; omega
            · exact q
          have hk := hown.at_ hn
          rw [List.getElem?_append_right (by omega), show k + j - pre.length = j from by omega, List.getElem?_append_left hlt]
          exact hj)
      have hr := run_append_grow (P := X.P) w t o.type e i z g1 g2 g3 ⟨b, k, none⟩ n c xs (by rw [g4]; exact hown.len) holds ⟨b2, k2, none⟩ m mc news hl' hnews (by omega) (by omega) (growslice_fits (by omega) (by rw [g5]; exact hroom))
      rw [hexec _ _ hr]
      obtain ⟨tl', e1, e2⟩ := grown_own (w := w) (n := n) (m := m) (c := c) (e := e) (xs := xs) (news := news) (zs := zs) hown.len hl g7 h63 w.heap.size
      rw [g6, e1]
      exact kk _ _ _ ⟨some w.heap.size, 0, _, [], tl', rfl, OwnS.of e2, rfl⟩ (((hw.drop hp).drew).alloc (cl (xs ++ news ++ tl') e))
end
end Go.Proofs.YtkcfgglmlogjbaaGreat
end
section
set_option linter.unusedVariables false
namespace Go.Proofs.YtkcfgglmlogjbaaGreat
/-- Cells that are known: block, place, value. -/
def PtW (ps : List (Nat × Nat × Value)) (w : World) : Prop := ∀ t ∈ ps, ∃ cs e, w.heap[t.1]? = some (cl cs e) ∧ cs[t.2.1]? = some t.2.2
inductive PtH (H : Heap) : List (Nat × Nat × Value) → Prop
  | nil : PtH H []
  | cons {b j : Nat} {v : Value} {cs : List Value} {e : TypeId} {ps : List (Nat × Nat × Value)} : (⟨some b, cl cs e⟩ : Ent) ∈ H → cs[j]? = some v → PtH H ps → PtH H ((b, j, v) :: ps)
theorem PtH.here {H H0 : Heap} {w0 w : World} {ps : List (Nat × Nat × Value)} (h : PtH H ps) (hw : HW H0 w0 H w) : PtW ps w := by
  induction h with
  | nil => intro t ht; cases ht
  | cons h1 h2 _ ih =>
    intro t ht
    rcases List.mem_cons.1 ht with rfl | ht
    · exact ⟨_, _, hw.hok.ok _ h1, h2⟩
    · exact ih t ht
theorem PtW.bel {ps : List (Nat × Nat × Value)} {w w' : World} (h : PtW ps w) (hb : Bel w w') : PtW ps w' := fun t ht => by
  obtain ⟨cs, e, h1, h2⟩ := h t ht
  exact ⟨cs, e, by rw [hb.block _ (Array.getElem?_eq_some_iff.1 h1).1]; exact h1, h2⟩
abbrev CX (X : Ctx) (ps : List (Nat × Nat × Value)) (Hq : Heap) (w : World) : Prop := HW X.H0 X.w0 Hq w ∧ PtW ps w
section
variable {X : Ctx} {ops : Array Oper} {p : Post} {Hq : Heap} {E : Env} {H F : Heap} {r : List (Nat × Tag)} {i : Nat} {o : Oper} {B : List Nat} {ps : List (Nat × Nat × Value)}
end
end Go.Proofs.YtkcfgglmlogjbaaGreat
end
section
set_option linter.unusedVariables false
set_option linter.unusedSectionVars false
namespace Go.Proofs.YtkcfgglmlogjbaaGreat
open Go.RowKit (Below)
section
variable (X : Ctx) (ops : Array Oper) (p : Post) (C C1 : World → Prop) (N : List Nat)
def AnyK : Nat → Array Bool → Act → World → Prop
  | 0, listed, a, w => Region.ready .any ops listed = [] ∧ p.nrm a w
  | fuel + 1, listed, a, w => (Region.ready .any ops listed = [] → p.nrm a w) ∧
    ∀ i ∈ Region.ready .any ops listed, wpOpIn (fen X.ro) 0 X.P ops p.toQ i (fun a' w' => C w' ∧ (N.contains i = false → C1 w → C1 w') ∧ ∀ w'', Bel w' w'' → AnyK fuel (listed.setIfInBounds i true) a' w'') a w
end
section
variable {X : Ctx} {ops : Array Oper} {p : Post} [NoPan p] {C C1 : World → Prop} {N : List Nat}
theorem AnyK.sound : ∀ (fuel : Nat) (listed : Array Bool) (a : Act) (w : World), AnyK X ops p C C1 N fuel listed a w → wpAnyIn (fen X.ro) 0 X.P .any ops p.toQ fuel listed a w
  | 0, _, _, _, h => h
  | fuel + 1, _, _, _, h => ⟨h.1, fun i hi => wpOpIn_mono (fun a' w' k => AnyK.sound fuel _ a' w' (k.2.2 w' (Bel.refl _))) (h.2 i hi)⟩
/-- A quiet operation, of any world in C. -/
theorem AnyK.take {i : Nat} {oi : Oper} {v : Value} (h1b : ∀ w w', C1 w → Bel w w' → C1 w') (hCb : ∀ w w', C w → Bel w w' → C w') (hi : ops[i]? = some oi) (hsd : noSD ops = true) :
    ∀ (fuel : Nat) (listed : Array Bool) (a : Act) (w : World),
      (∀ j oj, ops[j]? = some oj → j ≠ i → listed.getD j true = false → (∀ e ∈ oj.after, Region.binds .any e = true → e.on ≠ i) → oi.apart ops oj = true) →
      i ∈ Region.ready .any ops listed → YieldsC X ops C oi v a → C w →
      (∀ w', Bel w w' → AnyK X ops p C C1 N fuel (listed.setIfInBounds i true) (a.put oi.dst v) w') → AnyK X ops p C C1 N (fuel + 1) listed a w := by
  intro fuel
  induction fuel with
  | zero =>
    intro listed a w _ hr hy hC H
    refine ⟨fun h => (by rw [h] at hr; cases hr), fun j hj => ?_⟩
    by_cases hji : j = i
    · subst hji
      exact hy.wpOp hi (noSD_sel hsd hi).2 hC fun w' hb => ⟨hCb w w' hC hb, fun _ h => h1b _ _ h hb, fun w'' hb' => H w'' (hb.trans' hb')⟩
    · have := ready_mono hj hji
      rw [(H w (Bel.refl _)).1] at this
      cases this
  | succ fuel ih =>
    intro listed a w hfree hr hy hC H
    refine ⟨fun h => (by rw [h] at hr; cases hr), fun j hj => ?_⟩
    by_cases hji : j = i
    · subst hji
      exact hy.wpOp hi (noSD_sel hsd hi).2 hC fun w' hb => ⟨hCb w w' hC hb, fun _ h => h1b _ _ h hb, fun w'' hb' => H w'' (hb.trans' hb')⟩
    · have h1 := (H w (Bel.refl _)).2 j (ready_mono hj hji)
      obtain ⟨hjun, oj, hoj, hall⟩ := mem_ready.1 hj
      have hnot : ∀ e ∈ oj.after, Region.binds .any e = true → e.on ≠ i := fun e he hb heq => by
        have h1 := hall e he hb
        have h0 := (mem_ready.1 hr).1
        rw [heq] at h1
        rcases Nat.lt_or_ge i listed.size with h' | h'
        · simp [h'] at h0 h1; rw [h0] at h1; cases h1
        · simp [Array.getElem?_eq_none h'] at h1
      have h2 := wpOpIn_putC hoj (hfree j oj hoj hji hjun hnot) (noSD_sel hsd hi).1 (noSD_sel hsd hoj).1 (noSD_sel hsd hoj).2 hy h1
      have hfree' : ∀ k ok, ops[k]? = some ok → k ≠ i → (listed.setIfInBounds j true).getD k true = false →
          (∀ e ∈ ok.after, Region.binds .any e = true → e.on ≠ i) → oi.apart ops ok = true := fun k ok hk hki hun hno => by
        refine hfree k ok hk hki ?_ hno
        by_cases hjk : j = k
        · subst hjk; exact hjun
        · rw [getD_set_ne true hjk] at hun; exact hun
      refine wpOpIn_mono (fun a' w' h3 => ⟨h3.2.1, h3.2.2.1, fun w'' hb => ?_⟩) h2
      refine ih (listed.setIfInBounds j true) a' w'' hfree' (ready_mono hr (Ne.symm hji)) h3.1 (hCb _ _ h3.2.1 hb) fun w3 hb3 => ?_
      rw [Array.setIfInBounds_comm _ _ hji]
      exact h3.2.2.2 w3 (hb.trans' hb3)
/-- A quiet operation that all that turns something waits for: of any world in C1. -/
theorem AnyK.take1 {i : Nat} {oi : Oper} {v : Value} (h1b : ∀ w w', C1 w → Bel w w' → C1 w') (h1C : ∀ w, C1 w → C w) (hi : ops[i]? = some oi) (hsd : noSD ops = true)
    (hN : ∀ j oj, N.contains j = true → ops[j]? = some oj → ∃ n, reach ops i n j = true) :
    ∀ (fuel : Nat) (listed : Array Bool) (a : Act) (w : World), Closed ops listed →
      (∀ j oj, ops[j]? = some oj → j ≠ i → listed.getD j true = false → (∀ e ∈ oj.after, Region.binds .any e = true → e.on ≠ i) → oi.apart ops oj = true) →
      i ∈ Region.ready .any ops listed → YieldsC X ops C1 oi v a → C1 w →
      (∀ w', Bel w w' → AnyK X ops p C C1 N fuel (listed.setIfInBounds i true) (a.put oi.dst v) w') → AnyK X ops p C C1 N (fuel + 1) listed a w := by
  intro fuel
  induction fuel with
  | zero =>
    intro listed a w _ _ hr hy hC H
    refine ⟨fun h => (by rw [h] at hr; cases hr), fun j hj => ?_⟩
    by_cases hji : j = i
    · subst hji
      exact hy.wpOp hi (noSD_sel hsd hi).2 hC fun w' hb => ⟨h1C _ (h1b w w' hC hb), fun _ h => h1b _ _ h hb, fun w'' hb' => H w'' (hb.trans' hb')⟩
    · have := ready_mono hj hji
      rw [(H w (Bel.refl _)).1] at this
      cases this
  | succ fuel ih =>
    intro listed a w hcl hfree hr hy hC H
    refine ⟨fun h => (by rw [h] at hr; cases hr), fun j hj => ?_⟩
    by_cases hji : j = i
    · subst hji
      exact hy.wpOp hi (noSD_sel hsd hi).2 hC fun w' hb => ⟨h1C _ (h1b w w' hC hb), fun _ h => h1b _ _ h hb, fun w'' hb' => H w'' (hb.trans' hb')⟩
    · have h1 := (H w (Bel.refl _)).2 j (ready_mono hj hji)
      obtain ⟨hjun, oj, hoj, hall⟩ := mem_ready.1 hj
      have hnot : ∀ e ∈ oj.after, Region.binds .any e = true → e.on ≠ i := fun e he hb heq => by
        have h1 := hall e he hb
        have h0 := (mem_ready.1 hr).1
        rw [heq] at h1
        rcases Nat.lt_or_ge i listed.size with h' | h'
        · simp [h'] at h0 h1; rw [h0] at h1; cases h1
        · simp [Array.getElem?_eq_none h'] at h1
      have hjN : N.contains j = false := by
        cases hc : N.contains j with
        | false => rfl
        | true =>
          obtain ⟨n, hn⟩ := hN j oj hc hoj
          have h8 := hcl.reach i n j oj hoj (fun e he hb => getD_up (hall e he hb)) hn
          have h9 := (mem_ready.1 hr).1
          rw [h8] at h9; cases h9
      have h2 := wpOpIn_putC hoj (hfree j oj hoj hji hjun hnot) (noSD_sel hsd hi).1 (noSD_sel hsd hoj).1 (noSD_sel hsd hoj).2 hy h1
      have hfree' : ∀ k ok, ops[k]? = some ok → k ≠ i → (listed.setIfInBounds j true).getD k true = false →
          (∀ e ∈ ok.after, Region.binds .any e = true → e.on ≠ i) → oi.apart ops ok = true := fun k ok hk hki hun hno => by
        refine hfree k ok hk hki ?_ hno
        by_cases hjk : j = k
        · subst hjk; exact hjun
        · rw [getD_set_ne true hjk] at hun; exact hun
      refine wpOpIn_mono (fun a' w' h3 => ⟨h3.2.1, h3.2.2.1, fun w'' hb => ?_⟩) h2
      refine ih (listed.setIfInBounds j true) a' w'' (hcl.step hj) hfree' (ready_mono hr (Ne.symm hji)) h3.1 (h1b _ _ (h3.2.2.1 hjN hC) hb) fun w3 hb3 => ?_
      rw [Array.setIfInBounds_comm _ _ hji]
      exact h3.2.2.2 w3 (hb.trans' hb3)
/-- The second part: '(i, true)': quiet; '(i, false)': turns something. -/
def MK (X : Ctx) (ops : Array Oper) (p : Post) (C1 C : World → Prop) (N : List Nat) : List (Nat × Bool) → Act → World → Prop
  | [], a, w => p.nrm a w
  | (i, true) :: r, a, w => ∃ o v, ops[i]? = some o ∧ YieldsC X ops C o v a ∧ ∀ w', Bel w w' → MK X ops p C1 C N r (a.put o.dst v) w'
  | (i, false) :: r, a, w => wpOpIn (fen X.ro) 0 X.P ops p.toQ i (fun a' w' => C w' ∧ (N.contains i = false → C1 w → C1 w') ∧ ∀ w'', Bel w' w'' → MK X ops p C1 C N r a' w'') a w
theorem MK.anyK (h1b : ∀ w w', C1 w → Bel w w' → C1 w') (hCb : ∀ w w', C w → Bel w w' → C w') (hsd : noSD ops = true) : ∀ (l : List (Nat × Bool)) (listed : Array Bool) (a : Act) (w : World), orderB ops l listed = true → C w → MK X ops p C1 C N l a w →
    AnyK X ops p C C1 N l.length listed a w
  | [], listed, a, w, hB, _, h => ⟨by simpa [orderB] using hB, h⟩
  | (i, true) :: r, listed, a, w, hB, hC, h => by
    simp only [orderB, cond_true, Bool.and_eq_true, List.contains_iff_mem] at hB
    obtain ⟨⟨h1, h2⟩, h3⟩ := hB
    obtain ⟨o, v, ho, hy, hk⟩ := h
    exact AnyK.take h1b hCb ho hsd r.length listed a w (Region.free_spec ho h2) h1 hy hC fun w' hb => MK.anyK h1b hCb hsd r _ _ w' h3 (hCb w w' hC hb) (hk w' hb)
  | (i, false) :: r, listed, a, w, hB, hC, h => by
    simp only [orderB, cond_false, Bool.and_eq_true, beq_iff_eq] at hB
    obtain ⟨h1, h3⟩ := hB
    refine ⟨fun e => (by rw [h1] at e; cases e), fun j hj => ?_⟩
    rw [h1, List.mem_singleton] at hj
    subst hj
    exact wpOpIn_mono (fun a' w' hk => ⟨hk.1, hk.2.1, fun w'' hb => MK.anyK h1b hCb hsd r _ _ w'' h3 (hCb _ _ hk.1 hb) (hk.2.2 w'' hb)⟩) h
/-- The first part: '(i, true)' reads memory ars it was; '(i, false)': quiet in any world. -/
def MY (X : Ctx) (ops : Array Oper) (p : Post) (C1 C : World → Prop) (N : List Nat) (r : List (Nat × Bool)) : List (Nat × Bool) → Act → World → Prop
  | [], a, w => MK X ops p C1 C N r a w
  | (i, true) :: es, a, w => ∃ o v, ops[i]? = some o ∧ YieldsC X ops C1 o v a ∧ ∀ w', Bel w w' → MY X ops p C1 C N r es (a.put o.dst v) w'
  | (i, false) :: es, a, w => ∃ o v, ops[i]? = some o ∧ YieldsC X ops C o v a ∧ ∀ w', Bel w w' → MY X ops p C1 C N r es (a.put o.dst v) w'
theorem MY.anyK (r : List (Nat × Bool)) (h1b : ∀ w w', C1 w → Bel w w' → C1 w') (h1C : ∀ w, C1 w → C w) (hCb : ∀ w w', C w → Bel w w' → C w') (hsd : noSD ops = true) :
    ∀ (es : List (Nat × Bool)) (listed : Array Bool) (a : Act) (w : World), Closed ops listed → orderE ops N r es listed = true → C1 w → MY X ops p C1 C N r es a w → AnyK X ops p C C1 N (es.length + r.length) listed a w
  | [], listed, a, w, _, hB, hC, h => by
    simp only [List.length_nil, Nat.zero_add]
    exact MK.anyK h1b hCb hsd r listed a w hB (h1C w hC) h
  | (i, true) :: es, listed, a, w, hcl, hB, hC, h => by
    simp only [orderE, Bool.and_eq_true, List.contains_iff_mem, Bool.not_true, Bool.false_or] at hB
    obtain ⟨⟨⟨h1, h2⟩, h3⟩, h4⟩ := hB
    obtain ⟨o, v, ho, hy, hk⟩ := h
    rw [show ((i, true) :: es).length + r.length = (es.length + r.length) + 1 from by simp only [List.length_cons]; omega]
    exact AnyK.take1 h1b h1C ho hsd (waitsFor_spec h3) _ listed a w hcl (Region.free_spec ho h2) h1 hy hC fun w' hb => MY.anyK r h1b h1C hCb hsd es _ _ w' (hcl.step h1) h4 (h1b w w' hC hb) (hk w' hb)
  | (i, false) :: es, listed, a, w, hcl, hB, hC, h => by
    simp only [orderE, Bool.and_eq_true, List.contains_iff_mem] at hB
    obtain ⟨⟨⟨h1, h2⟩, _⟩, h4⟩ := hB
    obtain ⟨o, v, ho, hy, hk⟩ := h
    rw [show ((i, false) :: es).length + r.length = (es.length + r.length) + 1 from by simp only [List.length_cons]; omega]
    exact AnyK.take h1b hCb ho hsd _ listed a w (Region.free_spec ho h2) h1 hy (h1C w hC) fun w' hb => MY.anyK r h1b h1C hCb hsd es _ _ w' (hcl.step h1) h4 (h1b w w' hC hb) (hk w' hb)
end
/-- The walk over states, first part. -/
def WYE (X : Ctx) (ops : Array Oper) (p : Post) (ps : List (Nat × Nat × Value)) (Hq : Heap) (N : List Nat) (r es : List (Nat × Bool)) (E : Env) (H : Heap) : Prop := ∀ a w, AE X E a → HW X.H0 X.w0 H w → MY X ops p (CX X ps Hq) (fun w => HW X.H0 X.w0 Hq w) N r es a w
def WY (X : Ctx) (ops : Array Oper) (p : Post) (ps : List (Nat × Nat × Value)) (Hq : Heap) (N : List Nat) (r : List (Nat × Bool)) (E : Env) (H : Heap) : Prop := ∀ a w, AE X E a → HW X.H0 X.w0 H w → MK X ops p (CX X ps Hq) (fun w => HW X.H0 X.w0 Hq w) N r a w
section
variable {X : Ctx} {ops : Array Oper} {p : Post} {Hq : Heap} {E : Env} {H F : Heap} {r es : List (Nat × Bool)} {i : Nat} {o : Oper} {ps : List (Nat × Nat × Value)} {N : List Nat}
theorem WC_drawY [NoPan p] {id : Nat} {l : List Oper} (xs : Heap) (ps : List (Nat × Nat × Value)) (N : List Nat) (es ord : List (Nat × Bool)) (hm : X.P.follows .mixedOrders = true) (hsd : noSD l.toArray = true) (hlen : es.length + ord.length = l.length)
    (hB : orderE l.toArray N ord es (Array.replicate l.length false) = true) (hq : Pulls xs H Hq) (hp : PtH H ps) (h : WYE X l.toArray p ps Hq N ord es E H) : WC X (.region id l.toArray true) p E H := by
  intro a w ha hw
  refine wpIn_region_any hm ?_
  have hb : Bel w { w with drawn := w.drawn + 1 } := Bel.drew' w
  have hw1 := hw.bel hb
  have h1 := MY.anyK (X := X) (p := p) (N := N) (C1 := CX X ps Hq) (C := fun w => HW X.H0 X.w0 Hq w) ord (fun _ _ h b => ⟨h.1.bel b, h.2.bel b⟩) (fun _ h => h.1) (fun _ _ h b => h.bel b) hsd es _ a _ (closed0 l) hB ⟨pulls_rest hq hw1, hp.here hw1⟩ (h a _ ha hw1)
  rw [hlen] at h1
  have := AnyK.sound _ _ _ _ h1
  simpa using this
theorem WYE_rest (h : WY X ops p ps Hq N r E H) : WYE X ops p ps Hq N r [] E H := h
/-- A load of a cell that is known. -/
theorem WYE_early {d : Nat} {t : TypeId} {x : Operand} {b j : Nat} {v : Value} (ho : ops[i]? = some o) (hg : wantedE ops E o = some true) (hd : o.dst = some d) (hN : Nat.blt d X.N = true) (hop : o.op = .load t x) (ht : Sc X.P t) (hx : ev E x = some (.pointer (some ⟨b, j, none⟩))) (hm : (b, j, v) ∈ ps)
    (k : WYE X ops p ps Hq N r es ((d, v) :: E) H) : WYE X ops p ps Hq N r ((i, true) :: es) E H := fun a w ha hw =>
  ⟨o, v, ho, .inl ⟨wantedE_spec ha hg, fun w' hw' => .inl (by
    obtain ⟨cs, e, h1, h2⟩ := hw'.2 _ hm
    have hc : w'.cell? ⟨b, j, none⟩ = some v := by simp only [World.cell?, h1, cl]; simpa using h2
    simp [execOp, hop, ha.eval hx, Instr.loadAt, Instr.sureAddr, loadVar, (ht w').1, hc])⟩, fun w' hb => k _ _ (by rw [hd]; exact ha.put d v hN) (hw.bel hb)⟩
theorem WYE_val {d : Nat} {v : Value} (ho : ops[i]? = some o) (hg : wantedE ops E o = some true) (hd : o.dst = some d) (hN : Nat.blt d X.N = true) (h : Runs X o E Hq v)
    (k : WYE X ops p ps Hq N r es ((d, v) :: E) H) : WYE X ops p ps Hq N r ((i, false) :: es) E H := fun a w ha hw =>
  ⟨o, v, ho, .inl ⟨wantedE_spec ha hg, fun w' hw' => .inl (h.2 a w' ha hw')⟩, fun w' hb => k _ _ (by rw [hd]; exact ha.put d v hN) (hw.bel hb)⟩
theorem WY_nil (h : WQ X p.nrm E H) : WY X ops p ps Hq N [] E H := h
theorem WY_val {d : Nat} {v : Value} (ho : ops[i]? = some o) (hg : wantedE ops E o = some true) (hd : o.dst = some d) (hN : Nat.blt d X.N = true) (h : Runs X o E Hq v)
    (k : WY X ops p ps Hq N r ((d, v) :: E) H) : WY X ops p ps Hq N ((i, true) :: r) E H := fun a w ha hw =>
  ⟨o, v, ho, .inl ⟨wantedE_spec ha hg, fun w' hw' => .inl (h.2 a w' ha hw')⟩, fun w' hb => k _ _ (by rw [hd]; exact ha.put d v hN) (hw.bel hb)⟩
/-- An operation that turns something, where no other may come up: 'stay': the known cells stay. -/
theorem WY_do {d : Nat} {R : Value → Heap → Prop} (ho : ops[i]? = some o) (hg : wantedE ops E o = some true) (hd : o.dst = some d) (hN : Nat.blt d X.N = true) (h : Does X o E H R)
    (k : ∀ v H', R v H' → (∃ F, Pulls Hq H' F) ∧ (N.contains i = true ∨ PtH H' ps) ∧ WY X ops p ps Hq N r ((d, v) :: E) H') : WY X ops p ps Hq N ((i, false) :: r) E H := by
  intro a w ha hw
  simp only [MK, wpOpIn, ho, wantedE_spec ha hg, if_true]
  refine h a w ha hw _ _ fun v H' w' hr hw' => ?_
  obtain ⟨⟨F, hq⟩, hs, k2⟩ := k v H' hr
  refine ⟨(hw'.perm hq.perm).left, fun hf _ => ?_, fun w'' hb => k2 _ _ (by rw [hd]; exact ha.put d v hN) (hw'.bel hb)⟩
  rcases hs with hs | hs
  · rw [hf] at hs; cases hs
  · exact ⟨(hw'.perm hq.perm).left, hs.here hw'⟩
theorem WY_do0 {R : Value → Heap → Prop} (ho : ops[i]? = some o) (hg : wantedE ops E o = some true) (hd : o.dst = none) (h : Does X o E H R)
    (k : ∀ v H', R v H' → (∃ F, Pulls Hq H' F) ∧ (N.contains i = true ∨ PtH H' ps) ∧ WY X ops p ps Hq N r E H') : WY X ops p ps Hq N ((i, false) :: r) E H := by
  intro a w ha hw
  simp only [MK, wpOpIn, ho, wantedE_spec ha hg, if_true]
  refine h a w ha hw _ _ fun v H' w' hr hw' => ?_
  obtain ⟨⟨F, hq⟩, hs, k2⟩ := k v H' hr
  refine ⟨(hw'.perm hq.perm).left, fun hf _ => ?_, fun w'' hb => k2 _ _ (by rw [hd]; exact ha.put0 v) (hw'.bel hb)⟩
  rcases hs with hs | hs
  · rw [hf] at hs; cases hs
  · exact ⟨(hw'.perm hq.perm).left, hs.here hw'⟩
theorem WY_set {s : Nat} {v v' : Value} {l : List (Nat × Bool)} (h : gtE E s = some v') (he : v' = v) (k : WY X ops p ps Hq N l ((s, v) :: E) H) : WY X ops p ps Hq N l E H := by
  subst he
  intro a w ha hw
  refine k a w ⟨ha.size, ha.defers, fun t v ht => ?_⟩ hw
  rw [get_cons] at ht
  split at ht
  · rename_i e; subst e; cases ht; exact ha.env _ _ h
  · exact ha.env _ _ ht
end
end Go.Proofs.YtkcfgglmlogjbaaGreat
end
section
namespace Go.Proofs.YtkcfgglmlogjbaaGreat
section
variable {X : Ctx} {E : Env} {H : Heap} {o : Oper} {ob : Option Nat} {b : Nat}
theorem R_idxO {t u : TypeId} {x y : Operand} {n c sz i : Nat} {kk : IntKind} (hob : ob = some b) (ho : o.op = .indexAddr t x y) (hu : X.P.underlying t = some (.slice u)) (hs : ∀ w, (sizeOf u).run X.P w = .ok sz w)
    (hx : ev E x = some (slV ob n c)) (hy : ev E y = some (.int kk (i : Int))) (hi : i < n) : Runs X o E H (.pointer (some ⟨b, 0 + i * sz, none⟩)) := by
  subst hob
  exact R_indexAddrN ho hu hs hx hy hi
theorem R_loadO {t : TypeId} {x : Operand} {k : Nat} {cs : List Value} {e : TypeId} {v : Value} (hob : ob = some b) (ho : o.op = .load t x) (ht : Sc X.P t) (hx : ev E x = some (.pointer (some ⟨b, k, none⟩)))
    (hm : (⟨ob, cl cs e⟩ : Ent) ∈ H) (hv : cs[k]? = some v) : Runs X o E H v := by
  subst hob
  exact R_load ho ht hx hm hv
theorem R_loadAO {t : TypeId} {x : Operand} {k n : Nat} {cs : List Value} {e : TypeId} {vs : List Value} (hob : ob = some b) (ho : o.op = .load t x) (ht : Ag X.P t n) (hx : ev E x = some (.pointer (some ⟨b, k, none⟩)))
    (hm : (⟨ob, cl cs e⟩ : Ent) ∈ H) (hn : vs.length = n) (hv : At cs k vs) : Runs X o E H (.agg vs.toArray) := by
  subst hob
  exact R_loadA ho ht hx hm hn hv
end
end Go.Proofs.YtkcfgglmlogjbaaGreat
end
section
set_option linter.unusedVariables false
namespace Go.Proofs.YtkcfgglmlogjbaaGreat
section
variable {X : Ctx} {E : Env} {H : Heap} {o : Oper}
theorem D_appendIn {t e : TypeId} {sz bytes m mc : Nat} {zs news : List Value} {oa : Option Addr} {x y : Operand}
    (ho : o.op = .call { callee := .builtin .append, args := #[x, y], argTypes := #[t, t] }) (hs : SI X.P t e sz bytes zs) (hx : ev E x = some (.slice none 0 0)) (hy : ev E y = some (.slice oa m mc))
    (hin : 0 < m → ∃ b k cs e2 fr, oa = some ⟨b, k, none⟩ ∧ (⟨some b, .cells (List.toArray cs) e2 fr⟩ : Ent) ∈ H ∧ At cs k news) (hl : news.length = m * sz) (hroom : m * bytes ≤ 140737488355328) (h63 : m ≤ 9223372036854775807) :
    Does X o E H (fun v H' => ∃ ob' c' tl', v = slV ob' m c' ∧ Own ob' m c' sz news tl' ∧ H' = ⟨ob', cl (news ++ tl') e⟩ :: H) := by
  intro a w ha hw next Q kk
  obtain ⟨g1, i, z, g2, g3, g4, g5, g6, g7, g8⟩ := hs
  refine ⟨about_true, ?_⟩
  rw [semAt_of (by rw [ho]; intro c e; cases e)]
  have hexec : ∀ v w', (Builtin.append_ #[t, t] o.type #[slV none 0 0, .slice oa m mc]).run X.P w = .ok v w' → (execOp a.eval o).run X.P w = .ok (.value v) w' := fun v w' h => by
    have h' : (Builtin.append_ #[t, t] o.type #[.slice none 0 0, .slice oa m mc]).run X.P w = .ok v w' := h
    simp [execOp, ho, resolve, ha.eval hx, ha.eval hy, invoke, builtin, h']
  have hl' : news.length = m * i.size := by rw [g4]; exact hl
  by_cases hm0 : m = 0
  · subst hm0
    have hne : news = [] := List.eq_nil_of_length_eq_zero (by simpa using hl)
    subst hne
    have hr : (Builtin.append_ #[t, t] o.type #[slV none 0 0, .slice oa 0 mc]).run X.P w = .ok (slV none 0 0) w := by
      cases oa <;> simp [Builtin.append_, slV, run_underlying g1, sizeOf, typeInfo, g2, Builtin.lenOf, Builtin.firstCells, loadCells, loadCellsFrom]
    rw [hexec _ _ hr]
    refine kk _ _ _ ⟨none, 0, [], rfl, Own.empty sz, rfl⟩ ?_
    exact hw.addNone e
  · obtain ⟨b2, k2, cs2, e2, fr, rfl, hm, hat⟩ := hin (by omega)
    have hnews : ∀ j v, news[j]? = some v → w.cell? ((⟨b2, k2, none⟩ : Addr).add j) = some v := fun j v hj => by
      rw [add_at, cell_ofG hw hm]; exact hat j v hj
    have hr := run_append_nil (P := X.P) w t o.type e i z g1 g2 g3 ⟨b2, k2, none⟩ m mc news hl' hnews (by omega) (by omega) (by rw [g5]; omega)
    rw [hexec _ _ hr]
    obtain ⟨tl', e1, e2⟩ := grown_own (w := w) (n := 0) (m := m) (c := 0) (e := e) (xs := []) (news := news) (zs := zs) (by simp) hl g7 (by omega) w.heap.size
    simp only [Nat.zero_add, List.nil_append, Array.empty_append] at e1 e2
    rw [g6]
    rw [e1]
    refine kk _ _ _ ⟨some w.heap.size, _, tl', ?_, by simpa using e2, rfl⟩ ((hw.drew).alloc (cl (news ++ tl') e))
    simp [slV]
/-- x[0:] of nil. -/
theorem R_sliceFromNil {t u : TypeId} {x y : Operand} {sz : Nat} {kk : IntKind} (ho : o.op = .slice t x (some y) none none) (hu : X.P.underlying t = some (.slice u)) (hs : ∀ w, (sizeOf u).run X.P w = .ok sz w)
    (hx : ev E x = some (.slice none 0 0)) (hy : ev E y = some (.int kk 0)) : Runs X o E H (.slice none 0 0) :=
  ⟨(by rw [ho]; intro c e; cases e), fun a w ha _ => by
    simp [execOp, ho, ha.eval hx, ha.eval hy, Instr.sliceAt, Instr.slice, Instr.sliceBounds, Instr.sliceBound, asIntOf, run_underlying hu, hs w]⟩
end
end Go.Proofs.YtkcfgglmlogjbaaGreat
end
section
set_option linter.unusedVariables false
namespace Go.Proofs.YtkcfgglmlogjbaaGreat
section
variable {X : Ctx} {E : Env} {H : Heap} {o : Oper}
theorem OwnS.at_all {ob : Option Nat} {k n c sz : Nat} {pre xs tl : List Value} (h : OwnS ob k n c sz pre xs tl) : At (pre ++ (xs ++ tl)) k xs := fun j v hj => by
  have hl := (List.getElem?_eq_some_iff.1 hj).1
  have hn : 0 < n := by
    rcases Nat.eq_zero_or_pos n with e | e
    · have := h.len; rw [e, Nat.zero_mul] at this; omega
    · exact e
  have h4 := h.at_ hn
  rw [List.getElem?_append_right (by omega), show k + j - pre.length = j from by omega, List.getElem?_append_left hl]; exact hj
end
end Go.Proofs.YtkcfgglmlogjbaaGreat
end
section
set_option linter.unusedVariables false
set_option linter.unusedSimpArgs false
set_option maxRecDepth 20000
namespace Go.Proofs.YtkcfgglmlogjbaaGreat
abbrev Bs := List UInt8
abbrev encY (b : UInt8) : List Value := [.int .u8 (b.toNat : Int)]
abbrev bvs (l : Bs) : List Value := l.flatMap encY
theorem encY1 (b : UInt8) : (encY b).length = 1 := rfl
theorem bvs_len (l : Bs) : (bvs l).length = l.length := by rw [fm_length encY1]; omega
theorem bvs_one (l : Bs) : (bvs l).all Value.oneCell' = true := fm_all (fun _ => rfl) l
theorem bvs_map (l : Bs) : bvs l = l.map (fun b => Value.int .u8 (b.toNat : Int)) := by
  induction l with
  | nil => rfl
  | cons a r ih => show encY a ++ bvs r = _; rw [ih]; rfl
theorem bvs_app (a b : Bs) : bvs (a ++ b) = bvs a ++ bvs b := List.flatMap_append
theorem bvs_get {l : Bs} {i : Nat} {b : UInt8} (h : l[i]? = some b) : (bvs l)[i]? = some (.int .u8 (b.toNat : Int)) := by rw [bvs_map, List.getElem?_map, h]; rfl
/-- A slice of bytes that may only be read: what it says, and the block that holds it. -/
def RdB (oa : Option Addr) (x : Ent) (l : Bs) : Prop := 0 < l.length → ∃ b k cs e fr, oa = some ⟨b, k, none⟩ ∧ x = ⟨some b, .cells (List.toArray cs) e fr⟩ ∧ At cs k (bvs l)
theorem RdB.nil (oa : Option Addr) (x : Ent) : RdB oa x [] := fun h => absurd h (by simp)
theorem RdB.own {o : Option Nat} {c e : Nat} {l : Bs} {tl : List Value} (h : Own o l.length c 1 (bvs l) tl) : RdB (o.map fun b => ⟨b, 0, none⟩) ⟨o, cl (bvs l ++ tl) e⟩ l := fun hl => by
  obtain ⟨b, rfl⟩ := h.some_of hl
  exact ⟨b, 0, _, e, (0, 0), rfl, rfl, fun j v hj => by rw [Nat.zero_add, List.getElem?_append_left ((List.getElem?_eq_some_iff.1 hj).1)]; exact hj⟩
theorem RdB.ownS {o : Option Nat} {k c e : Nat} {l : Bs} {pre tl : List Value} (h : OwnS o k l.length c 1 pre (bvs l) tl) : RdB (o.map fun b => ⟨b, k, none⟩) ⟨o, cl (pre ++ (bvs l ++ tl)) e⟩ l := fun hl => by
  obtain ⟨b, rfl⟩ := h.some_of hl
  exact ⟨b, k, _, e, (0, 0), rfl, rfl, h.at_all⟩
theorem At.sub {cs : List Value} {k i n : Nat} {l : Bs} (h : At cs k (bvs l)) : At cs (k + i) (bvs ((l.drop i).take n)) := fun j v hj => by
  rw [bvs_map, List.getElem?_map] at hj
  cases hx : ((l.drop i).take n)[j]? with
  | none => rw [hx] at hj; cases hj
  | some b =>
    rw [hx] at hj
    rw [List.getElem?_take] at hx
    split at hx
    · rw [List.getElem?_drop] at hx
      have := h (i + j) _ (bvs_get hx)
      rw [← Nat.add_assoc] at this
      rw [this]; exact hj
    · cases hx
theorem cells_atG {H : Heap} {H0 : Heap} {w0 w : World} {b k : Nat} {cs vs : List Value} {e : TypeId} {fr : Nat × Nat} (hw : HW H0 w0 H w) (hm : (⟨some b, .cells (List.toArray cs) e fr⟩ : Ent) ∈ H) (ha : At cs k vs) : ∀ j u, vs[j]? = some u → w.cell? ((⟨b, k, none⟩ : Addr).add j) = some u :=
  fun j u hj => by rw [add_at, cell_ofG hw hm]; exact ha j u hj
section
variable {X : Ctx} {E : Env} {H : Heap} {o : Oper}
theorem D_appendSG {t e e2 : TypeId} {sz bytes k n c m mc b2 k2 : Nat} {zs pre xs tl cs2 news : List Value} {ob : Option Nat} {fr : Nat × Nat} {x y : Operand} {F : Heap}
    (ho : o.op = .call { callee := .builtin .append, args := #[x, y], argTypes := #[t, t] }) (hs : SI X.P t e sz bytes zs) (hx : ev E x = some (sVal ob k n c)) (hown : OwnS ob k n c sz pre xs tl) (hp : Pull ⟨ob, cl (pre ++ (xs ++ tl)) e⟩ H F)
    (hy : ev E y = some (.slice (some ⟨b2, k2, none⟩) m mc)) (hm : (⟨some b2, .cells (List.toArray cs2) e2 fr⟩ : Ent) ∈ H) (hat : At cs2 k2 news) (hl : news.length = m * sz) (h1 : news.all Value.oneCell' = true) (hm0 : 0 < m) (hroom : (n + m) * bytes ≤ 140737488355328) (h63 : n + m ≤ 9223372036854775807) :
    Does X o E H (fun v H' => ∃ ob' k' c' pre' tl', v = sVal ob' k' (n + m) c' ∧ OwnS ob' k' (n + m) c' sz pre' (xs ++ news) tl' ∧ H' = ⟨ob', cl (pre' ++ (xs ++ news ++ tl')) e⟩ :: F ∧ (k = 0 ∧ pre = [] → k' = 0 ∧ pre' = [])) := by
  intro a w ha hw next Q kk
  obtain ⟨g1, i, z, g2, g3, g4, g5, g6, g7, g8⟩ := hs
  refine ⟨about_true, ?_⟩
  rw [semAt_of (by rw [ho]; intro c e; cases e)]
  have hnews := cells_atG hw hm hat
  have hexec : ∀ v w', (Builtin.append_ #[t, t] o.type #[sVal ob k n c, .slice (some ⟨b2, k2, none⟩) m mc]).run X.P w = .ok v w' → (execOp a.eval o).run X.P w = .ok (.value v) w' := fun v w' h => by
    simp [execOp, ho, resolve, ha.eval hx, ha.eval hy, invoke, builtin, h]
  have hl' : news.length = m * i.size := by rw [g4]; exact hl
  cases ob with
  | none =>
    obtain ⟨hc, hpre⟩ := hown.nil rfl
    have hn : n = 0 := by have := hown.le; omega
    subst hn; subst hc; subst hpre
    have hxs : xs = [] := List.eq_nil_of_length_eq_zero (by simpa using hown.len)
    subst hxs
    have hr := run_append_nil (P := X.P) w t o.type e i z g1 g2 g3 ⟨b2, k2, none⟩ m mc news hl' hnews hm0 (by omega) (by rw [g5]; simp only [Nat.zero_add] at hroom; omega)
    rw [hexec _ _ hr]
    obtain ⟨tl', e1, e2⟩ := grown_own (w := w) (n := 0) (m := m) (c := 0) (e := e) (xs := []) (news := news) (zs := zs) (by simp) hl g7 h63 w.heap.size
    simp only [Nat.zero_add, List.nil_append, Array.empty_append] at e1 e2
    rw [g6]
    rw [e1]
    refine kk _ _ _ ⟨some w.heap.size, 0, _, [], tl', ?_, OwnS.of (by simpa using e2), rfl, fun _ => ⟨rfl, rfl⟩⟩ (((hw.drop hp).drew).alloc (cl (news ++ tl') e))
    simp
  | some b =>
    have hb : w.heap[b]? = some (cl (pre ++ (xs ++ tl)) e) := by
      have := hw.hok.ok _ (pull_mem hp)
      simpa [Ent.ok] using this
    by_cases hfit : n + m ≤ c
    · have hk : pre.length = k := by
        rcases hown.off with e9 | e9
        · exact e9
        · omega
      have hlen : (xs ++ news).length = (n + m) * sz := by rw [List.length_append, hown.len, hl, Nat.add_mul]
      have h3 := hown.cap
      have h5 := Nat.mul_le_mul_right sz hfit
      rw [← hlen, ← h3, List.length_append] at h5
      have hfc := run_firstCells_some (P := X.P) w i.size m ⟨b2, k2, none⟩ m mc news hl' hnews
      obtain ⟨w', s1, s2, s3, s4, s5, s6, s7, s8⟩ := run_storeCells_at (P := X.P) (b := b) (e := e) (k + n * i.size) news 0 (pre ++ (xs ++ tl)) w hb (by rw [g4, ← hown.len]; simp only [List.length_append]; omega) (List.all_eq_true.1 h1)
      have hr : (Builtin.append_ #[t, t] o.type #[sVal (some b) k n c, .slice (some ⟨b2, k2, none⟩) m mc]).run X.P w = .ok (sVal (some b) k (n + m) c) w' := by
        simp [Builtin.append_, run_underlying g1, sizeOf, typeInfo, g2, Builtin.lenOf, hfit, hfc, add_at, s1]
      rw [hexec _ _ hr]
      have hput : putAt (pre ++ (xs ++ tl)) (k + n * i.size + 0) news = pre ++ (xs ++ news ++ tl.drop news.length) := by
        rw [g4, ← hown.len, ← hk, Nat.add_zero, putAt_append, show xs.length = xs.length + 0 from rfl, putAt_append, putAt_eq _ _ _ (by omega)]
        simp
      refine kk _ _ _ ⟨some b, k, c, pre, tl.drop news.length, rfl, ⟨.inl hk, hlen, ?_, hfit, hown.big, fun h => by cases h⟩, rfl, id⟩ ?_
      · simp only [List.length_append, List.length_drop]
        omega
      · rw [hput] at s3
        exact hw.turn hp s2 s3 s4 s5 s6 s7 s8
    · have holds : ∀ j u, xs[j]? = some u → w.cell? ((⟨b, k, none⟩ : Addr).add j) = some u :=
        cells_at hw (pull_mem hp) (fun j u hj => by
          have hlt := (List.getElem?_eq_some_iff.1 hj).1
          have hn : 0 < n := by
            rcases Nat.eq_zero_or_pos n with q | q
            · have := hown.len; rw [q, Nat.zero_mul] at this; omega
            · exact q
          have hk := hown.at_ hn
          rw [List.getElem?_append_right (by omega), show k + j - pre.length = j from by omega, List.getElem?_append_left hlt]
          exact hj)
      have hr := run_append_grow (P := X.P) w t o.type e i z g1 g2 g3 ⟨b, k, none⟩ n c xs (by rw [g4]; exact hown.len) holds ⟨b2, k2, none⟩ m mc news hl' hnews (by omega) (by omega) (growslice_fits (by omega) (by rw [g5]; exact hroom))
      rw [hexec _ _ hr]
      obtain ⟨tl', e1, e2⟩ := grown_own (w := w) (n := n) (m := m) (c := c) (e := e) (xs := xs) (news := news) (zs := zs) hown.len hl g7 h63 w.heap.size
      rw [g6, e1]
      exact kk _ _ _ ⟨some w.heap.size, 0, _, [], tl', rfl, OwnS.of e2, rfl, fun _ => ⟨rfl, rfl⟩⟩ (((hw.drop hp).drew).alloc (cl (xs ++ news ++ tl') e))
theorem sl0_run {P : Program} {t ty e : TypeId} {sz bytes n c k mc : Nat} {zs : List Value} {ob : Option Nat} {oa : Option Addr} (hs : SI P t e sz bytes zs) (hle : n ≤ c) (w : World) :
    (Builtin.append_ #[t, t] ty #[sVal ob k n c, .slice oa 0 mc]).run P w = .ok (sVal ob k n c) w := by
  obtain ⟨g1, i, z, g2, g3, g4, g5, g6, g7, g8⟩ := hs
  cases ob <;> cases oa <;> simp [Builtin.append_, run_underlying g1, sizeOf, typeInfo, g2, Builtin.lenOf, Builtin.firstCells, hle, storeCells, loadCells, loadCellsFrom]
/-- append(x, y...) of bytes: y may be empty. -/
theorem D_appendB {t e : TypeId} {bytes k n c mc : Nat} {zs pre xs tl : List Value} {l : Bs} {oa : Option Addr} {ent : Ent} {ob : Option Nat} {x y : Operand} {F : Heap}
    (ho : o.op = .call { callee := .builtin .append, args := #[x, y], argTypes := #[t, t] }) (hs : SI X.P t e 1 bytes zs) (hx : ev E x = some (sVal ob k n c)) (hown : OwnS ob k n c 1 pre xs tl) (hp : Pull ⟨ob, cl (pre ++ (xs ++ tl)) e⟩ H F)
    (hy : ev E y = some (.slice oa l.length mc)) (hr : RdB oa ent l) (hm : ent ∈ H) (hroom : (n + l.length) * bytes ≤ 140737488355328) (h63 : n + l.length ≤ 9223372036854775807) :
    Does X o E H (fun v H' => ∃ ob' k' c' pre' tl', v = sVal ob' k' (n + l.length) c' ∧ OwnS ob' k' (n + l.length) c' 1 pre' (xs ++ bvs l) tl' ∧ H' = ⟨ob', cl (pre' ++ (xs ++ bvs l ++ tl')) e⟩ :: F ∧ (k = 0 ∧ pre = [] → k' = 0 ∧ pre' = [])) := by
  rcases Nat.eq_zero_or_pos l.length with h0 | h0
  · have hl : l = [] := List.eq_nil_of_length_eq_zero h0
    subst hl
    intro a w ha hw next Q kk
    refine ⟨about_true, ?_⟩
    rw [semAt_of (by rw [ho]; intro c e; cases e)]
    have hrun := sl0_run (ty := o.type) (k := k) (mc := mc) (ob := ob) (oa := oa) hs hown.le w
    have hexec : (execOp a.eval o).run X.P w = .ok (.value (sVal ob k n c)) w := by
      simp only [List.length_nil] at hy
      simp [execOp, ho, resolve, ha.eval hx, ha.eval hy, invoke, builtin, hrun]
    rw [hexec]
    refine kk _ _ _ ⟨ob, k, c, pre, tl, rfl, by simpa using hown, rfl, id⟩ ?_
    have hq := hw.perm hp.perm
    simpa using hq
  · obtain ⟨b, k2, cs, e2, fr, rfl, rfl, hat⟩ := hr h0
    exact D_appendSG ho hs hx hown hp hy hm hat (by rw [bvs_len]; omega) (bvs_one l) h0 hroom h63
/-- append(x, y...) of bytes to a slice that begins its block. -/
theorem D_appendBO {t e : TypeId} {bytes n c mc : Nat} {zs xs tl : List Value} {l : Bs} {oa : Option Addr} {ent : Ent} {ob : Option Nat} {x y : Operand} {F : Heap}
    (ho : o.op = .call { callee := .builtin .append, args := #[x, y], argTypes := #[t, t] }) (hs : SI X.P t e 1 bytes zs) (hx : ev E x = some (slV ob n c)) (hown : Own ob n c 1 xs tl) (hp : Pull ⟨ob, cl (xs ++ tl) e⟩ H F)
    (hy : ev E y = some (.slice oa l.length mc)) (hr : RdB oa ent l) (hm : ent ∈ H) (hroom : (n + l.length) * bytes ≤ 140737488355328) (h63 : n + l.length ≤ 9223372036854775807) :
    Does X o E H (fun v H' => ∃ ob' c' tl', v = slV ob' (n + l.length) c' ∧ Own ob' (n + l.length) c' 1 (xs ++ bvs l) tl' ∧ H' = ⟨ob', cl (xs ++ bvs l ++ tl') e⟩ :: F) := by
  intro a w ha hw next Q kk
  refine D_appendB (k := 0) (pre := []) ho hs hx (OwnS.of hown) hp hy hr hm hroom h63 a w ha hw next Q ?_
  rintro v H' w' ⟨ob', k', c', pre', tl', rfl, h1, rfl, h2⟩ hw'
  obtain ⟨rfl, rfl⟩ := h2 ⟨rfl, rfl⟩
  exact kk _ _ _ ⟨ob', c', tl', rfl, ⟨h1.len, h1.cap, h1.le, h1.big, fun e => (h1.nil e).1⟩, rfl⟩ hw'
/-- append(nil, y...) of bytes. -/
theorem D_cloneB {t e : TypeId} {bytes mc : Nat} {zs : List Value} {l : Bs} {oa : Option Addr} {ent : Ent} {x y : Operand}
    (ho : o.op = .call { callee := .builtin .append, args := #[x, y], argTypes := #[t, t] }) (hs : SI X.P t e 1 bytes zs) (hx : ev E x = some (.slice none 0 0)) (hy : ev E y = some (.slice oa l.length mc)) (hr : RdB oa ent l) (hm : ent ∈ H) (hroom : l.length * bytes ≤ 140737488355328) (h63 : l.length ≤ 9223372036854775807) :
    Does X o E H (fun v H' => ∃ ob' c' tl', v = slV ob' l.length c' ∧ Own ob' l.length c' 1 (bvs l) tl' ∧ H' = ⟨ob', cl (bvs l ++ tl') e⟩ :: H) :=
  D_appendIn ho hs hx hy (fun h => by obtain ⟨b, k, cs, e2, fr, h1, rfl, h3⟩ := hr h; exact ⟨b, k, cs, e2, fr, h1, hm, h3⟩) (by rw [bvs_len]; omega) hroom h63
/-- string(b). -/
theorem R_byteStr {src dst e : TypeId} {x : Operand} {l : Bs} {oa : Option Addr} {ent : Ent} {c : Nat} (ho : o.op = .convert src dst x) (hs : X.P.underlying src = some (.slice e)) (he : X.P.underlying e = some (.int .u8)) (hd : X.P.underlying dst = some .string)
    (hx : ev E x = some (.slice oa l.length c)) (hr : RdB oa ent l) (hm : ent ∈ H) : Runs X o E H (.string ⟨l.toArray⟩) :=
  ⟨(by rw [ho]; intro c e; cases e), fun a w ha hw => by
    have hc : (convert src dst (.slice oa l.length c)).run X.P w = .ok (.string ⟨l.toArray⟩) w := by
      rcases Nat.eq_zero_or_pos l.length with h0 | h0
      · have hl : l = [] := List.eq_nil_of_length_eq_zero h0
        subst hl
        cases oa with
        | none => exact run_convert_bytes_nil w src e hs he 0 c dst hd
        | some ad =>
          rw [List.length_nil, run_convert_bytes_string w src dst e _ 0 c hs he hd, run_bytesToString w ad 0 c [] (by simp [loadCells, loadCellsFrom])]
          rfl
      · obtain ⟨b, k, cs, e2, fr, rfl, rfl, hat⟩ := hr h0
        have h := run_convert_bytes_arg w src e hs he b k l.length c (l.map fun b => (b.toNat : Int)) (by simp) (fun i hi => by
          obtain ⟨v, hv⟩ : ∃ v, l[i]? = some v := ⟨_, List.getElem?_eq_getElem hi⟩
          rw [cell_ofG hw hm, hat i _ (bvs_get hv)]
          simp [List.getD, List.getElem?_map, hv]) dst hd
        rw [h]
        congr 2
        unfold strOfNums
        congr 1
        rw [List.map_map]
        exact congrArg _ ((List.map_congr_left fun b _ => by show UInt8.ofNat ((b.toNat : Int)).toNat = b; simp).trans (List.map_id _))
    simp [execOp, ho, ha.eval hx, hc]⟩
/-- internal/bytealg.MakeNoZero: an array of whatever bytes. -/
theorem D_makeNoZero {f : FuncId} {fn : Func} {tys : Array TypeId} {t e : TypeId} {n : Nat} {ps : Array TypeId} {x : Operand} (hf : X.P.funcs[f]? = some fn) (hname : (fn.name == "runtime.NumGoroutine") = false) (hb : fn.body.isNone = true) (hn : Extern.findNext fn = none)
    (he : Extern.find fn = some (Extern.BytealgMakeNoZero.makeNoZero ps #[t])) (ht : X.P.underlying t = some (.slice e)) (ho : o.op = .call { callee := .value (.func f), args := #[x], argTypes := tys }) (hx : ev E x = some (.int .i64 (n : Int))) (hn48 : n ≤ 281474976710656) :
    Does X o E H (fun v H' => ∃ (b : Nat) (cs : List Value), v = .slice (some ⟨b, 0, none⟩) n cs.length ∧ n ≤ cs.length ∧ H' = ⟨some b, cl cs e⟩ :: H) := by
  intro a w ha hw next Q k
  refine ⟨about_true, ?_⟩
  rw [semAt_of (by rw [ho]; intro c e; cases e)]
  obtain ⟨cs, h1, h2, h3⟩ := Go.Lib.run_makeNoZero (P := X.P) w ps t e ht n hn48
  have hcall : (callFunc f #[.int .i64 (n : Int)]).run X.P w = .ok (.value (.slice (some ⟨w.heap.size, 0, none⟩) n cs.size)) (w.drew.drew.alloc (.cells cs e)) := by
    rw [run_callFunc_extern hf hname hb hn he, h1]; rfl
  have hrun : (execOp a.eval o).run X.P w = .ok (.value (.slice (some ⟨w.heap.size, 0, none⟩) n cs.size)) (w.drew.drew.alloc (.cells cs e)) := by
    have hfe : a.eval (.func f) = .func (.func f) #[] #[] := rfl
    simp [execOp, ho, resolve, ha.eval hx, hfe, Deferred.ofValue, invoke, hcall]
  rw [hrun]
  refine k _ _ _ ⟨w.heap.size, cs.toList, by simp, by simpa using h2, rfl⟩ ?_
  have hw2 := (hw.drew.drew).alloc (.cells cs e)
  have hcl : cl cs.toList e = .cells cs e := by simp [cl]
  rw [hcl]
  exact hw2
/-- x[:h:m] of a slice that begins its block. -/
theorem R_slice3 {t u : TypeId} {x y z : Operand} {ad : Option Addr} {n c sz m h : Nat} {kk kz : IntKind} (ho : o.op = .slice t x none (some y) (some z)) (hu : X.P.underlying t = some (.slice u)) (hs : ∀ w, (sizeOf u).run X.P w = .ok sz w)
    (hx : ev E x = some (.slice ad n c)) (hy : ev E y = some (.int kk (h : Int))) (hz : ev E z = some (.int kz (m : Int))) (hm : h ≤ m) (hc : m ≤ c) : Runs X o E H (.slice ad h m) :=
  ⟨(by rw [ho]; intro c e; cases e), fun a w ha _ => by
    simp [execOp, ho, ha.eval hx, ha.eval hy, ha.eval hz, Instr.sliceAt, Instr.slice, Instr.sliceBounds, Instr.sliceBound, asIntOf, run_underlying hu, hs w, hm, hc]
    cases ad <;> simp [addr_add0]⟩
/-- copy(x, y) of bytes: y may be empty. -/
theorem D_copyB {t t2 e0 e : TypeId} {bytes b k dl dc sc : Nat} {zs cs : List Value} {l : Bs} {oa : Option Addr} {ent : Ent} {x y : Operand} {F : Heap}
    (ho : o.op = .call { callee := .builtin .copy, args := #[x, y], argTypes := #[t, t2] }) (hs : SI X.P t e0 1 bytes zs) (hx : ev E x = some (.slice (some ⟨b, k, none⟩) dl dc)) (hp : Pull ⟨some b, cl cs e⟩ H F)
    (hy : ev E y = some (.slice oa l.length sc)) (hr : RdB oa ent l) (hm : ent ∈ H) (hn : l.length ≤ dl) (hfit : k + l.length ≤ cs.length) :
    Does X o E H (fun v H' => v = .int .i64 (l.length : Int) ∧ H' = ⟨some b, cl (cs.take k ++ bvs l ++ cs.drop (k + l.length)) e⟩ :: F) := by
  rcases Nat.eq_zero_or_pos l.length with h0 | h0
  · have hl : l = [] := List.eq_nil_of_length_eq_zero h0
    subst hl
    intro a w ha hw next Q kk
    obtain ⟨g1, i, z, g2, g3, g4, g5, g6, g7, g8⟩ := hs
    refine ⟨about_true, ?_⟩
    rw [semAt_of (by rw [ho]; intro c e; cases e)]
    simp only [List.length_nil] at hy
    have hr : (Builtin.copy_ #[t, t2] o.type #[.slice (some ⟨b, k, none⟩) dl dc, .slice oa 0 sc]).run X.P w = .ok (.int .i64 0) w := by
      cases oa <;> simp [Builtin.copy_, run_underlying g1, Builtin.lenOf, sizeOf, typeInfo, g2, goInt, Builtin.firstCells, loadCells, loadCellsFrom, storeCells]
    have hexec : (execOp a.eval o).run X.P w = .ok (.value (.int .i64 0)) w := by
      simp [execOp, ho, resolve, ha.eval hx, ha.eval hy, invoke, builtin, hr]
    rw [hexec]
    refine kk _ _ _ ⟨rfl, rfl⟩ ?_
    have hq := hw.perm hp.perm
    simpa using hq
  · obtain ⟨b2, k2, cs2, e2, fr, rfl, rfl, hat⟩ := hr h0
    intro a w ha hw next Q kk
    obtain ⟨g1, i, z, g2, g3, g4, g5, g6, g7, g8⟩ := hs
    refine ⟨about_true, ?_⟩
    rw [semAt_of (by rw [ho]; intro c e; cases e)]
    have hnews := cells_atG hw hm hat
    have hb : w.heap[b]? = some (cl cs e) := by
      have := hw.hok.ok _ (pull_mem hp)
      simpa [Ent.ok] using this
    have hf := run_firstCells_some (P := X.P) (w := w) i.size l.length ⟨b2, k2, none⟩ l.length sc (bvs l) (by rw [g4, bvs_len]; omega) hnews
    obtain ⟨w', q1, q2, q3, q4, q5, q6, q7, q8⟩ := run_storeCells_at (P := X.P) (b := b) (e := e) k (bvs l) 0 cs w hb (by rw [bvs_len]; omega) (List.all_eq_true.1 (bvs_one l))
    have hr : (Builtin.copy_ #[t, t2] o.type #[.slice (some ⟨b, k, none⟩) dl dc, .slice (some ⟨b2, k2, none⟩) l.length sc]).run X.P w = .ok (.int .i64 (l.length : Int)) w' := by
      have hn2 : l.length.min dl = l.length := Nat.min_eq_left hn
      simp [Builtin.copy_, run_underlying g1, Builtin.lenOf, sizeOf, typeInfo, g2, goInt]
      rw [hn2, hf]
      simp [q1]
    have hexec : (execOp a.eval o).run X.P w = .ok (.value (.int .i64 (l.length : Int))) w' := by
      simp [execOp, ho, resolve, ha.eval hx, ha.eval hy, invoke, builtin, hr]
    rw [hexec]
    refine kk _ _ _ ⟨rfl, ?_⟩ (hw.turn hp q2 q3 q4 q5 q6 q7 q8)
    rw [Nat.add_zero, putAt_eq cs k (bvs l) (by rw [bvs_len]; exact hfit), bvs_len]
theorem R_shlR {t t' : TypeId} {x y : Operand} {k k' : IntKind} {m n r : Int} (ho : o.op = .binOp .shl t x y t') (hx : ev E x = some (.int k m)) (hy : ev E y = some (.int k' n)) (hn : ¬ n < 0) (hr : k.wrap (m * 2 ^ (min n.toNat k.bits)) = r) : Runs X o E H (.int k r) :=
  ⟨(by rw [ho]; intro c e; cases e), fun a w ha _ => by
    have h : (binOp .shl t (.int k m) (.int k' n)).run X.P w = .ok (.int k r) w := by rw [← hr]; simp only [binOp, Op.shift, if_neg hn, Sem.run_pure]
    simp only [execOp, ho, ha.eval hx, ha.eval hy]
    simp [eqGuard, h]⟩
end
theorem pulls_mem {A H F : Heap} (q : Pulls A H F) {x : Ent} (hm : x ∈ A) : x ∈ H := q.perm.mem_iff.2 (List.mem_append_left _ hm)
theorem or_lo {a b : Nat} (h : b < 256) : a * 256 ||| b = a * 256 + b := by
  have := Nat.shiftLeft_add_eq_or_of_lt (a := a) (i := 8) (b := b) (by simpa using h)
  rw [Nat.shiftLeft_eq] at this
  exact this.symm
theorem u8_lt (b : UInt8) : b.toNat < 256 := b.toNat_lt
theorem u8_of (n : Nat) : IntKind.u8.wrap (n : Int) = ((UInt8.ofNat n).toNat : Int) := by
  rw [UInt8.toNat_ofNat']
  simp [IntKind.wrap, IntKind.bits, IntKind.signed]
theorem or_i64 {a b : Nat} (ha : a * 256 + b < 9223372036854775808) (hb : b < 256) : IntKind.i64.wrap (BitVec.ofInt IntKind.i64.bits (((a * 256 : Nat) : Int)) ||| BitVec.ofInt IntKind.i64.bits (b : Int)).toNat = ((a * 256 + b : Nat) : Int) := by
  have h1 : a * 256 % 18446744073709551616 = a * 256 := Nat.mod_eq_of_lt (by omega)
  have h2 : b % 18446744073709551616 = b := Nat.mod_eq_of_lt (by omega)
  rw [bvN, bvN, BitVec.toNat_or, BitVec.toNat_ofNat, BitVec.toNat_ofNat]
  simp only [IntKind.bits]
  rw [show (2 : Nat) ^ 64 = 18446744073709551616 from rfl, h1, h2, or_lo hb]
  have : ∀ m : Nat, m < 9223372036854775808 → IntKind.i64.wrap (m : Int) = (m : Int) := fun m hm => wrap64_in (by omega) (by omega)
  exact this _ ha
theorem or_u64 {a b : Nat} (hb : b < 256) : IntKind.u64.wrap (BitVec.ofInt IntKind.u64.bits (IntKind.u64.wrap ((a : Int) * 2 ^ (min (8 : Int).toNat IntKind.u64.bits))) ||| BitVec.ofInt IntKind.u64.bits (b : Int)).toNat = (((a * 256 + b) % 18446744073709551616 : Nat) : Int) := by
  have h1 : IntKind.u64.wrap ((a : Int) * 2 ^ (min (8 : Int).toNat IntKind.u64.bits)) = ((a % 72057594037927936 * 256 : Nat) : Int) := by
    rw [show min (8 : Int).toNat IntKind.u64.bits = 8 from rfl]
    have h9 : ((a : Int) * 2 ^ 8) = ((a * 256 : Nat) : Int) := by omega
    rw [h9]
    have : ∀ m : Nat, IntKind.u64.wrap (m : Int) = ((m % 18446744073709551616 : Nat) : Int) := fun m => by
      have := IntKind.wrap_u64 (m : Int)
      rw [this]; omega
    rw [this]; omega
  have g1 : a % 72057594037927936 * 256 % 18446744073709551616 = a % 72057594037927936 * 256 := Nat.mod_eq_of_lt (by omega)
  have g2 : b % 18446744073709551616 = b := Nat.mod_eq_of_lt (by omega)
  rw [h1, bvN, bvN, BitVec.toNat_or, BitVec.toNat_ofNat, BitVec.toNat_ofNat]
  simp only [IntKind.bits]
  rw [show (2 : Nat) ^ 64 = 18446744073709551616 from rfl, g1, g2, or_lo hb]
  rw [w64 ⟨by omega, by omega⟩]
  omega
end Go.Proofs.YtkcfgglmlogjbaaGreat
end
section
set_option linter.unusedVariables false
namespace Go.Proofs.YtkcfgglmlogjbaaGreat
theorem Pull.consA {x a : Ent} {l F R : Heap} (h : Pull x (a :: (l ++ F)) R) : Pull x ((a :: l) ++ F) R := h
theorem Pull.nilA {x : Ent} {F R : Heap} (h : Pull x F R) : Pull x ([] ++ F) R := h
theorem PullA.consA {A : Heap} {a : Ent} {l F R : Heap} (h : PullA A (a :: (l ++ F)) R) : PullA A ((a :: l) ++ F) R := h
theorem PullA.nilA {A F R : Heap} (h : PullA A F R) : PullA A ([] ++ F) R := h
theorem Pulls.consA {A : Heap} {a : Ent} {l F R : Heap} (h : Pulls A (a :: (l ++ F)) R) : Pulls A ((a :: l) ++ F) R := h
theorem Pulls.nilA {A F R : Heap} (h : Pulls A F R) : Pulls A ([] ++ F) R := h
theorem Pulls.consX {a : Ent} {l F H R : Heap} (h : Pulls (a :: (l ++ F)) H R) : Pulls ((a :: l) ++ F) H R := h
theorem Pulls.nilX {F H R : Heap} (h : Pulls F H R) : Pulls ([] ++ F) H R := h
theorem memconsA {x a : Ent} {l F : Heap} (h : x ∈ a :: (l ++ F)) : x ∈ (a :: l) ++ F := h
theorem memnilA {x : Ent} {F : Heap} (h : x ∈ F) : x ∈ ([] ++ F) := h
theorem memheadC {x : Ent} {l : Heap} : x ∈ x :: l := List.mem_cons_self ..
theorem memtailC {x y : Ent} {l : Heap} (h : x ∈ l) : x ∈ y :: l := List.mem_cons_of_mem _ h
theorem memappC {x : Ent} {A l : Heap} (h : x ∈ l) : x ∈ A ++ l := List.mem_append_right _ h
end Go.Proofs.YtkcfgglmlogjbaaGreat
end
section
set_option linter.unusedVariables false
namespace Go.Proofs.YtkcfgglmlogjbaaGreat
theorem plD {x : Ent} {H F : Heap} (h : Pull x H F := by repeat (first | with_reducible exact Pull.head | with_reducible apply Pull.consA | with_reducible apply Pull.nilA | with_reducible apply Pull.assoc | exact Pull.head | with_reducible apply Pull.tail | with_reducible apply Pull.app)) : Pull x H F := h
theorem pqD {A H F : Heap} (h : Pulls A H F := by repeat (first | with_reducible exact Pulls.nil | with_reducible exact Pulls.all | with_reducible apply Pulls.consX | with_reducible apply Pulls.nilX | with_reducible apply Pulls.assocX | ((with_reducible apply Pulls.cons); (repeat (first | with_reducible exact Pull.head | with_reducible apply Pull.consA | with_reducible apply Pull.nilA | with_reducible apply Pull.assoc | exact Pull.head | with_reducible apply Pull.tail | with_reducible apply Pull.app))) | ((with_reducible apply Pulls.chunk); (repeat (first | with_reducible exact PullA.here | with_reducible exact PullA.all | with_reducible apply PullA.consA | with_reducible apply PullA.nilA | with_reducible apply PullA.assoc | exact PullA.here | with_reducible apply PullA.tail | with_reducible apply PullA.app))) | ((with_reducible apply Pulls.chunk1); (repeat (first | with_reducible exact PullA.here | with_reducible exact PullA.all | with_reducible apply PullA.consA | with_reducible apply PullA.nilA | with_reducible apply PullA.assoc | exact PullA.here | with_reducible apply PullA.tail | with_reducible apply PullA.app)); done) | exact Pulls.all | with_reducible apply Pulls.consA | with_reducible apply Pulls.nilA | with_reducible apply Pulls.skip | with_reducible apply Pulls.assoc | with_reducible apply Pulls.skipA)) : Pulls A H F := h
theorem mmD {x : Ent} {H : Heap} (h : x ∈ H := by repeat (first | with_reducible exact memheadC | with_reducible apply memconsA | with_reducible apply memnilA | with_reducible apply mem_assoc | exact memheadC | with_reducible apply memtailC | with_reducible apply memappC)) : x ∈ H := h
end Go.Proofs.YtkcfgglmlogjbaaGreat
end
section
namespace Go.Proofs.YtkcfgglmlogjbaaGreat
section
variable {X : Ctx} {p : Post} {E : Env} {H : Heap}
/-- The next round, where a slot of the invariant's was forgotten on the way. -/
theorem WQ_nextL {G : Type} {ds : List Nat} {E0 : Env} {I : G → Prop} {EI : G → Env} {HI : G → Heap} {μ : G → Nat} {m : Nat} {F0 F : Heap} (g : G) (hI : I g) (hm : μ g < m) (l : Lq (EI g ++ dropE ds E0) E) (q : Pulls (HI g ++ F0) H F) :
    WQ X (Next X I (fun g => EI g ++ dropE ds E0) (fun g => HI g ++ F0) μ m) E H :=
  fun _ _ ha hw => ⟨g, hI, hm, ha.le l, (hw.perm q.perm).left⟩
end
end Go.Proofs.YtkcfgglmlogjbaaGreat
end
section
namespace Go.Proofs.YtkcfgglmlogjbaaGreat
theorem followsMixed : Tryz.prog.follows .mixedOrders = true := by kernel_rfl
theorem ag59 : Ag Tryz.prog 59 3 := fun w => ⟨Tryz.isAgg59 w, Tryz.sizeOf59 w⟩
theorem ag64 : Ag Tryz.prog 64 3 := fun w => ⟨Tryz.isAgg64 w, Tryz.sizeOf64 w⟩
theorem ag76 : Ag Tryz.prog 76 2 := fun w => ⟨Tryz.isAgg76 w, Tryz.sizeOf76 w⟩
theorem ag84 : Ag Tryz.prog 84 2 := fun w => ⟨Tryz.isAgg84 w, Tryz.sizeOf84 w⟩
theorem ag124 : Ag Tryz.prog 124 3 := fun w => ⟨Tryz.isAgg124 w, Tryz.sizeOf124 w⟩
theorem ag125 : Ag Tryz.prog 125 18 := fun w => ⟨Tryz.isAgg125 w, Tryz.sizeOf125 w⟩
theorem fa32_0 : FldAt Tryz.prog 32 0 0 := FldAt.mk Tryz.underlying32 rfl rfl Tryz.sizeOf23 (by decide)
theorem fa32_1 : FldAt Tryz.prog 32 1 1 := FldAt.mk Tryz.underlying32 rfl rfl Tryz.sizeOf27 (by decide)
theorem fa34_0 : FldAt Tryz.prog 34 0 0 := FldAt.mk Tryz.underlying34 rfl rfl Tryz.sizeOf23 (by decide)
theorem fa34_1 : FldAt Tryz.prog 34 1 1 := FldAt.mk Tryz.underlying34 rfl rfl Tryz.sizeOf32 (by decide)
theorem fa34_2 : FldAt Tryz.prog 34 2 3 := FldAt.mk Tryz.underlying34 rfl rfl Tryz.sizeOf3 (by decide)
theorem fa34_3 : FldAt Tryz.prog 34 3 4 := FldAt.mk Tryz.underlying34 rfl rfl Tryz.sizeOf27 (by decide)
theorem fa40_0 : FldAt Tryz.prog 40 0 0 := FldAt.mk Tryz.underlying40 rfl rfl Tryz.sizeOf34 (by decide)
theorem fa40_1 : FldAt Tryz.prog 40 1 5 := FldAt.mk Tryz.underlying40 rfl rfl Tryz.sizeOf36 (by decide)
theorem fa40_2 : FldAt Tryz.prog 40 2 6 := FldAt.mk Tryz.underlying40 rfl rfl Tryz.sizeOf37 (by decide)
theorem fa40_3 : FldAt Tryz.prog 40 3 7 := FldAt.mk Tryz.underlying40 rfl rfl Tryz.sizeOf38 (by decide)
theorem fa40_4 : FldAt Tryz.prog 40 4 8 := FldAt.mk Tryz.underlying40 rfl rfl Tryz.sizeOf4 (by decide)
theorem fa45_0 : FldAt Tryz.prog 45 0 0 := FldAt.mk Tryz.underlying45 rfl rfl Tryz.sizeOf34 (by decide)
theorem fa45_1 : FldAt Tryz.prog 45 1 5 := FldAt.mk Tryz.underlying45 rfl rfl Tryz.sizeOf42 (by decide)
theorem fa45_2 : FldAt Tryz.prog 45 2 6 := FldAt.mk Tryz.underlying45 rfl rfl Tryz.sizeOf43 (by decide)
theorem fa59_0 : FldAt Tryz.prog 59 0 0 := FldAt.mk Tryz.underlying59 rfl rfl Tryz.sizeOf3 (by decide)
theorem fa59_2 : FldAt Tryz.prog 59 2 2 := FldAt.mk Tryz.underlying59 rfl rfl Tryz.sizeOf23 (by decide)
theorem fa64_0 : FldAt Tryz.prog 64 0 0 := FldAt.mk Tryz.underlying64 rfl rfl Tryz.sizeOf3 (by decide)
theorem fa64_1 : FldAt Tryz.prog 64 1 1 := FldAt.mk Tryz.underlying64 rfl rfl Tryz.sizeOf27 (by decide)
theorem fa64_2 : FldAt Tryz.prog 64 2 2 := FldAt.mk Tryz.underlying64 rfl rfl Tryz.sizeOf23 (by decide)
theorem fa70_0 : FldAt Tryz.prog 70 0 0 := FldAt.mk Tryz.underlying70 rfl rfl Tryz.sizeOf3 (by decide)
theorem fa70_1 : FldAt Tryz.prog 70 1 1 := FldAt.mk Tryz.underlying70 rfl rfl Tryz.sizeOf67 (by decide)
theorem fa70_2 : FldAt Tryz.prog 70 2 2 := FldAt.mk Tryz.underlying70 rfl rfl Tryz.sizeOf3 (by decide)
theorem fa70_3 : FldAt Tryz.prog 70 3 3 := FldAt.mk Tryz.underlying70 rfl rfl Tryz.sizeOf3 (by decide)
theorem fa70_4 : FldAt Tryz.prog 70 4 4 := FldAt.mk Tryz.underlying70 rfl rfl Tryz.sizeOf42 (by decide)
theorem fa70_5 : FldAt Tryz.prog 70 5 5 := FldAt.mk Tryz.underlying70 rfl rfl Tryz.sizeOf23 (by decide)
theorem fa70_6 : FldAt Tryz.prog 70 6 6 := FldAt.mk Tryz.underlying70 rfl rfl Tryz.sizeOf68 (by decide)
theorem fa70_7 : FldAt Tryz.prog 70 7 7 := FldAt.mk Tryz.underlying70 rfl rfl Tryz.sizeOf27 (by decide)
theorem fa76_0 : FldAt Tryz.prog 76 0 0 := FldAt.mk Tryz.underlying76 rfl rfl Tryz.sizeOf3 (by decide)
theorem fa76_1 : FldAt Tryz.prog 76 1 1 := FldAt.mk Tryz.underlying76 rfl rfl Tryz.sizeOf36 (by decide)
theorem fa84_0 : FldAt Tryz.prog 84 0 0 := FldAt.mk Tryz.underlying84 rfl rfl Tryz.sizeOf5 (by decide)
theorem fa84_1 : FldAt Tryz.prog 84 1 1 := FldAt.mk Tryz.underlying84 rfl rfl Tryz.sizeOf23 (by decide)
theorem fa94_0 : FldAt Tryz.prog 94 0 0 := FldAt.mk Tryz.underlying94 rfl rfl Tryz.sizeOf3 (by decide)
theorem fa94_2 : FldAt Tryz.prog 94 2 2 := FldAt.mk Tryz.underlying94 rfl rfl Tryz.sizeOf4 (by decide)
theorem fa94_3 : FldAt Tryz.prog 94 3 3 := FldAt.mk Tryz.underlying94 rfl rfl Tryz.sizeOf4 (by decide)
theorem fa94_4 : FldAt Tryz.prog 94 4 4 := FldAt.mk Tryz.underlying94 rfl rfl Tryz.sizeOf4 (by decide)
theorem fa96_0 : FldAt Tryz.prog 96 0 0 := FldAt.mk Tryz.underlying96 rfl rfl Tryz.sizeOf94 (by decide)
theorem fa96_1 : FldAt Tryz.prog 96 1 6 := FldAt.mk Tryz.underlying96 rfl rfl Tryz.sizeOf3 (by decide)
theorem fa96_2 : FldAt Tryz.prog 96 2 7 := FldAt.mk Tryz.underlying96 rfl rfl Tryz.sizeOf23 (by decide)
theorem fa96_3 : FldAt Tryz.prog 96 3 8 := FldAt.mk Tryz.underlying96 rfl rfl Tryz.sizeOf3 (by decide)
theorem fa124_0 : FldAt Tryz.prog 124 0 0 := FldAt.mk Tryz.underlying124 rfl rfl Tryz.sizeOf3 (by decide)
theorem fa124_1 : FldAt Tryz.prog 124 1 1 := FldAt.mk Tryz.underlying124 rfl rfl Tryz.sizeOf3 (by decide)
theorem fa124_2 : FldAt Tryz.prog 124 2 2 := FldAt.mk Tryz.underlying124 rfl rfl Tryz.sizeOf122 (by decide)
theorem pl32 : Places Tryz.prog 32 [(0, 1), (1, 1)] := ⟨_, Tryz.underlying32, fun w => by simp [Tryz.sizeOf23, Tryz.sizeOf27]⟩
theorem pl40 : Places Tryz.prog 40 [(0, 5), (5, 1), (6, 1), (7, 1), (8, 1)] := ⟨_, Tryz.underlying40, fun w => by simp [Tryz.sizeOf34, Tryz.sizeOf36, Tryz.sizeOf37, Tryz.sizeOf38, Tryz.sizeOf4]⟩
theorem pl45 : Places Tryz.prog 45 [(0, 5), (5, 1), (6, 1)] := ⟨_, Tryz.underlying45, fun w => by simp [Tryz.sizeOf34, Tryz.sizeOf42, Tryz.sizeOf43]⟩
theorem pl59 : Places Tryz.prog 59 [(0, 1), (1, 1), (2, 1)] := ⟨_, Tryz.underlying59, fun w => by simp [Tryz.sizeOf23, Tryz.sizeOf3, Tryz.sizeOf36]⟩
theorem pl64 : Places Tryz.prog 64 [(0, 1), (1, 1), (2, 1)] := ⟨_, Tryz.underlying64, fun w => by simp [Tryz.sizeOf23, Tryz.sizeOf27, Tryz.sizeOf3]⟩
theorem pl70 : Places Tryz.prog 70 [(0, 1), (1, 1), (2, 1), (3, 1), (4, 1), (5, 1), (6, 1), (7, 1)] := ⟨_, Tryz.underlying70, fun w => by simp [Tryz.sizeOf23, Tryz.sizeOf27, Tryz.sizeOf3, Tryz.sizeOf42, Tryz.sizeOf67, Tryz.sizeOf68]⟩
theorem pl76 : Places Tryz.prog 76 [(0, 1), (1, 1)] := ⟨_, Tryz.underlying76, fun w => by simp [Tryz.sizeOf3, Tryz.sizeOf36]⟩
theorem pl84 : Places Tryz.prog 84 [(0, 1), (1, 1)] := ⟨_, Tryz.underlying84, fun w => by simp [Tryz.sizeOf23, Tryz.sizeOf5]⟩
theorem pl94 : Places Tryz.prog 94 [(0, 1), (1, 1), (2, 1), (3, 1), (4, 1), (5, 1)] := ⟨_, Tryz.underlying94, fun w => by simp [Tryz.sizeOf3, Tryz.sizeOf4]⟩
theorem pl96 : Places Tryz.prog 96 [(0, 6), (6, 1), (7, 1), (8, 1)] := ⟨_, Tryz.underlying96, fun w => by simp [Tryz.sizeOf23, Tryz.sizeOf3, Tryz.sizeOf94]⟩
theorem pl124 : Places Tryz.prog 124 [(0, 1), (1, 1), (2, 1)] := ⟨_, Tryz.underlying124, fun w => by simp [Tryz.sizeOf122, Tryz.sizeOf3]⟩
theorem sc3 : Sc Tryz.prog 3 := fun w => ⟨Tryz.isAgg3 w, Tryz.sizeOf3 w⟩
theorem sc4 : Sc Tryz.prog 4 := fun w => ⟨Tryz.isAgg4 w, Tryz.sizeOf4 w⟩
theorem sc5 : Sc Tryz.prog 5 := fun w => ⟨Tryz.isAgg5 w, Tryz.sizeOf5 w⟩
theorem sc23 : Sc Tryz.prog 23 := fun w => ⟨Tryz.isAgg23 w, Tryz.sizeOf23 w⟩
theorem sc26 : Sc Tryz.prog 26 := fun w => ⟨Tryz.isAgg26 w, Tryz.sizeOf26 w⟩
theorem sc27 : Sc Tryz.prog 27 := fun w => ⟨Tryz.isAgg27 w, Tryz.sizeOf27 w⟩
theorem sc30 : Sc Tryz.prog 30 := fun w => ⟨Tryz.isAgg30 w, Tryz.sizeOf30 w⟩
theorem sc36 : Sc Tryz.prog 36 := fun w => ⟨Tryz.isAgg36 w, Tryz.sizeOf36 w⟩
theorem sc37 : Sc Tryz.prog 37 := fun w => ⟨Tryz.isAgg37 w, Tryz.sizeOf37 w⟩
theorem sc38 : Sc Tryz.prog 38 := fun w => ⟨Tryz.isAgg38 w, Tryz.sizeOf38 w⟩
theorem sc42 : Sc Tryz.prog 42 := fun w => ⟨Tryz.isAgg42 w, Tryz.sizeOf42 w⟩
theorem sc43 : Sc Tryz.prog 43 := fun w => ⟨Tryz.isAgg43 w, Tryz.sizeOf43 w⟩
theorem sc67 : Sc Tryz.prog 67 := fun w => ⟨Tryz.isAgg67 w, Tryz.sizeOf67 w⟩
theorem sc68 : Sc Tryz.prog 68 := fun w => ⟨Tryz.isAgg68 w, Tryz.sizeOf68 w⟩
theorem sc103 : Sc Tryz.prog 103 := fun w => ⟨Tryz.isAgg103 w, Tryz.sizeOf103 w⟩
theorem sc122 : Sc Tryz.prog 122 := fun w => ⟨Tryz.isAgg122 w, Tryz.sizeOf122 w⟩
theorem inf22 : Tryz.prog.info? 23 = some Tryz.t23 := by kernel_rfl
theorem si22 : SI Tryz.prog 22 23 1 24 [.slice none 0 0] := ⟨Tryz.underlying22, Tryz.t23, _, inf22, rfl, rfl, rfl, rfl, rfl, by decide⟩
theorem inf23 : Tryz.prog.info? 5 = some Tryz.t5 := by kernel_rfl
theorem si23 : SI Tryz.prog 23 5 1 1 [.int .u8 0] := ⟨Tryz.underlying23, Tryz.t5, _, inf23, rfl, rfl, rfl, rfl, rfl, by decide⟩
theorem inf37 : Tryz.prog.info? 76 = some Tryz.t76 := by kernel_rfl
theorem si37 : SI Tryz.prog 37 76 2 16 [.int .i64 0, .int .u64 0] := ⟨Tryz.underlying37, Tryz.t76, _, inf37, rfl, rfl, rfl, rfl, rfl, by decide⟩
theorem inf38 : Tryz.prog.info? 64 = some Tryz.t64 := by kernel_rfl
theorem si38 : SI Tryz.prog 38 64 3 40 [.int .i64 0, .int .i64 0, .slice none 0 0] := ⟨Tryz.underlying38, Tryz.t64, _, inf38, rfl, rfl, rfl, rfl, rfl, by decide⟩
theorem inf42 : Tryz.prog.info? 3 = some Tryz.t3 := by kernel_rfl
theorem si42 : SI Tryz.prog 42 3 1 8 [.int .i64 0] := ⟨Tryz.underlying42, Tryz.t3, _, inf42, rfl, rfl, rfl, rfl, rfl, by decide⟩
theorem inf43 : Tryz.prog.info? 59 = some Tryz.t59 := by kernel_rfl
theorem si43 : SI Tryz.prog 43 59 3 40 [.int .i64 0, .int .u64 0, .slice none 0 0] := ⟨Tryz.underlying43, Tryz.t59, _, inf43, rfl, rfl, rfl, rfl, rfl, by decide⟩
theorem zv3 : Zv Tryz.prog 3 [.int .i64 0] := ⟨_, rfl, Tryz.zeroValue3⟩
theorem zv27 : Zv Tryz.prog 27 [.int .i64 0] := ⟨_, rfl, Tryz.zeroValue27⟩
theorem zv32 : Zv Tryz.prog 32 [.slice none 0 0, .int .i64 0] := ⟨_, rfl, Tryz.zeroValue32⟩
theorem zv40 : Zv Tryz.prog 40 [.slice none 0 0, .slice none 0 0, .int .i64 0, .int .i64 0, .int .i64 0, .int .u64 0, .slice none 0 0, .slice none 0 0, .bool false] := ⟨_, rfl, Tryz.zeroValue40⟩
theorem zv45 : Zv Tryz.prog 45 [.slice none 0 0, .slice none 0 0, .int .i64 0, .int .i64 0, .int .i64 0, .slice none 0 0, .slice none 0 0] := ⟨_, rfl, Tryz.zeroValue45⟩
theorem zv59 : Zv Tryz.prog 59 [.int .i64 0, .int .u64 0, .slice none 0 0] := ⟨_, rfl, Tryz.zeroValue59⟩
theorem zv64 : Zv Tryz.prog 64 [.int .i64 0, .int .i64 0, .slice none 0 0] := ⟨_, rfl, Tryz.zeroValue64⟩
theorem zv70 : Zv Tryz.prog 70 [.int .i64 0, .map none, .int .i64 0, .int .i64 0, .slice none 0 0, .slice none 0 0, .pointer none, .int .i64 0] := ⟨_, rfl, Tryz.zeroValue70⟩
theorem zv76 : Zv Tryz.prog 76 [.int .i64 0, .int .u64 0] := ⟨_, rfl, Tryz.zeroValue76⟩
theorem zv84 : Zv Tryz.prog 84 [.int .u8 0, .slice none 0 0] := ⟨_, rfl, Tryz.zeroValue84⟩
theorem zv94 : Zv Tryz.prog 94 [.int .i64 0, .int .i64 0, .bool false, .bool false, .bool false, .int .i64 0] := ⟨_, rfl, Tryz.zeroValue94⟩
theorem zv96 : Zv Tryz.prog 96 [.int .i64 0, .int .i64 0, .bool false, .bool false, .bool false, .int .i64 0, .int .i64 0, .slice none 0 0, .int .i64 0] := ⟨_, rfl, Tryz.zeroValue96⟩
theorem zv124 : Zv Tryz.prog 124 [.int .i64 0, .int .i64 0, .nilFunc] := ⟨_, rfl, Tryz.zeroValue124⟩
theorem zv125 : Zv Tryz.prog 125 [.int .i64 0, .int .i64 0, .nilFunc, .int .i64 0, .int .i64 0, .nilFunc, .int .i64 0, .int .i64 0, .nilFunc, .int .i64 0, .int .i64 0, .nilFunc, .int .i64 0, .int .i64 0, .nilFunc, .int .i64 0, .int .i64 0, .nilFunc] := ⟨_, rfl, Tryz.zeroValue125⟩
end Go.Proofs.YtkcfgglmlogjbaaGreat
end
section
set_option linter.unusedVariables false
set_option maxRecDepth 20000
namespace Go.Proofs.YtkcfgglmlogjbaaGreat
abbrev encI (v : Int) : List Value := [.int .i64 v]
abbrev ivs (l : List Int) : List Value := l.flatMap encI
theorem encI1 (v : Int) : (encI v).length = 1 := rfl
theorem ivs_len (l : List Int) : (ivs l).length = l.length := by rw [fm_length encI1]; omega
theorem ivs_one (l : List Int) : (ivs l).all Value.oneCell' = true := fm_all (fun _ => rfl) l
def cmpI (a b : Int) : Int := if a < b then -1 else if b < a then 1 else 0
def orL : List Int → Int
  | [] => 0
  | x :: r => if x ≠ 0 then x else orL r
theorem orL_drop {l : List Int} : ∀ {k : Nat}, (∀ v ∈ l.take k, v = 0) → orL l = orL (l.drop k) := by
  induction l with
  | nil => intro k _; simp [orL]
  | cons x r ih =>
    intro k h
    cases k with
    | zero => rfl
    | succ k =>
      have h0 : x = 0 := h x (by simp)
      rw [orL, if_neg (by rw [h0]; simp), List.drop_succ_cons]
      exact ih fun v hv => h v (by simp [hv])
theorem orL_hit {l : List Int} {k : Nat} {x : Int} (h : ∀ v ∈ l.take k, v = 0) (hx : l[k]? = some x) (hn : x ≠ 0) : orL l = x := by
  rw [orL_drop h]
  obtain ⟨h1, h2⟩ := List.getElem?_eq_some_iff.1 hx
  rw [List.drop_eq_getElem_cons h1, h2, orL, if_pos hn]
theorem orL_none {l : List Int} {k : Nat} (h : ∀ v ∈ l.take k, v = 0) (hk : l.length ≤ k) : orL l = 0 := by
  rw [orL_drop h, List.drop_eq_nil_of_le hk]; rfl
theorem take_next {α : Type} {l : List α} {k : Nat} {x : α} (h : l[k]? = some x) : l.take (k + 1) = l.take k ++ [x] := by
  obtain ⟨h2, rfl⟩ := List.getElem?_eq_some_iff.1 h
  rw [List.take_append_getElem]
theorem getE {α : Type} {T : List α} {i : Nat} (h : i < T.length) : ∃ x, T[i]? = some x := ⟨_, List.getElem?_eq_getElem h⟩
/-- Where the first one is that a test lets through. -/
def idxF (p : Int → Bool) : List Int → Int
  | [] => -1
  | x :: r => if p x = true then 0 else if idxF p r = -1 then -1 else idxF p r + 1
theorem idxF_hit {p : Int → Bool} {x : Int} : ∀ {l : List Int} {k : Nat}, (∀ v ∈ l.take k, p v = false) → l[k]? = some x → p x = true → idxF p l = k
  | [], k, _, hx, _ => by simp at hx
  | y :: r, 0, _, hx, hp => by simp at hx; subst hx; simp [idxF, hp]
  | y :: r, k + 1, h, hx, hp => by
    have h1 : p y = false := h y (by simp)
    have ih := idxF_hit (l := r) (k := k) (fun v hv => h v (by simp [hv])) (by simpa using hx) hp
    rw [idxF, if_neg (by rw [h1]; simp), ih, if_neg (by omega)]; omega
theorem idxF_none {p : Int → Bool} : ∀ {l : List Int}, (∀ v ∈ l, p v = false) → idxF p l = -1
  | [], _ => rfl
  | y :: r, h => by
    rw [idxF, if_neg (by rw [h y (by simp)]; simp), if_pos (idxF_none fun v hv => h v (by simp [hv]))]
end Go.Proofs.YtkcfgglmlogjbaaGreat
end
section
set_option linter.unusedVariables false
set_option maxRecDepth 20000
namespace Go.Proofs.YtkcfgglmlogjbaaGreat
def twoB (n : Nat) : Bs := [UInt8.ofNat (n / 256), UInt8.ofNat n]
def sumB (b : Bs) : Nat := b.foldl (fun s x => (31 * s + x.toNat) % 65521) 1
def bigB (n many : Nat) : Bs := (List.range many).map fun i => UInt8.ofNat (n / 2 ^ (8 * (many - 1 - i)))
def valB (b : Bs) : Nat := b.foldl (fun n x => (n * 256 + x.toNat) % 18446744073709551616) 0
def innF (k : UInt8) (b : Bs) : Bs := k :: (twoB b.length ++ b)
def encF (k : UInt8) (b : Bs) : Bs := 197 :: (innF k b ++ twoB (sumB (innF k b)))
theorem sumB_app (a : Bs) (x : UInt8) : sumB (a ++ [x]) = (31 * sumB a + x.toNat) % 65521 := by unfold sumB; rw [List.foldl_append]; rfl
theorem valB_app (a : Bs) (x : UInt8) : valB (a ++ [x]) = (valB a * 256 + x.toNat) % 18446744073709551616 := by unfold valB; rw [List.foldl_append]; rfl
theorem sumB_lt (b : Bs) : sumB b < 65521 := by
  rcases List.eq_nil_or_concat b with rfl | ⟨a, x, rfl⟩
  · decide
  · rw [List.concat_eq_append, sumB_app]; exact Nat.mod_lt _ (by decide)
theorem bigB_len (n many : Nat) : (bigB n many).length = many := by unfold bigB; rw [List.length_map, List.length_range]
theorem bigB_get {n many i : Nat} (h : i < many) : (bigB n many)[i]? = some (UInt8.ofNat (n / 2 ^ (8 * (many - 1 - i)))) := by unfold bigB; rw [List.getElem?_map, List.getElem?_range h]; rfl
theorem encF_len (k : UInt8) (b : Bs) : (encF k b).length = b.length + 6 := by unfold encF innF twoB; simp
theorem innF_len (k : UInt8) (b : Bs) : (innF k b).length = b.length + 3 := by unfold innF twoB; simp
end Go.Proofs.YtkcfgglmlogjbaaGreat
end
section
set_option linter.unusedVariables false
set_option maxRecDepth 20000
set_option maxHeartbeats 1000000
namespace Go.Proofs.YtkcfgglmlogjbaaGreat
theorem shr_u64 {n s : Nat} (hn : n < 18446744073709551616) (h : s < 64) : ((n : Int)).fdiv (2 ^ (min ((s : Nat) : Int).toNat IntKind.u64.bits)) = ((n / 2 ^ s : Nat) : Int) := by
  rw [show min ((s : Nat) : Int).toNat IntKind.u64.bits = s from Nat.min_eq_left (by show s ≤ 64; omega), Int.fdiv_eq_ediv_of_nonneg _ (by exact_mod_cast Nat.zero_le _)]
  norm_cast
theorem put_bvs {L : Bs} {k : Nat} {x : UInt8} (hx : L[k]? = some x) (v : UInt8) : putAt (bvs L) (0 + k * 1) [.int .u8 (v.toNat : Int)] = bvs (L.set k v) := by
  have h9 := fm_put0 encY1 v hx (j := 0) (vs := encY v) (Nat.le_refl 1) rfl (tl := [])
  rw [List.append_nil, List.append_nil] at h9
  exact h9
theorem mk_zero : ∀ n : Nat, (List.replicate n [Value.int .u8 0]).flatten = bvs (List.replicate n 0)
  | 0 => rfl
  | n + 1 => by rw [List.replicate_succ, List.flatten_cons, mk_zero n, List.replicate_succ]; rfl
theorem big_step {n many k : Nat} {L : Bs} (hk : k < many) (hL : L.length = many) (hi : ∀ i, i < k → L[i]? = (bigB n many)[i]?) : ∀ i, i < k + 1 → (L.set k (UInt8.ofNat (n / 2 ^ (8 * (many - 1 - k)))))[i]? = (bigB n many)[i]? := fun i h => by
  rw [List.getElem?_set]
  by_cases e : k = i
  · subst e; rw [if_pos rfl, if_pos (by omega), bigB_get hk]
  · rw [if_neg e]; exact hi i (by omega)
theorem big_end {A B : Bs} {m : Nat} (h1 : A.length = m) (h2 : B.length = m) (h : ∀ i, i < m → A[i]? = B[i]?) : A = B := by
  refine List.ext_getElem? fun i => ?_
  by_cases e : i < m
  · exact h i e
  · rw [List.getElem?_eq_none (by omega), List.getElem?_eq_none (by omega)]
theorem two_ok (n : Nat) (h : n < 9223372036854775808) : Spec Tryz.prog 68 [.int .i64 (n : Int)] [] (fun r H' => ∃ b, r = slV (some b) 2 2 ∧ H' = [⟨some b, cl (bvs (twoB n)) 5⟩]) := by
  refine Spec.of (E := [(0, .int .i64 (n : Int))]) Tryz.func68 rfl (by kernel_rfl) Tryz.ntmps68 rfl rfl (fun w => ?_)
  refine WC_seq ?_
  refine WC_region ?_
  refine WL_val rfl rfl rfl (R_assign rfl rfl) ?_
  refine WL_nil ?_
  refine WQ_code ?_
  refine WC_seq ?_
  refine WC_region ?_
  refine WL_val rfl rfl rfl (R_move rfl rfl) ?_
  refine WL_val rfl rfl rfl (R_shrR (r := ((n / 256 : Nat) : Int)) rfl rfl rfl (by decide) (by show ((n : Int)).fdiv (2 ^ 8) = _; rw [Int.fdiv_eq_ediv_of_nonneg _ (by decide)]; omega)) ?_
  refine WL_val rfl rfl rfl (R_conv (r := ((UInt8.ofNat (n / 256)).toNat : Int)) rfl Tryz.underlying3 Tryz.underlying5 rfl (u8_of _)) ?_
  refine WL_val rfl rfl rfl (R_move rfl rfl) ?_
  refine WL_val rfl rfl rfl (R_conv (r := ((UInt8.ofNat n).toNat : Int)) rfl Tryz.underlying3 Tryz.underlying5 rfl (u8_of _)) ?_
  refine WL_do rfl rfl rfl (D_buildSlice rfl si23 rfl rfl rfl) ?_
  rintro _ _ ⟨b1, rfl, rfl⟩
  refine WL_val rfl rfl rfl (R_assign rfl rfl) ?_
  refine WL_nil ?_
  refine WQ_code ?_
  refine WC_ret ?_
  refine WQ_ret rfl rfl (.cons (.tmp rfl) .nil) rfl (by
      exact ⟨b1, rfl, rfl⟩) (pqZ)
theorem sum_ok {l : Bs} {oa : Option Addr} {ent : Ent} {c : Nat} (hr : RdB oa ent l) (hl : l.length ≤ 1000000) : Spec Tryz.prog 69 [.slice oa l.length c] [ent] (fun r H' => r = .int .i64 (sumB l : Int) ∧ H' = [ent]) := by
  refine Spec.of (E := [(0, .slice oa l.length c)]) Tryz.func69 rfl (by kernel_rfl) Tryz.ntmps69 rfl rfl (fun w => ?_)
  refine WC_seq ?_
  refine WC_region ?_
  refine WL_val rfl rfl rfl (R_assign rfl rfl) ?_
  refine WL_nil ?_
  refine WQ_code ?_
  refine WC_seq ?_
  refine WC_region ?_
  refine WL_val rfl rfl rfl (R_assign rfl rfl) ?_
  refine WL_nil ?_
  refine WQ_code ?_
  refine WC_seq ?_
  refine WC_seq ?_
  refine WC_region ?_
  refine WL_val rfl rfl rfl (R_move rfl rfl) ?_
  refine WL_val rfl rfl rfl (R_len rfl Tryz.underlying23 rfl) ?_
  refine WL_val rfl rfl rfl (R_move rfl rfl) ?_
  refine WL_nil ?_
  refine WQ_code ?_
  refine WC_block ?_
  refine WC_loopF (G := Nat) [3, 5, 8, 9, 10, 11, 12, 13, 14, 15, 16, 17, 18] (fun y => y ≤ l.length) (fun y => [(8, .int .i64 (y : Int)), (3, .int .i64 (sumB (l.take y) : Int))]) (fun y => []) (fun y => l.length - y) (0) (Nat.zero_le _) leZ (pqZ) ?_
  rintro y hy
  refine WC_seq ?_
  refine WC_region ?_
  refine WL_val rfl rfl rfl (R_lss rfl rfl rfl) ?_
  refine WL_nil ?_
  refine WQ_code ?_
  refine WC_seq ?_
  refine WC_dec rfl (fun c1 => ?_) (fun c1 => ?_)
  · refine WC_skip ?_
    refine WQ_code ?_
    refine WC_seq ?_
    refine WC_block ?_
    refine WC_seq ?_
    refine WC_region ?_
    obtain ⟨x, hx⟩ := getE (T := l) (i := y) (by omega)
    obtain ⟨rb, rk, rcs, re, rfr, rfl, rfl, hat⟩ := hr (by omega)
    refine WL_val rfl rfl rfl (R_indexAddr rfl Tryz.underlying23 Tryz.sizeOf5 rfl rfl (by omega)) ?_
    refine WL_val rfl rfl rfl (R_loadG (v := .int .u8 (x.toNat : Int)) rfl sc5 rfl mmZ (by rw [Nat.mul_one]; exact hat y _ (bvs_get hx))) ?_
    refine WL_val rfl rfl rfl (R_assign rfl rfl) ?_
    refine WL_nil ?_
    refine WQ_code ?_
    refine WC_region ?_
    refine WL_val rfl rfl rfl (R_move rfl rfl) ?_
    refine WL_val rfl rfl rfl (R_mulR (r := ((31 * sumB (l.take y) : Nat) : Int)) rfl rfl rfl (by have := sumB_lt (l.take y); rw [wrap64_in (by omega) (by omega)]; omega)) ?_
    refine WL_val rfl rfl rfl (R_move rfl rfl) ?_
    refine WL_val rfl rfl rfl (R_conv (r := (x.toNat : Int)) rfl Tryz.underlying5 Tryz.underlying3 rfl (by have := u8_lt x; rw [wrap64_in (by omega) (by omega)])) ?_
    refine WL_val rfl rfl rfl (R_addR (r := ((31 * sumB (l.take y) + x.toNat : Nat) : Int)) rfl rfl rfl (by have := sumB_lt (l.take y); have := u8_lt x; rw [wrap64_in (by omega) (by omega)]; omega)) ?_
    refine WL_val rfl rfl rfl (R_remR (r := (sumB (l.take (y + 1)) : Int)) rfl rfl rfl (by decide) (by rw [take_next hx, sumB_app, Int.tmod_eq_emod_of_nonneg (by omega)]; omega)) ?_
    refine WL_val rfl rfl rfl (R_assign rfl rfl) ?_
    refine WL_nil ?_
    refine WQ_code ?_
    refine WC_region ?_
    refine WL_val rfl rfl rfl (R_add rfl rfl rfl (by omega)) ?_
    refine WL_val rfl rfl rfl (R_move rfl rfl) ?_
    refine WL_nil ?_
    refine WQ_nextF (y + 1) (by omega) (by omega) leZ (psZ) rfl (pqZ)
  · have hyl : y = l.length := by omega
    subst hyl
    rw [List.take_length]
    refine WC_exit ?_
    refine WQ_code ?_
    refine WC_seq ?_
    refine WC_region ?_
    refine WL_val rfl rfl rfl (R_move rfl rfl) ?_
    refine WL_val rfl rfl rfl (R_assign rfl rfl) ?_
    refine WL_nil ?_
    refine WQ_code ?_
    refine WC_ret ?_
    refine WQ_ret rfl rfl (.cons (.tmp rfl) .nil) rfl (by
        exact ⟨rfl, rfl⟩) (pqZ)
theorem value_ok {l : Bs} {oa : Option Addr} {ent : Ent} {c : Nat} (hr : RdB oa ent l) (hl : l.length ≤ 1000000) : Spec Tryz.prog 42 [.slice oa l.length c] [ent] (fun r H' => r = .int .u64 (valB l : Int) ∧ H' = [ent]) := by
  refine Spec.of (E := [(0, .slice oa l.length c)]) Tryz.func42 rfl (by kernel_rfl) Tryz.ntmps42 rfl rfl (fun w => ?_)
  refine WC_seq ?_
  refine WC_region ?_
  refine WL_val rfl rfl rfl (R_assign rfl rfl) ?_
  refine WL_nil ?_
  refine WQ_code ?_
  refine WC_seq ?_
  refine WC_region ?_
  refine WL_val rfl rfl rfl (R_assign rfl rfl) ?_
  refine WL_nil ?_
  refine WQ_code ?_
  refine WC_seq ?_
  refine WC_seq ?_
  refine WC_region ?_
  refine WL_val rfl rfl rfl (R_move rfl rfl) ?_
  refine WL_val rfl rfl rfl (R_len rfl Tryz.underlying23 rfl) ?_
  refine WL_val rfl rfl rfl (R_move rfl rfl) ?_
  refine WL_nil ?_
  refine WQ_code ?_
  refine WC_block ?_
  refine WC_loopF (G := Nat) [3, 5, 8, 9, 10, 11, 12, 13, 14, 15, 16, 17] (fun y => y ≤ l.length) (fun y => [(8, .int .i64 (y : Int)), (3, .int .u64 (valB (l.take y) : Int))]) (fun y => []) (fun y => l.length - y) (0) (Nat.zero_le _) leZ (pqZ) ?_
  rintro y hy
  refine WC_seq ?_
  refine WC_region ?_
  refine WL_val rfl rfl rfl (R_lss rfl rfl rfl) ?_
  refine WL_nil ?_
  refine WQ_code ?_
  refine WC_seq ?_
  refine WC_dec rfl (fun c1 => ?_) (fun c1 => ?_)
  · refine WC_skip ?_
    refine WQ_code ?_
    refine WC_seq ?_
    refine WC_block ?_
    refine WC_seq ?_
    refine WC_region ?_
    obtain ⟨x, hx⟩ := getE (T := l) (i := y) (by omega)
    obtain ⟨rb, rk, rcs, re, rfr, rfl, rfl, hat⟩ := hr (by omega)
    refine WL_val rfl rfl rfl (R_indexAddr rfl Tryz.underlying23 Tryz.sizeOf5 rfl rfl (by omega)) ?_
    refine WL_val rfl rfl rfl (R_loadG (v := .int .u8 (x.toNat : Int)) rfl sc5 rfl mmZ (by rw [Nat.mul_one]; exact hat y _ (bvs_get hx))) ?_
    refine WL_val rfl rfl rfl (R_assign rfl rfl) ?_
    refine WL_nil ?_
    refine WQ_code ?_
    refine WC_region ?_
    refine WL_val rfl rfl rfl (R_move rfl rfl) ?_
    refine WL_val rfl rfl rfl (R_shlR (r := (IntKind.u64.wrap ((valB (l.take y) : Int) * 2 ^ (min (8 : Int).toNat IntKind.u64.bits)))) rfl rfl rfl (by decide) (rfl)) ?_
    refine WL_val rfl rfl rfl (R_move rfl rfl) ?_
    refine WL_val rfl rfl rfl (R_conv (r := (x.toNat : Int)) rfl Tryz.underlying5 Tryz.underlying35 rfl (by have := u8_lt x; rw [w64 ⟨by omega, by omega⟩])) ?_
    refine WL_val rfl rfl rfl (R_orR (r := (valB (l.take (y + 1)) : Int)) rfl rfl rfl (by rw [take_next hx, valB_app]; exact or_u64 (u8_lt x))) ?_
    refine WL_val rfl rfl rfl (R_assign rfl rfl) ?_
    refine WL_nil ?_
    refine WQ_code ?_
    refine WC_region ?_
    refine WL_val rfl rfl rfl (R_add rfl rfl rfl (by omega)) ?_
    refine WL_val rfl rfl rfl (R_move rfl rfl) ?_
    refine WL_nil ?_
    refine WQ_nextF (y + 1) (by omega) (by omega) leZ (psZ) rfl (pqZ)
  · have hyl : y = l.length := by omega
    subst hyl
    rw [List.take_length]
    refine WC_exit ?_
    refine WQ_code ?_
    refine WC_seq ?_
    refine WC_region ?_
    refine WL_val rfl rfl rfl (R_move rfl rfl) ?_
    refine WL_val rfl rfl rfl (R_assign rfl rfl) ?_
    refine WL_nil ?_
    refine WQ_code ?_
    refine WC_ret ?_
    refine WQ_ret rfl rfl (.cons (.tmp rfl) .nil) rfl (by
        exact ⟨rfl, rfl⟩) (pqZ)
structure BgW where
  k : Nat
  L : Bs
theorem big_ok (n many : Nat) (hn : n < 18446744073709551616) (hm : many ≤ 8) : Spec Tryz.prog 31 [.int .u64 (n : Int), .int .i64 (many : Int)] [] (fun r H' => ∃ b, r = slV (some b) many many ∧ H' = [⟨some b, cl (bvs (bigB n many)) 5⟩]) := by
  refine Spec.of (E := [(0, .int .u64 (n : Int)), (1, .int .i64 (many : Int))]) Tryz.func31 rfl (by kernel_rfl) Tryz.ntmps31 rfl rfl (fun w => ?_)
  refine WC_seq ?_
  refine WC_region ?_
  refine WL_val rfl rfl rfl (R_assign rfl rfl) ?_
  refine WL_nil ?_
  refine WQ_code ?_
  refine WC_seq ?_
  refine WC_region ?_
  refine WL_val rfl rfl rfl (R_move rfl rfl) ?_
  refine WL_do rfl rfl rfl (D_make (n := many) rfl si23 rfl rfl (by omega) (by omega)) ?_
  rintro _ _ ⟨b1, rfl, rfl⟩
  refine WL_val rfl rfl rfl (R_assign rfl rfl) ?_
  refine WL_nil ?_
  refine WQ_code ?_
  refine WC_seq ?_
  refine WC_seq ?_
  refine WC_region ?_
  refine WL_val rfl rfl rfl (R_move rfl rfl) ?_
  refine WL_val rfl rfl rfl (R_move rfl rfl) ?_
  refine WL_nil ?_
  refine WQ_code ?_
  refine WC_block ?_
  rw [mk_zero]
  refine WC_loopF (G := BgW) [6, 10, 11, 12, 13, 14, 15, 16, 17, 18, 19, 20, 21, 22, 23, 24] (fun y => y.k ≤ many ∧ y.L.length = many ∧ ∀ i, i < y.k → y.L[i]? = (bigB n many)[i]?) (fun y => [(10, .int .i64 (y.k : Int))]) (fun y => [⟨some b1, cl (bvs y.L) 5⟩]) (fun y => many - y.k) (⟨0, List.replicate many 0⟩) (⟨Nat.zero_le _, List.length_replicate, fun i h => absurd h (Nat.not_lt_zero i)⟩) leZ (pqZ) ?_
  rintro y ⟨hk, hL, hi⟩
  refine WC_seq ?_
  refine WC_region ?_
  refine WL_val rfl rfl rfl (R_lss rfl rfl rfl) ?_
  refine WL_nil ?_
  refine WQ_code ?_
  refine WC_seq ?_
  refine WC_dec rfl (fun c1 => ?_) (fun c1 => ?_)
  · refine WC_skip ?_
    refine WQ_code ?_
    refine WC_seq ?_
    refine WC_block ?_
    refine WC_seq ?_
    refine WC_region ?_
    refine WL_val rfl rfl rfl (R_move rfl rfl) ?_
    refine WL_val rfl rfl rfl (R_assign rfl rfl) ?_
    refine WL_nil ?_
    refine WQ_code ?_
    refine WC_region ?_
    obtain ⟨x, hx⟩ := getE (T := y.L) (i := y.k) (by omega)
    refine WL_val rfl rfl rfl (R_move rfl rfl) ?_
    refine WL_val rfl rfl rfl (R_move rfl rfl) ?_
    refine WL_val rfl rfl rfl (R_move rfl rfl) ?_
    refine WL_val rfl rfl rfl (R_move rfl rfl) ?_
    refine WL_val rfl rfl rfl (R_sub rfl rfl rfl (by omega)) ?_
    refine WL_val rfl rfl rfl (R_move rfl rfl) ?_
    refine WL_val rfl rfl rfl (R_sub rfl rfl rfl (by omega)) ?_
    refine WL_val rfl rfl rfl (R_mulR (r := ((8 * (many - 1 - y.k) : Nat) : Int)) rfl rfl rfl (by rw [wrap64_in (by omega) (by omega)]; omega)) ?_
    refine WL_val rfl rfl rfl (R_shrR (r := ((n / 2 ^ (8 * (many - 1 - y.k)) : Nat) : Int)) rfl rfl rfl (by omega) (shr_u64 hn (by omega))) ?_
    refine WL_val rfl rfl rfl (R_conv (r := ((UInt8.ofNat (n / 2 ^ (8 * (many - 1 - y.k)))).toNat : Int)) rfl Tryz.underlying35 Tryz.underlying5 rfl (u8_of _)) ?_
    refine WL_val rfl rfl rfl (R_indexAddr rfl Tryz.underlying23 Tryz.sizeOf5 rfl rfl (by omega)) ?_
    refine WL_do0 rfl rfl (D_store (vs := [_]) rfl Tryz.sizeOf5 rfl rfl rfl rfl rfl (plZ) (by show 0 + (((y.k : Nat) : Int)).toNat * 1 + 1 ≤ (bvs y.L).length; rw [bvs_len, Int.toNat_natCast]; omega)) ?_
    rintro _ _ rfl
    have hput := put_bvs hx (UInt8.ofNat (n / 2 ^ (8 * (many - 1 - y.k))))
    rw [Int.toNat_natCast, hput]
    refine WL_nil ?_
    refine WQ_code ?_
    refine WC_region ?_
    refine WL_val rfl rfl rfl (R_add rfl rfl rfl (by omega)) ?_
    refine WL_val rfl rfl rfl (R_move rfl rfl) ?_
    refine WL_nil ?_
    refine WQ_nextF (⟨y.k + 1, y.L.set y.k (UInt8.ofNat (n / 2 ^ (8 * (many - 1 - y.k))))⟩) (⟨by dsimp only; omega, by dsimp only; rw [List.length_set]; exact hL, big_step (by omega) hL hi⟩) (by dsimp only; omega) leZ (psZ) rfl (pqZ)
  · have hE : y.L = bigB n many := big_end hL (by have := bigB_len n many; omega) fun i h => hi i (by omega)
    rw [hE]
    refine WC_exit ?_
    refine WQ_code ?_
    refine WC_seq ?_
    refine WC_region ?_
    refine WL_val rfl rfl rfl (R_move rfl rfl) ?_
    refine WL_val rfl rfl rfl (R_assign rfl rfl) ?_
    refine WL_nil ?_
    refine WQ_code ?_
    refine WC_ret ?_
    refine WQ_ret rfl rfl (.cons (.tmp rfl) .nil) rfl (by
        exact ⟨b1, rfl, rfl⟩) (pqZ)
theorem four_ok (n : Nat) (hn : n < 9223372036854775808) : Spec Tryz.prog 30 [.int .i64 (n : Int)] [] (fun r H' => ∃ b, r = slV (some b) 4 4 ∧ H' = [⟨some b, cl (bvs (bigB n 4)) 5⟩]) := by
  refine Spec.of (E := [(0, .int .i64 (n : Int))]) Tryz.func30 rfl (by kernel_rfl) Tryz.ntmps30 rfl rfl (fun w => ?_)
  refine WC_seq ?_
  refine WC_region ?_
  refine WL_val rfl rfl rfl (R_assign rfl rfl) ?_
  refine WL_nil ?_
  refine WQ_code ?_
  refine WC_seq ?_
  refine WC_region ?_
  refine WL_val rfl rfl rfl (R_move rfl rfl) ?_
  refine WL_val rfl rfl rfl (R_conv (r := (n : Int)) rfl Tryz.underlying3 Tryz.underlying35 rfl (by rw [w64 ⟨by omega, by omega⟩])) ?_
  refine WL_do rfl rfl rfl (D_call (big_ok n 4 (by omega) (by decide)) rfl rfl rfl rfl (pqZ)) ?_
  rintro _ _ ⟨_, ⟨b1, rfl, rfl⟩, rfl⟩
  refine WL_val rfl rfl rfl (R_assign rfl rfl) ?_
  refine WL_nil ?_
  refine WQ_code ?_
  refine WC_ret ?_
  refine WQ_ret rfl rfl (.cons (.tmp rfl) .nil) rfl (by
      exact ⟨b1, rfl, rfl⟩) (pqZ)
theorem clone_nil : Spec Tryz.prog 49 [.slice none 0 0] [] (fun r H' => r = .slice none 0 0 ∧ H' = []) := by
  refine Spec.of (E := [(0, .slice none 0 0)]) Tryz.func49 rfl (by kernel_rfl) Tryz.ntmps49 rfl rfl (fun w => ?_)
  refine WC_seq ?_
  refine WC_region ?_
  refine WL_val rfl rfl rfl (R_assign rfl rfl) ?_
  refine WL_nil ?_
  refine WQ_code ?_
  refine WC_seq ?_
  refine WC_seq ?_
  refine WC_region ?_
  refine WL_val rfl rfl rfl (R_move rfl rfl) ?_
  refine WL_val rfl rfl rfl (R_sliceEqNil rfl Tryz.underlying23 rfl) ?_
  refine WL_nil ?_
  refine WQ_code ?_
  refine WC_T rfl ?_
  refine WC_seq ?_
  refine WC_region ?_
  refine WL_val rfl rfl rfl (R_assign rfl rfl) ?_
  refine WL_nil ?_
  refine WQ_code ?_
  refine WC_ret ?_
  refine WQ_ret rfl rfl (.cons (.tmp rfl) .nil) rfl (by
      exact ⟨rfl, rfl⟩) (pqZ)
theorem clone_some {l : Bs} {ad : Addr} {ent : Ent} {c : Nat} (hr : RdB (some ad) ent l) (hl : l.length ≤ 1000000) : Spec Tryz.prog 49 [.slice (some ad) l.length c] [ent] (fun r H' => ∃ o c2 tl, r = slV o l.length c2 ∧ Own o l.length c2 1 (bvs l) tl ∧ H' = [⟨o, cl (bvs l ++ tl) 5⟩, ent]) := by
  refine Spec.of (E := [(0, .slice (some ad) l.length c)]) Tryz.func49 rfl (by kernel_rfl) Tryz.ntmps49 rfl rfl (fun w => ?_)
  refine WC_seq ?_
  refine WC_region ?_
  refine WL_val rfl rfl rfl (R_assign rfl rfl) ?_
  refine WL_nil ?_
  refine WQ_code ?_
  refine WC_seq ?_
  refine WC_seq ?_
  refine WC_region ?_
  refine WL_val rfl rfl rfl (R_move rfl rfl) ?_
  refine WL_val rfl rfl rfl (R_sliceEqNil rfl Tryz.underlying23 rfl) ?_
  refine WL_nil ?_
  refine WQ_code ?_
  refine WC_F rfl ?_
  refine WC_skip ?_
  refine WQ_code ?_
  refine WC_seq ?_
  refine WC_region ?_
  refine WL_do rfl rfl rfl (D_buildSlice rfl si23 rfl rfl rfl) ?_
  rintro _ _ ⟨b1, rfl, rfl⟩
  refine WL_val rfl rfl rfl (R_move rfl rfl) ?_
  refine WL_do rfl rfl rfl (D_appendBO rfl si23 rfl (⟨by simp, by simp, by simp, by simp, fun h => by cases h⟩ : Own (some b1) 0 0 1 [] []) plZ rfl hr mmZ (by omega) (by omega)) ?_
  rintro _ _ ⟨ob2, c2, tl2, rfl, own2, rfl⟩
  rw [Nat.zero_add, List.nil_append] at own2
  refine WL_val rfl rfl rfl (R_assign rfl rfl) ?_
  refine WL_nil ?_
  refine WQ_code ?_
  refine WC_ret ?_
  refine WQ_ret rfl rfl (.cons (.tmp rfl) .nil) rfl (by
      exact ⟨ob2, c2, tl2, by rw [Nat.zero_add]; rfl, own2, rfl⟩) (pqZ)
theorem equal_ok {a b : Bs} {oa ob : Option Addr} {e1 e2 : Ent} {c1 c2 : Nat} (h1 : RdB oa e1 a) (h2 : RdB ob e2 b) : Spec Tryz.prog 81 [.slice oa a.length c1, .slice ob b.length c2] [e1, e2] (fun r H' => r = .bool (decide (a = b)) ∧ H' = [e1, e2]) := by
  refine Spec.of (E := [(0, .slice oa a.length c1), (1, .slice ob b.length c2)]) Tryz.func81 rfl (by kernel_rfl) Tryz.ntmps81 rfl rfl (fun w => ?_)
  refine WC_seq ?_
  refine WC_region ?_
  refine WL_val rfl rfl rfl (R_assign rfl rfl) ?_
  refine WL_nil ?_
  refine WQ_code ?_
  refine WC_seq ?_
  refine WC_region ?_
  refine WL_val rfl rfl rfl (R_move rfl rfl) ?_
  refine WL_val rfl rfl rfl (R_byteStr rfl Tryz.underlying23 Tryz.underlying5 Tryz.underlying9 rfl h1 mmZ) ?_
  refine WL_val rfl rfl rfl (R_move rfl rfl) ?_
  refine WL_val rfl rfl rfl (R_byteStr rfl Tryz.underlying23 Tryz.underlying5 Tryz.underlying9 rfl h2 mmZ) ?_
  refine WL_val rfl rfl rfl (R_strEq rfl Tryz.underlying9 rfl rfl) ?_
  refine WL_val rfl rfl rfl (R_assign rfl rfl) ?_
  refine WL_nil ?_
  refine WQ_code ?_
  refine WC_ret ?_
  refine WQ_ret rfl rfl (.cons (.tmp rfl) .nil) rfl (by
      exact ⟨rfl, rfl⟩) (pqZ)
end Go.Proofs.YtkcfgglmlogjbaaGreat
end
section
set_option linter.unusedVariables false
set_option maxRecDepth 20000
set_option maxHeartbeats 2000000
namespace Go.Proofs.YtkcfgglmlogjbaaGreat
structure Pt where
  oa : Option Addr
  c : Nat
  l : Bs
abbrev encT (p : Pt) : List Value := [.slice p.oa p.l.length p.c]
theorem encT1 (p : Pt) : (encT p).length = 1 := rfl
theorem ptg {L : List Pt} {k j : Nat} {p : Pt} (h : L[k]? = some p) (e : j = k) : (L.flatMap encT)[j]? = some (.slice p.oa p.l.length p.c) := by
  have h9 := fm_get0 encT1 h (j := 0) (tl := []) (by omega)
  subst e
  simpa using h9
def joinL (L : List Pt) : Bs := L.flatMap fun p => p.l
theorem joinL_snoc {L : List Pt} {k : Nat} {p : Pt} (h : L[k]? = some p) : joinL (L.take (k + 1)) = joinL (L.take k) ++ p.l := by unfold joinL; rw [take_next h, List.flatMap_append]; simp
theorem joinL_one {L : List Pt} {p : Pt} (h : L.length = 1) (hp : L[0]? = some p) : joinL L = p.l := by
  match L, h, hp with
  | [q], _, hp => cases hp; simp [joinL]
theorem RdB.pre (b : Nat) (rest : List Value) (l : Bs) : RdB (some ⟨b, 0, none⟩) ⟨some b, cl (bvs l ++ rest) 5⟩ l := fun _ => ⟨b, 0, _, _, (0, 0), rfl, rfl, fun j v hj => by rw [Nat.zero_add, List.getElem?_append_left ((List.getElem?_eq_some_iff.1 hj).1)]; exact hj⟩
theorem joinL_le (L : List Pt) (k : Nat) : (joinL (L.take k)).length ≤ (joinL L).length := by
  conv => rhs; rw [← List.take_append_drop k L]
  unfold joinL
  rw [List.flatMap_append, List.length_append]
  omega
theorem joinL_all {L : List Pt} {B : Nat} (h : ∀ p ∈ L, p.l.length ≤ B) : (joinL L).length ≤ L.length * B := by
  induction L with
  | nil => simp [joinL]
  | cons p r ih =>
    have h1 := h p (by simp)
    have h2 := ih fun q hq => h q (by simp [hq])
    show ((p :: r).flatMap fun p => p.l).length ≤ _
    rw [List.flatMap_cons, List.length_append, List.length_cons, Nat.succ_mul]
    have : (r.flatMap fun p => p.l).length = (joinL r).length := rfl
    omega
theorem ext_mnz_name : (Tryz.f70.name == "runtime.NumGoroutine") = false := by kernel_rfl
theorem ext_mnz_next : Extern.findNext Tryz.f70 = none := by kernel_rfl
theorem ext_mnz : Extern.find Tryz.f70 = some (Extern.BytealgMakeNoZero.makeNoZero #[3] #[23]) := by kernel_rfl
structure JnW where
  k : Nat
  rest : List Value
theorem copy_step {done l : Bs} {rest : List Value} {n k : Nat} (h : done.length + l.length ≤ n) (hk : k = if n = done.length then 0 else 0 + done.length * 1) : (bvs done ++ rest).take k ++ bvs l ++ (bvs done ++ rest).drop (k + l.length) = bvs (done ++ l) ++ rest.drop l.length := by
  by_cases e : n = done.length
  · have hl : l = [] := List.eq_nil_of_length_eq_zero (by omega)
    subst hl
    rw [hk, if_pos e]
    simp
  · rw [hk, if_neg e, Nat.zero_add, Nat.mul_one, List.take_left' (bvs_len done), bvs_app]
    rw [show done.length + l.length = (bvs done).length + l.length from by rw [bvs_len], List.drop_append]
    simp
theorem join_ok (bp : Nat) (L : List Pt) (PH : Heap) (hL : 1 ≤ L.length) (hL2 : L.length ≤ 10) (hR : ∀ p ∈ L, ∃ ent ∈ PH, RdB p.oa ent p.l) (hT : ∀ p ∈ L, p.l.length ≤ 100000) :
    Spec Tryz.prog 48 [slV (some bp) L.length L.length, .slice none 0 0] ([⟨some bp, cl (L.flatMap encT) 23⟩] ++ PH) (fun r H' => ∃ oa c ent, r = .slice oa (joinL L).length c ∧ RdB oa ent (joinL L) ∧ H' = [ent] ++ ([⟨some bp, cl (L.flatMap encT) 23⟩] ++ PH)) := by
  have hB := joinL_all hT
  have hB2 : (joinL L).length ≤ 1000000 := by have : L.length * 100000 ≤ 10 * 100000 := Nat.mul_le_mul_right _ hL2; omega
  obtain ⟨p0, hp0⟩ := getE (T := L) (i := 0) (by omega)
  obtain ⟨e0, he0, hr0⟩ := hR p0 (List.mem_of_getElem? hp0)
  have hp0T := hT p0 (List.mem_of_getElem? hp0)
  have hle0 : p0.l.length ≤ (joinL L).length := by have := joinL_le L 1; rw [joinL_snoc hp0, List.length_append] at this; omega
  refine Spec.of (E := [(0, slV (some bp) L.length L.length), (1, .slice none 0 0)]) Tryz.func48 rfl (by kernel_rfl) Tryz.ntmps48 rfl rfl (fun w => ?_)
  refine WC_seq ?_
  refine WC_region ?_
  refine WL_val rfl rfl rfl (R_assign rfl rfl) ?_
  refine WL_nil ?_
  refine WQ_code ?_
  refine WC_seq ?_
  refine WC_seq ?_
  refine WC_region ?_
  refine WL_val rfl rfl rfl (R_move rfl rfl) ?_
  refine WL_val rfl rfl rfl (R_len rfl Tryz.underlying22 rfl) ?_
  refine WL_val rfl rfl rfl (R_eql rfl rfl rfl) ?_
  refine WL_nil ?_
  refine WQ_code ?_
  refine WC_dF rfl (by omega) ?_
  refine WC_skip ?_
  refine WQ_code ?_
  refine WC_seq ?_
  refine WC_seq ?_
  refine WC_region ?_
  refine WL_val rfl rfl rfl (R_move rfl rfl) ?_
  refine WL_val rfl rfl rfl (R_len rfl Tryz.underlying22 rfl) ?_
  refine WL_val rfl rfl rfl (R_eql rfl rfl rfl) ?_
  refine WL_nil ?_
  refine WQ_code ?_
  refine WC_dec rfl (fun c1 => ?_) (fun c1 => ?_)
  · have hJ1 : joinL L = p0.l := joinL_one (by omega) hp0
    refine WC_seq ?_
    refine WC_region ?_
    refine WL_val rfl rfl rfl (R_move rfl rfl) ?_
    refine WL_val rfl rfl rfl (R_indexAddr rfl Tryz.underlying22 Tryz.sizeOf23 rfl rfl (by omega)) ?_
    refine WL_val rfl rfl rfl (R_load rfl sc23 rfl mmD (ptg hp0 (by simp))) ?_
    refine WL_do rfl rfl rfl (D_cloneB rfl si23 rfl rfl hr0 (pulls_mem (pqD : Pulls PH _ _) he0) (by omega) (by omega)) ?_
    rintro _ _ ⟨o9, c9, tl9, rfl, own9, rfl⟩
    refine WL_val rfl rfl rfl (R_assign rfl rfl) ?_
    refine WL_nil ?_
    refine WQ_code ?_
    refine WC_ret ?_
    rw [← hJ1] at own9
    rw [← hJ1]
    refine WQ_ret rfl rfl (.cons (.tmp rfl) .nil) rfl (by
        exact ⟨o9.map fun b => ⟨b, 0, none⟩, c9, ⟨o9, cl (bvs (joinL L) ++ tl9) 5⟩, rfl, RdB.own own9, rfl⟩) (pqD)
  · refine WC_skip ?_
    refine WQ_code ?_
    refine WC_seq ?_
    refine WC_region ?_
    refine WL_val rfl rfl rfl (R_assign rfl rfl) ?_
    refine WL_nil ?_
    refine WQ_code ?_
    refine WC_seq ?_
    refine WC_seq ?_
    refine WC_region ?_
    refine WL_val rfl rfl rfl (R_move rfl rfl) ?_
    refine WL_val rfl rfl rfl (R_len rfl Tryz.underlying23 rfl) ?_
    refine WL_val rfl rfl rfl (R_gtr rfl rfl rfl) ?_
    refine WL_nil ?_
    refine WQ_code ?_
    refine WC_dF rfl (by decide) ?_
    refine WC_skip ?_
    refine WQ_code ?_
    refine WC_seq ?_
    refine WC_seq ?_
    refine WC_region ?_
    refine WL_val rfl rfl rfl (R_move rfl rfl) ?_
    refine WL_val rfl rfl rfl (R_len rfl Tryz.underlying22 rfl) ?_
    refine WL_val rfl rfl rfl (R_move rfl rfl) ?_
    refine WL_nil ?_
    refine WQ_code ?_
    refine WC_block ?_
    refine WC_loopF (G := Nat) [5, 7, 44, 45, 46, 47, 48, 49, 50, 51, 52, 53, 54, 55, 56, 57, 58] (fun y => y ≤ L.length) (fun y => [(44, .int .i64 (y : Int)), (5, .int .i64 ((joinL (L.take y)).length : Int))]) (fun y => []) (fun y => L.length - y) (0) (Nat.zero_le _) leZ (pqD) ?_
    rintro y hy
    refine WC_seq ?_
    refine WC_region ?_
    refine WL_val rfl rfl rfl (R_lss rfl rfl rfl) ?_
    refine WL_nil ?_
    refine WQ_code ?_
    refine WC_seq ?_
    refine WC_dec rfl (fun c2 => ?_) (fun c2 => ?_)
    · refine WC_skip ?_
      refine WQ_code ?_
      refine WC_seq ?_
      refine WC_block ?_
      refine WC_seq ?_
      refine WC_region ?_
      obtain ⟨p, hp⟩ := getE (T := L) (i := y) (by omega)
      have hpT := hT p (List.mem_of_getElem? hp)
      refine WL_val rfl rfl rfl (R_indexAddr rfl Tryz.underlying22 Tryz.sizeOf23 rfl rfl (by omega)) ?_
      refine WL_val rfl rfl rfl (R_load rfl sc23 rfl mmD (ptg hp (by simp))) ?_
      refine WL_val rfl rfl rfl (R_assign rfl rfl) ?_
      refine WL_nil ?_
      refine WQ_code ?_
      refine WC_seq ?_
      refine WC_seq ?_
      refine WC_region ?_
      refine WL_val rfl rfl rfl (R_move rfl rfl) ?_
      refine WL_val rfl rfl rfl (R_len rfl Tryz.underlying23 rfl) ?_
      refine WL_val rfl rfl rfl (R_move rfl rfl) ?_
      refine WL_val rfl rfl rfl (R_subR (r := (9223372036854775807 - ((joinL (L.take y)).length : Int))) rfl rfl rfl (by have := joinL_le L y; rw [wrap64_in (by omega) (by omega)])) ?_
      refine WL_val rfl rfl rfl (R_gtr rfl rfl rfl) ?_
      refine WL_nil ?_
      refine WQ_code ?_
      refine WC_dF rfl (by have := joinL_le L y; omega) ?_
      refine WC_skip ?_
      refine WQ_code ?_
      refine WC_region ?_
      refine WL_val rfl rfl rfl (R_move rfl rfl) ?_
      refine WL_val rfl rfl rfl (R_move rfl rfl) ?_
      refine WL_val rfl rfl rfl (R_len rfl Tryz.underlying23 rfl) ?_
      refine WL_val rfl rfl rfl (R_addR (r := ((joinL (L.take (y + 1))).length : Int)) rfl rfl rfl (by have := joinL_le L y; rw [joinL_snoc hp, List.length_append, wrap64_in (by omega) (by omega)]; omega)) ?_
      refine WL_val rfl rfl rfl (R_assign rfl rfl) ?_
      refine WL_nil ?_
      refine WQ_code ?_
      refine WC_region ?_
      refine WL_val rfl rfl rfl (R_add rfl rfl rfl (by omega)) ?_
      refine WL_val rfl rfl rfl (R_move rfl rfl) ?_
      refine WL_nil ?_
      refine WQ_nextF (y + 1) (by omega) (by omega) leZ (psZ) rfl (pqD)
    · have hyl : y = L.length := by omega
      subst hyl
      rw [List.take_length]
      refine WC_exit ?_
      refine WQ_code ?_
      refine WC_seq ?_
      refine WC_region ?_
      refine WL_val rfl rfl rfl (R_move rfl rfl) ?_
      refine WL_do rfl rfl rfl (D_makeNoZero (n := (joinL L).length) Tryz.func70 ext_mnz_name rfl ext_mnz_next ext_mnz Tryz.underlying23 rfl rfl (by omega)) ?_
      rintro _ _ ⟨bz, cs, rfl, hcs, rfl⟩
      refine WL_val rfl rfl rfl (R_move rfl rfl) ?_
      refine WL_val rfl rfl rfl (R_move rfl rfl) ?_
      refine WL_val rfl rfl rfl (R_slice3 (h := (joinL L).length) (m := (joinL L).length) rfl Tryz.underlying23 Tryz.sizeOf5 rfl rfl rfl (Nat.le_refl _) hcs) ?_
      refine WL_val rfl rfl rfl (R_assign rfl rfl) ?_
      refine WL_nil ?_
      refine WQ_code ?_
      refine WC_seq ?_
      refine WC_region ?_
      refine WL_val rfl rfl rfl (R_move rfl rfl) ?_
      refine WL_val rfl rfl rfl (R_move rfl rfl) ?_
      refine WL_val rfl rfl rfl (R_indexAddr rfl Tryz.underlying22 Tryz.sizeOf23 rfl rfl (by omega)) ?_
      refine WL_val rfl rfl rfl (R_load rfl sc23 rfl mmD (ptg hp0 (by simp))) ?_
      refine WL_do rfl rfl rfl (D_copyB rfl si23 rfl plD rfl hr0 (pulls_mem (pqD : Pulls PH _ _) he0) hle0 (by omega)) ?_
      rintro _ _ ⟨rfl, rfl⟩
      rw [show (p0.l.length : Int) = ((joinL (L.take 1)).length : Int) from by rw [joinL_snoc hp0]; rfl]
      rw [show List.take 0 cs ++ bvs p0.l ++ List.drop (0 + p0.l.length) cs = bvs (joinL (L.take 1)) ++ cs.drop p0.l.length from by rw [show joinL (L.take 1) = p0.l from by rw [joinL_snoc hp0]; rfl]; simp]
      refine WL_val rfl rfl rfl (R_assign rfl rfl) ?_
      refine WL_nil ?_
      refine WQ_code ?_
      refine WC_seq ?_
      refine WC_seq ?_
      refine WC_region ?_
      refine WL_val rfl rfl rfl (R_move rfl rfl) ?_
      refine WL_val rfl rfl rfl (R_sliceFromK (m := 1) rfl Tryz.underlying22 Tryz.sizeOf23 rfl rfl (by omega)) ?_
      rw [if_neg (show ¬ L.length = 1 by omega)]
      refine WL_val rfl rfl rfl (R_len rfl Tryz.underlying22 rfl) ?_
      refine WL_val rfl rfl rfl (R_move rfl rfl) ?_
      refine WL_nil ?_
      refine WQ_code ?_
      refine WC_block ?_
      refine WC_loopF (G := JnW) [9, 11, 72, 73, 74, 75, 76, 77, 78, 79, 80, 81, 82, 83, 84, 85, 86, 87, 88, 89, 90] (fun y => y.k + 1 ≤ L.length ∧ (joinL (L.take (y.k + 1))).length + y.rest.length = cs.length) (fun y => [(72, .int .i64 (y.k : Int)), (9, .int .i64 ((joinL (L.take (y.k + 1))).length : Int))]) (fun y => [⟨some bz, cl (bvs (joinL (L.take (y.k + 1))) ++ y.rest) 5⟩]) (fun y => L.length - y.k) (⟨0, cs.drop p0.l.length⟩) (⟨by omega, by dsimp only; rw [joinL_snoc hp0, List.length_append, List.length_drop]; show 0 + _ + _ = _; omega⟩) leZ (pqD) ?_
      rintro y ⟨hyk, hyr⟩
      refine WC_seq ?_
      refine WC_region ?_
      refine WL_val rfl rfl rfl (R_lss rfl rfl rfl) ?_
      refine WL_nil ?_
      refine WQ_code ?_
      refine WC_seq ?_
      refine WC_dec rfl (fun c3 => ?_) (fun c3 => ?_)
      · refine WC_skip ?_
        refine WQ_code ?_
        refine WC_seq ?_
        refine WC_block ?_
        refine WC_seq ?_
        refine WC_region ?_
        obtain ⟨p, hp⟩ := getE (T := L) (i := y.k + 1) (by omega)
        have hpT := hT p (List.mem_of_getElem? hp)
        obtain ⟨ent, he, hr⟩ := hR p (List.mem_of_getElem? hp)
        have hle9 := joinL_le L (y.k + 1 + 1)
        rw [joinL_snoc hp, List.length_append] at hle9
        refine WL_val rfl rfl rfl (R_indexAddr rfl Tryz.underlying22 Tryz.sizeOf23 rfl rfl (by omega)) ?_
        refine WL_val rfl rfl rfl (R_load rfl sc23 rfl mmD (ptg hp (by omega))) ?_
        refine WL_val rfl rfl rfl (R_assign rfl rfl) ?_
        refine WL_nil ?_
        refine WQ_code ?_
        refine WC_seq ?_
        refine WC_region ?_
        refine WL_val rfl rfl rfl (R_move rfl rfl) ?_
        refine WL_val rfl rfl rfl (R_move rfl rfl) ?_
        refine WL_val rfl rfl rfl (R_move rfl rfl) ?_
        refine WL_val rfl rfl rfl (R_sliceFromK (m := (joinL (L.take (y.k + 1))).length) rfl Tryz.underlying23 Tryz.sizeOf5 rfl rfl (joinL_le L _)) ?_
        obtain ⟨k9, hk9⟩ : ∃ k, k = (if (joinL L).length = (joinL (L.take (y.k + 1))).length then 0 else 0 + (joinL (L.take (y.k + 1))).length * 1) := ⟨_, rfl⟩
        rw [← hk9]
        have hz9 : k9 + ([] : Bs).length ≤ (bvs (joinL (L.take (y.k + 1))) ++ y.rest).length := by rw [List.length_append, bvs_len, hk9]; split <;> simp <;> omega
        have hfit9 : k9 + p.l.length ≤ (bvs (joinL (L.take (y.k + 1))) ++ y.rest).length := by rw [List.length_append, bvs_len, hk9]; split <;> omega
        refine WL_val rfl rfl rfl (R_move rfl rfl) ?_
        refine WL_do rfl rfl rfl (D_copyB (l := []) rfl si23 rfl plD rfl (RdB.nil none ⟨some bp, cl (L.flatMap encT) 23⟩) mmD (Nat.zero_le _) hz9) ?_
        rintro _ _ ⟨rfl, rfl⟩
        rw [show List.take k9 (bvs (joinL (L.take (y.k + 1))) ++ y.rest) ++ bvs [] ++ List.drop (k9 + ([] : Bs).length) (bvs (joinL (L.take (y.k + 1))) ++ y.rest) = bvs (joinL (L.take (y.k + 1))) ++ y.rest from by simp [bvs]]
        refine WL_val rfl rfl rfl (R_addR (r := ((joinL (L.take (y.k + 1))).length : Int)) rfl rfl rfl (by have := joinL_le L (y.k + 1); show IntKind.i64.wrap (((joinL (L.take (y.k + 1))).length : Int) + 0) = _; rw [Int.add_zero, wrap64_in (by omega) (by omega)])) ?_
        refine WL_val rfl rfl rfl (R_assign rfl rfl) ?_
        refine WL_nil ?_
        refine WQ_code ?_
        refine WC_region ?_
        refine WL_val rfl rfl rfl (R_move rfl rfl) ?_
        refine WL_val rfl rfl rfl (R_move rfl rfl) ?_
        refine WL_val rfl rfl rfl (R_move rfl rfl) ?_
        refine WL_val rfl rfl rfl (R_sliceFromK (m := (joinL (L.take (y.k + 1))).length) rfl Tryz.underlying23 Tryz.sizeOf5 rfl rfl (joinL_le L _)) ?_
        rw [← hk9]
        refine WL_val rfl rfl rfl (R_move rfl rfl) ?_
        refine WL_do rfl rfl rfl (D_copyB rfl si23 rfl plD rfl hr (pulls_mem (pqD : Pulls PH _ _) he) (by omega) hfit9) ?_
        rintro _ _ ⟨rfl, rfl⟩
        rw [copy_step (n := (joinL L).length) (by omega) hk9, ← joinL_snoc hp]
        refine WL_val rfl rfl rfl (R_addR (r := ((joinL (L.take (y.k + 2))).length : Int)) rfl rfl rfl (by have := joinL_le L (y.k + 1); have := hT p (List.mem_of_getElem? hp); rw [show y.k + 2 = (y.k + 1) + 1 from rfl, joinL_snoc hp, List.length_append, wrap64_in (by omega) (by omega)]; omega)) ?_
        refine WL_val rfl rfl rfl (R_assign rfl rfl) ?_
        refine WL_nil ?_
        refine WQ_code ?_
        refine WC_region ?_
        refine WL_val rfl rfl rfl (R_add rfl rfl rfl (by omega)) ?_
        refine WL_val rfl rfl rfl (R_move rfl rfl) ?_
        refine WL_nil ?_
        refine WQ_nextF (⟨y.k + 1, y.rest.drop p.l.length⟩) (⟨by dsimp only; omega, by dsimp only; rw [joinL_snoc hp, List.length_append, List.length_drop]; omega⟩) (by dsimp only; omega) leZ (psZ) rfl (pqD)
      · refine WC_exit ?_
        refine WQ_code ?_
        refine WC_seq ?_
        refine WC_region ?_
        refine WL_val rfl rfl rfl (R_move rfl rfl) ?_
        refine WL_val rfl rfl rfl (R_assign rfl rfl) ?_
        refine WL_nil ?_
        refine WQ_code ?_
        refine WC_ret ?_
        have hJ2 : joinL (L.take (y.k + 1)) = joinL L := by rw [List.take_of_length_le (by omega)]
        rw [hJ2]
        refine WQ_ret rfl rfl (.cons (.tmp rfl) .nil) rfl (by
            exact ⟨some ⟨bz, 0, none⟩, (joinL L).length, ⟨some bz, cl (bvs (joinL L) ++ y.rest) 5⟩, rfl, RdB.pre bz y.rest (joinL L), rfl⟩) (pqD)
end Go.Proofs.YtkcfgglmlogjbaaGreat
end
section
set_option linter.unusedVariables false
set_option maxRecDepth 20000
set_option maxHeartbeats 2000000
namespace Go.Proofs.YtkcfgglmlogjbaaGreat
theorem parts2 {p1 p2 : Pt} {e1 e2 : Ent} (h1 : RdB p1.oa e1 p1.l) (h2 : RdB p2.oa e2 p2.l) : ∀ p ∈ [p1, p2], ∃ ent ∈ [e1, e2], RdB p.oa ent p.l := fun p hp => by
  simp only [List.mem_cons, List.not_mem_nil, or_false] at hp
  rcases hp with rfl | rfl
  · exact ⟨e1, by simp, h1⟩
  · exact ⟨e2, by simp, h2⟩
theorem parts3 {p1 p2 p3 : Pt} {e1 e2 e3 : Ent} (h1 : RdB p1.oa e1 p1.l) (h2 : RdB p2.oa e2 p2.l) (h3 : RdB p3.oa e3 p3.l) : ∀ p ∈ [p1, p2, p3], ∃ ent ∈ [e1, e2, e3], RdB p.oa ent p.l := fun p hp => by
  simp only [List.mem_cons, List.not_mem_nil, or_false] at hp
  rcases hp with rfl | rfl | rfl
  · exact ⟨e1, by simp, h1⟩
  · exact ⟨e2, by simp, h2⟩
  · exact ⟨e3, by simp, h3⟩
theorem RdB.blk (b : Nat) (l : Bs) : RdB (some ⟨b, 0, none⟩) ⟨some b, cl (bvs l) 5⟩ l := fun _ => ⟨b, 0, _, _, (0, 0), rfl, rfl, fun j v hj => by rw [Nat.zero_add]; exact hj⟩
theorem rd_sub {b k i n : Nat} {cs : List Value} {e : TypeId} {fr : Nat × Nat} {l : Bs} (hat : At cs k (bvs l)) : RdB (some ⟨b, k + i, none⟩) ⟨some b, .cells (List.toArray cs) e fr⟩ ((l.drop i).take n) := fun _ => ⟨b, k + i, cs, e, fr, rfl, rfl, hat.sub⟩
theorem short2 {B : Nat} {p1 p2 p3 : Pt} (h1 : p1.l.length ≤ B) (h2 : p2.l.length ≤ B) (h3 : p3.l.length ≤ B) : ∀ p ∈ [p1, p2, p3], p.l.length ≤ B := fun p hp => by
  simp only [List.mem_cons, List.not_mem_nil, or_false] at hp
  rcases hp with rfl | rfl | rfl <;> assumption
theorem joined_ok (bp : Nat) (L : List Pt) (PH : Heap) (hL : 1 ≤ L.length) (hL2 : L.length ≤ 10) (hR : ∀ p ∈ L, ∃ ent ∈ PH, RdB p.oa ent p.l) (hT : ∀ p ∈ L, p.l.length ≤ 100000) :
    Spec Tryz.prog 67 [slV (some bp) L.length L.length] ([⟨some bp, cl (L.flatMap encT) 23⟩] ++ PH) (fun r H' => ∃ oa c ent, r = .slice oa (joinL L).length c ∧ RdB oa ent (joinL L) ∧ H' = [ent] ++ ([⟨some bp, cl (L.flatMap encT) 23⟩] ++ PH)) := by
  refine Spec.of (E := [(0, slV (some bp) L.length L.length)]) Tryz.func67 rfl (by kernel_rfl) Tryz.ntmps67 rfl rfl (fun w => ?_)
  refine WC_seq ?_
  refine WC_region ?_
  refine WL_val rfl rfl rfl (R_assign rfl rfl) ?_
  refine WL_nil ?_
  refine WQ_code ?_
  refine WC_seq ?_
  refine WC_region ?_
  refine WL_val rfl rfl rfl (R_move rfl rfl) ?_
  refine WL_do rfl rfl rfl (D_call (join_ok bp L PH hL hL2 hR hT) rfl rfl rfl rfl (pqD)) ?_
  rintro _ _ ⟨_, ⟨oa9, c9, e9, rfl, hr9, rfl⟩, rfl⟩
  refine WL_val rfl rfl rfl (R_assign rfl rfl) ?_
  refine WL_nil ?_
  refine WQ_code ?_
  refine WC_ret ?_
  refine WQ_ret rfl rfl (.cons (.tmp rfl) .nil) rfl (by
      exact ⟨oa9, c9, e9, rfl, hr9, rfl⟩) (pqD)
theorem encode_ok (k : UInt8) {body : Bs} {oa : Option Addr} {ent : Ent} {c : Nat} (hr : RdB oa ent body) (hb : body.length ≤ 1024) :
    Spec Tryz.prog 47 [.agg #[.int .u8 (k.toNat : Int), .slice oa body.length c]] [ent] (fun r H' => ∃ oa2 c2 e2, r = .tuple #[.slice oa2 (encF k body).length c2, .int .i64 0] ∧ H' = [e2, ent] ∧ RdB oa2 e2 (encF k body)) := by
  have hsm := sumB_lt (innF k body)
  have hil := innF_len k body
  refine Spec.of (E := [(0, .agg #[.int .u8 (k.toNat : Int), .slice oa body.length c])]) Tryz.func47 rfl (by kernel_rfl) Tryz.ntmps47 rfl rfl (fun w => ?_)
  refine WC_seq ?_
  refine WC_region ?_
  refine WL_do rfl rfl rfl (D_box (cs := [_, _]) rfl rfl rfl) ?_
  rintro _ _ ⟨b1, rfl, rfl⟩
  refine WL_val rfl rfl rfl (R_assign rfl rfl) ?_
  refine WL_val rfl rfl rfl (R_assign rfl rfl) ?_
  refine WL_nil ?_
  refine WQ_code ?_
  refine WC_seq ?_
  refine WC_seq ?_
  refine WC_region ?_
  refine WL_val rfl rfl rfl (R_fieldAddr rfl fa84_1 rfl) ?_
  refine WL_val rfl rfl rfl (R_load rfl sc23 rfl (mmD) rfl) ?_
  refine WL_val rfl rfl rfl (R_len rfl Tryz.underlying23 rfl) ?_
  refine WL_val rfl rfl rfl (R_gtr rfl rfl rfl) ?_
  refine WL_nil ?_
  refine WQ_code ?_
  refine WC_dF rfl (by omega) ?_
  refine WC_skip ?_
  refine WQ_code ?_
  refine WC_seq ?_
  refine WC_drawB _ [(0, .q), (1, .q), (3, .q), (4, .q), (5, .q), (7, .q), (8, .q), (6, .n [2]), (2, .b []), (9, .b []), (10, .n []), (11, .q)] followsMixed rfl rfl (by kernel_rfl) .all ?_
  refine WB_val rfl rfl rfl rfl (R_fieldAddr rfl fa84_0 rfl) ?_
  refine WB_val rfl rfl rfl rfl (R_load rfl sc5 rfl (mmD) rfl) ?_
  refine WB_val rfl rfl rfl rfl (R_fieldAddr rfl fa84_1 rfl) ?_
  refine WB_val rfl rfl rfl rfl (R_load rfl sc23 rfl (mmD) rfl) ?_
  refine WB_val rfl rfl rfl rfl (R_len rfl Tryz.underlying23 rfl) ?_
  refine WB_val rfl rfl rfl rfl (R_fieldAddr rfl fa84_1 rfl) ?_
  refine WB_val rfl rfl rfl rfl (R_load rfl sc23 rfl (mmD) rfl) ?_
  refine WB_do rfl rfl rfl rfl (.cons rfl rfl (B_buildSlice rfl si23 rfl rfl rfl) .nil) (fun _ => D_call (two_ok _ (by omega)) rfl rfl rfl rfl (pqD)) ?_
  rintro _ _ ⟨_, ⟨bt, rfl, rfl⟩, rfl⟩
  refine ⟨⟨_, pqD⟩, ?_⟩
  refine WB_birth rfl rfl rfl rfl .nil (B_buildSlice rfl si23 rfl rfl rfl) (fun b2 => ?_)
  refine WB_birth rfl rfl rfl rfl .nil (B_buildSlice rfl si22 rfl rfl rfl) (fun b3 => ?_)
  refine WB_do rfl rfl rfl rfl .nil (fun _ => D_call (joined_ok b3 [⟨some ⟨b2, 0, none⟩, 1, [k]⟩, ⟨some ⟨bt, 0, none⟩, 2, twoB body.length⟩, ⟨oa, c, body⟩] [⟨some b2, cl (bvs [k]) 5⟩, ⟨some bt, cl (bvs (twoB body.length)) 5⟩, ent] (by simp) (by simp) (parts3 (RdB.blk b2 [k]) (RdB.blk bt (twoB body.length)) hr) (short2 (by simp) (by simp [twoB]) (by show body.length ≤ _; omega))) rfl rfl rfl rfl (pqD)) ?_
  rintro _ _ ⟨_, ⟨oa1, c1, e1, rfl, hr1, rfl⟩, rfl⟩
  refine ⟨⟨_, pqD⟩, ?_⟩
  rw [show joinL [⟨some ⟨b2, 0, none⟩, 1, [k]⟩, ⟨some ⟨bt, 0, none⟩, 2, twoB body.length⟩, ⟨oa, c, body⟩] = innF k body from by simp [joinL, innF]] at hr1 ⊢
  refine WB_val rfl rfl rfl rfl (R_assign rfl rfl) ?_
  refine WB_nil ?_
  refine WQ_code ?_
  refine WC_seq ?_
  refine WC_region ?_
  refine WL_do rfl rfl rfl (D_buildSlice rfl si23 rfl rfl rfl) ?_
  rintro _ _ ⟨b4, rfl, rfl⟩
  refine WL_val rfl rfl rfl (R_move rfl rfl) ?_
  refine WL_val rfl rfl rfl (R_move rfl rfl) ?_
  refine WL_do rfl rfl rfl (D_call (sum_ok hr1 (by omega)) rfl rfl rfl rfl (pqD)) ?_
  rintro _ _ ⟨_, ⟨rfl, rfl⟩, rfl⟩
  refine WL_do rfl rfl rfl (D_call (two_ok _ (by omega)) rfl rfl rfl rfl (pqD)) ?_
  rintro _ _ ⟨_, ⟨bt2, rfl, rfl⟩, rfl⟩
  refine WL_do rfl rfl rfl (D_buildSlice rfl si22 rfl rfl rfl) ?_
  rintro _ _ ⟨b5, rfl, rfl⟩
  refine WL_do rfl rfl rfl (D_call (joined_ok b5 [⟨some ⟨b4, 0, none⟩, 1, [197]⟩, ⟨oa1, c1, innF k body⟩, ⟨some ⟨bt2, 0, none⟩, 2, twoB (sumB (innF k body))⟩] [⟨some b4, cl (bvs [197]) 5⟩, e1, ⟨some bt2, cl (bvs (twoB (sumB (innF k body)))) 5⟩] (by simp) (by simp) (parts3 (RdB.blk b4 [197]) hr1 (RdB.blk bt2 (twoB (sumB (innF k body))))) (short2 (by simp) (by show (innF k body).length ≤ _; omega) (by simp [twoB]))) rfl rfl rfl rfl (pqD)) ?_
  rintro _ _ ⟨_, ⟨oa2, c2, e2, rfl, hr2, rfl⟩, rfl⟩
  rw [show joinL [⟨some ⟨b4, 0, none⟩, 1, [197]⟩, ⟨oa1, c1, innF k body⟩, ⟨some ⟨bt2, 0, none⟩, 2, twoB (sumB (innF k body))⟩] = encF k body from by simp [joinL, encF]] at hr2 ⊢
  refine WL_val rfl rfl rfl (R_assign rfl rfl) ?_
  refine WL_val rfl rfl rfl (R_assign rfl rfl) ?_
  refine WL_nil ?_
  refine WQ_code ?_
  refine WC_ret ?_
  refine WQ_ret rfl rfl (.cons (.tmp rfl) (.cons (.tmp rfl) .nil)) rfl (by
      exact ⟨oa2, c2, e2, rfl, rfl, hr2⟩) (pqD)
end Go.Proofs.YtkcfgglmlogjbaaGreat
end
section
set_option linter.unusedVariables false
set_option maxRecDepth 20000
set_option maxHeartbeats 1000000
namespace Go.Proofs.YtkcfgglmlogjbaaGreat
inductive Nx where
  | wait
  | bad (e : Int)
  | got (k : UInt8) (body : Bs) (n : Nat)
def lngB (l : Bs) : Nat := (l[2]?.getD 0).toNat * 256 + (l[3]?.getD 0).toNat
def nxt (l : Bs) : Nx :=
  if l.length = 0 then .wait
  else if l[0]?.getD 0 ≠ 197 then .bad 6
  else if l.length < 4 then .wait
  else if 1024 < lngB l then .bad 5
  else if l.length < lngB l + 6 then .wait
  else if twoB (sumB ((l.drop 1).take (3 + lngB l))) ≠ (l.drop (4 + lngB l)).take 2 then .bad 10
  else .got (l[1]?.getD 0) ((l.drop 4).take (lngB l)) (lngB l + 6)
theorem nxt_got {l : Bs} {k : UInt8} {body : Bs} {n : Nat} (h : nxt l = .got k body n) : n = body.length + 6 ∧ n ≤ l.length ∧ body.length ≤ 1024 := by
  unfold nxt at h
  (repeat' split at h) <;> try (cases h; done)
  cases h
  rename_i h1 h2 h3 h4 h5 h6
  refine ⟨by simp; omega, by omega, by simp; omega⟩
theorem u8_eq {a b : UInt8} (h : (a.toNat : Int) = (b.toNat : Int)) : a = b := UInt8.toNat_inj.1 (by omega)
theorem lngB_of {l : Bs} {x2 x3 : UInt8} (h2 : l[2]? = some x2) (h3 : l[3]? = some x3) : lngB l = x2.toNat * 256 + x3.toNat := by unfold lngB; rw [h2, h3]; rfl
theorem nxt_nil {l : Bs} (h : l.length = 0) : nxt l = .wait := by unfold nxt; rw [if_pos h]
theorem nxt_mark {l : Bs} {x : UInt8} (h0 : ¬ l.length = 0) (hx : l[0]? = some x) (h : x ≠ 197) : nxt l = .bad 6 := by unfold nxt; rw [if_neg h0, hx, if_pos (by exact h)]
theorem nxt_four {l : Bs} {x : UInt8} (h0 : ¬ l.length = 0) (hx : l[0]? = some x) (h : x = 197) (h4 : l.length < 4) : nxt l = .wait := by unfold nxt; rw [if_neg h0, hx, if_neg (by simpa using h), if_pos h4]
theorem nxt_five {l : Bs} {x : UInt8} (h0 : ¬ l.length = 0) (hx : l[0]? = some x) (h : x = 197) (h4 : ¬ l.length < 4) : nxt l = if 1024 < lngB l then .bad 5 else if l.length < lngB l + 6 then .wait else if twoB (sumB ((l.drop 1).take (3 + lngB l))) ≠ (l.drop (4 + lngB l)).take 2 then .bad 10 else .got (l[1]?.getD 0) ((l.drop 4).take (lngB l)) (lngB l + 6) := by
  unfold nxt; rw [if_neg h0, hx, if_neg (by simpa using h), if_neg h4]
theorem RdB.take {oa : Option Addr} {ent : Ent} {l : Bs} (h : RdB oa ent l) (m : Nat) : RdB oa ent (l.take m) := fun hl => by
  obtain ⟨b, k, cs, e, fr, h1, h2, h3⟩ := h (by rw [List.length_take] at hl; omega)
  exact ⟨b, k, cs, e, fr, h1, h2, fun j v hj => by have := At.sub (i := 0) (n := m) h3 j v (by simpa using hj); rwa [Nat.add_zero] at this⟩
theorem OwnS.cutB {ob : Option Nat} {k c m : Nat} {pre tl : List Value} {l : Bs} (h : OwnS ob k l.length c 1 pre (bvs l) tl) (hm : m ≤ l.length) : OwnS ob (if c = m then k else k + m) (l.drop m).length (c - m) 1 (pre ++ bvs (l.take m)) (bvs (l.drop m)) tl := by
  have h1 := h.len
  have h2 := h.cap
  have h3 := h.le
  have h4 := h.big
  rw [bvs_len] at h2
  refine ⟨?_, by rw [bvs_len, Nat.mul_one], by rw [bvs_len, List.length_drop]; omega, by rw [List.length_drop]; omega, by omega, fun e => ?_⟩
  · by_cases e : c = m
    · exact .inr (by omega)
    · rcases h.off with g | g
      · rw [if_neg e, List.length_append, bvs_len, List.length_take, g]; exact .inl (by omega)
      · exact .inr (by omega)
  · obtain ⟨g1, g2⟩ := h.nil e
    have hl : l = [] := List.eq_nil_of_length_eq_zero (by omega)
    subst hl
    exact ⟨by omega, by rw [g2]; simp [bvs]⟩
theorem cutB_ent (pre tl : List Value) (l : Bs) (m : Nat) : pre ++ (bvs l ++ tl) = (pre ++ bvs (l.take m)) ++ (bvs (l.drop m) ++ tl) := by
  conv => lhs; rw [← List.take_append_drop m l, bvs_app]
  simp
theorem R_cutB {X : Ctx} {E : Env} {H : Heap} {o : Oper} {t u : TypeId} {x y : Operand} {ob : Option Nat} {k c m : Nat} {kk : IntKind} {pre tl : List Value} {l : Bs} (hown : OwnS ob k l.length c 1 pre (bvs l) tl) (ho : o.op = .slice t x (some y) none none) (hu : X.P.underlying t = some (.slice u)) (hs : ∀ w, (sizeOf u).run X.P w = .ok 1 w)
    (hx : ev E x = some (sVal ob k l.length c)) (hy : ev E y = some (.int kk (m : Int))) (hm : m ≤ l.length) : Runs X o E H (sVal ob (if c = m then k else k + m) (l.drop m).length (c - m)) := by
  cases ob with
  | none =>
    obtain ⟨g1, g2⟩ := hown.nil rfl
    have h3 := hown.le
    have hl : l = [] := List.eq_nil_of_length_eq_zero (by omega)
    subst hl
    subst g1
    have hm0 : m = 0 := by simpa using hm
    subst hm0
    exact R_sliceFromNil (H := H) ho hu hs hx hy
  | some b =>
    have h := R_sliceFromK (m := m) (H := H) ho hu hs hx hy hm
    rw [Nat.mul_one] at h
    rw [List.length_drop]
    exact h
end Go.Proofs.YtkcfgglmlogjbaaGreat
end
section
set_option linter.unusedVariables false
set_option maxRecDepth 20000
set_option maxHeartbeats 2000000
namespace Go.Proofs.YtkcfgglmlogjbaaGreat
theorem next_ok {l : Bs} {oa : Option Addr} {ent : Ent} {c : Nat} (hr : RdB oa ent l) (hl : l.length ≤ 1000000) (hc : l.length ≤ c) : Spec Tryz.prog 71 [.slice oa l.length c] [ent] (fun r H' => match nxt l with
    | .wait => r = .tuple #[.agg #[.int .u8 0, .slice none 0 0], .int .i64 0, .int .i64 0] ∧ H' = [ent]
    | .bad e => r = .tuple #[.agg #[.int .u8 0, .slice none 0 0], .int .i64 0, .int .i64 e] ∧ H' = [ent]
    | .got k body n => ∃ o c2 tl, r = .tuple #[.agg #[.int .u8 (k.toNat : Int), slV o body.length c2], .int .i64 (n : Int), .int .i64 0] ∧ H' = [⟨o, cl (bvs body ++ tl) 5⟩, ent] ∧ Own o body.length c2 1 (bvs body) tl) := by
  refine Spec.of (E := [(0, .slice oa l.length c)]) Tryz.func71 rfl (by kernel_rfl) Tryz.ntmps71 rfl rfl (fun w => ?_)
  refine WC_seq ?_
  refine WC_region ?_
  refine WL_do rfl rfl rfl (D_alloc rfl zv84) ?_
  rintro _ _ ⟨b1, rfl, rfl⟩
  refine WL_val rfl rfl rfl (R_assign rfl rfl) ?_
  refine WL_val rfl rfl rfl (R_assign rfl rfl) ?_
  refine WL_nil ?_
  refine WQ_code ?_
  refine WC_seq ?_
  refine WC_seq ?_
  refine WC_region ?_
  refine WL_val rfl rfl rfl (R_move rfl rfl) ?_
  refine WL_val rfl rfl rfl (R_len rfl Tryz.underlying23 rfl) ?_
  refine WL_val rfl rfl rfl (R_eql rfl rfl rfl) ?_
  refine WL_nil ?_
  refine WQ_code ?_
  refine WC_dec rfl (fun c1 => ?_) (fun c1 => ?_)
  · have hN : nxt l = .wait := nxt_nil (by omega)
    refine WC_seq ?_
    refine WC_region ?_
    refine WL_val rfl rfl rfl (R_loadA (vs := [_, _]) rfl ag84 rfl (mmD) rfl (atZ)) ?_
    refine WL_do0 rfl rfl (D_store (vs := [_, _]) rfl Tryz.sizeOf84 rfl rfl rfl rfl rfl (plD) (by exact Nat.le_of_ble_eq_true rfl)) ?_
    rintro _ _ rfl
    refine WL_val rfl rfl rfl (R_assign rfl rfl) ?_
    refine WL_val rfl rfl rfl (R_assign rfl rfl) ?_
    refine WL_nil ?_
    refine WQ_code ?_
    refine WC_ret ?_
    refine WQ_ret rfl rfl (.cons (.cell (vs := [_, _]) rfl ag84 (mmD) rfl (atZ)) (.cons (.tmp rfl) (.cons (.tmp rfl) .nil))) rfl (by
        rw [hN]
        first | exact ⟨rfl, rfl⟩ | exact ⟨o9, c9, tl9, rfl, rfl, own9⟩) (pqD)
  · have h0 : ¬ l.length = 0 := by omega
    refine WC_skip ?_
    refine WQ_code ?_
    refine WC_seq ?_
    refine WC_seq ?_
    refine WC_region ?_
    obtain ⟨x0, hx0⟩ := getE (T := l) (i := 0) (by omega)
    obtain ⟨rb, rk, rcs, re, rfr, rfl, rfl, hat⟩ := hr (by omega)
    refine WL_val rfl rfl rfl (R_move rfl rfl) ?_
    refine WL_val rfl rfl rfl (R_indexAddr rfl Tryz.underlying23 Tryz.sizeOf5 rfl rfl (by omega)) ?_
    refine WL_val rfl rfl rfl (R_loadG (v := .int .u8 (x0.toNat : Int)) rfl sc5 rfl mmD (by simpa using hat 0 _ (bvs_get hx0))) ?_
    refine WL_val rfl rfl rfl (R_neq rfl rfl rfl) ?_
    refine WL_nil ?_
    refine WQ_code ?_
    refine WC_dec rfl (fun c2 => ?_) (fun c2 => ?_)
    · have hN : nxt l = .bad 6 := nxt_mark h0 hx0 (fun e => c2 (by rw [e]; rfl))
      refine WC_seq ?_
      refine WC_region ?_
      refine WL_val rfl rfl rfl (R_loadA (vs := [_, _]) rfl ag84 rfl (mmD) rfl (atZ)) ?_
      refine WL_do0 rfl rfl (D_store (vs := [_, _]) rfl Tryz.sizeOf84 rfl rfl rfl rfl rfl (plD) (by exact Nat.le_of_ble_eq_true rfl)) ?_
      rintro _ _ rfl
      refine WL_val rfl rfl rfl (R_assign rfl rfl) ?_
      refine WL_val rfl rfl rfl (R_assign rfl rfl) ?_
      refine WL_nil ?_
      refine WQ_code ?_
      refine WC_ret ?_
      refine WQ_ret rfl rfl (.cons (.cell (vs := [_, _]) rfl ag84 (mmD) rfl (atZ)) (.cons (.tmp rfl) (.cons (.tmp rfl) .nil))) rfl (by
          rw [hN]
          first | exact ⟨rfl, rfl⟩ | exact ⟨o9, c9, tl9, rfl, rfl, own9⟩) (pqD)
    · have hm0 : x0 = 197 := u8_eq (Decidable.byContradiction c2)
      refine WC_skip ?_
      refine WQ_code ?_
      refine WC_seq ?_
      refine WC_seq ?_
      refine WC_region ?_
      refine WL_val rfl rfl rfl (R_move rfl rfl) ?_
      refine WL_val rfl rfl rfl (R_len rfl Tryz.underlying23 rfl) ?_
      refine WL_val rfl rfl rfl (R_lss rfl rfl rfl) ?_
      refine WL_nil ?_
      refine WQ_code ?_
      refine WC_dec rfl (fun c3 => ?_) (fun c3 => ?_)
      · have hN : nxt l = .wait := nxt_four h0 hx0 hm0 (by omega)
        refine WC_seq ?_
        refine WC_region ?_
        refine WL_val rfl rfl rfl (R_loadA (vs := [_, _]) rfl ag84 rfl (mmD) rfl (atZ)) ?_
        refine WL_do0 rfl rfl (D_store (vs := [_, _]) rfl Tryz.sizeOf84 rfl rfl rfl rfl rfl (plD) (by exact Nat.le_of_ble_eq_true rfl)) ?_
        rintro _ _ rfl
        refine WL_val rfl rfl rfl (R_assign rfl rfl) ?_
        refine WL_val rfl rfl rfl (R_assign rfl rfl) ?_
        refine WL_nil ?_
        refine WQ_code ?_
        refine WC_ret ?_
        refine WQ_ret rfl rfl (.cons (.cell (vs := [_, _]) rfl ag84 (mmD) rfl (atZ)) (.cons (.tmp rfl) (.cons (.tmp rfl) .nil))) rfl (by
            rw [hN]
            first | exact ⟨rfl, rfl⟩ | exact ⟨o9, c9, tl9, rfl, rfl, own9⟩) (pqD)
      · have h4 : ¬ l.length < 4 := by omega
        refine WC_skip ?_
        refine WQ_code ?_
        refine WC_seq ?_
        refine WC_draw _ [(0, true), (1, true), (2, true), (3, true), (4, true), (5, true), (6, true), (7, true), (8, true), (9, true), (10, true)] followsMixed rfl rfl (by kernel_rfl) .all ?_
        obtain ⟨x2, hx2⟩ := getE (T := l) (i := 2) (by omega)
        obtain ⟨x3, hx3⟩ := getE (T := l) (i := 3) (by omega)
        obtain ⟨x1, hx1⟩ := getE (T := l) (i := 1) (by omega)
        have hlg := lngB_of hx2 hx3
        have hb2 := u8_lt x2
        have hb3 := u8_lt x3
        have h5 := nxt_five h0 hx0 hm0 h4
        rw [hlg] at h5
        obtain ⟨gg, hgg⟩ : ∃ q, q = x2.toNat * 256 + x3.toNat := ⟨_, rfl⟩
        rw [← hgg] at h5 hlg
        refine WM_val rfl rfl rfl rfl (R_move rfl rfl) ?_
        refine WM_val rfl rfl rfl rfl (R_indexAddr rfl Tryz.underlying23 Tryz.sizeOf5 rfl rfl (by omega)) ?_
        refine WM_val rfl rfl rfl rfl (R_loadG (v := .int .u8 (x2.toNat : Int)) rfl sc5 rfl mmD (by simpa using hat 2 _ (bvs_get hx2))) ?_
        refine WM_val rfl rfl rfl rfl (R_conv (r := (x2.toNat : Int)) rfl Tryz.underlying5 Tryz.underlying3 rfl (by rw [wrap64_in (by omega) (by omega)])) ?_
        refine WM_val rfl rfl rfl rfl (R_shlR (r := ((x2.toNat * 256 : Nat) : Int)) rfl rfl rfl (by decide) (by show IntKind.i64.wrap ((x2.toNat : Int) * 2 ^ 8) = _; rw [wrap64_in (by omega) (by omega)]; omega)) ?_
        refine WM_val rfl rfl rfl rfl (R_move rfl rfl) ?_
        refine WM_val rfl rfl rfl rfl (R_indexAddr rfl Tryz.underlying23 Tryz.sizeOf5 rfl rfl (by omega)) ?_
        refine WM_val rfl rfl rfl rfl (R_loadG (v := .int .u8 (x3.toNat : Int)) rfl sc5 rfl mmD (by simpa using hat 3 _ (bvs_get hx3))) ?_
        refine WM_val rfl rfl rfl rfl (R_conv (r := (x3.toNat : Int)) rfl Tryz.underlying5 Tryz.underlying3 rfl (by rw [wrap64_in (by omega) (by omega)])) ?_
        refine WM_val rfl rfl rfl rfl (R_orR (r := ((gg : Nat) : Int)) rfl rfl rfl (by rw [hgg]; exact or_i64 (by omega) hb3)) ?_
        refine WM_val rfl rfl rfl rfl (R_assign rfl rfl) ?_
        refine WM_nil ?_
        refine WQ_code ?_
        refine WC_seq ?_
        refine WC_block ?_
        refine WC_seq ?_
        refine WC_region ?_
        refine WL_val rfl rfl rfl (R_move rfl rfl) ?_
        refine WL_val rfl rfl rfl (R_gtr rfl rfl rfl) ?_
        refine WL_val rfl rfl rfl (R_assign rfl rfl) ?_
        refine WL_nil ?_
        refine WQ_code ?_
        refine WC_dec rfl (fun c4 => ?_) (fun c4 => ?_)
        · have hN : nxt l = .bad 5 := by rw [h5, if_pos (by omega)]
          refine WC_seq ?_
          refine WC_region ?_
          refine WL_val rfl rfl rfl (R_loadA (vs := [_, _]) rfl ag84 rfl (mmD) rfl (atZ)) ?_
          refine WL_do0 rfl rfl (D_store (vs := [_, _]) rfl Tryz.sizeOf84 rfl rfl rfl rfl rfl (plD) (by exact Nat.le_of_ble_eq_true rfl)) ?_
          rintro _ _ rfl
          refine WL_val rfl rfl rfl (R_assign rfl rfl) ?_
          refine WL_val rfl rfl rfl (R_assign rfl rfl) ?_
          refine WL_nil ?_
          refine WQ_code ?_
          refine WC_ret ?_
          refine WQ_ret rfl rfl (.cons (.cell (vs := [_, _]) rfl ag84 (mmD) rfl (atZ)) (.cons (.tmp rfl) (.cons (.tmp rfl) .nil))) rfl (by
              rw [hN]
              first | exact ⟨rfl, rfl⟩ | exact ⟨o9, c9, tl9, rfl, rfl, own9⟩) (pqD)
        · rw [if_neg (show ¬ 1024 < gg by omega)] at h5
          refine WC_seq ?_
          refine WC_region ?_
          refine WL_val rfl rfl rfl (R_move rfl rfl) ?_
          refine WL_val rfl rfl rfl (R_len rfl Tryz.underlying23 rfl) ?_
          refine WL_val rfl rfl rfl (R_move rfl rfl) ?_
          refine WL_val rfl rfl rfl (R_add rfl rfl rfl (by omega)) ?_
          refine WL_val rfl rfl rfl (R_lss rfl rfl rfl) ?_
          refine WL_val rfl rfl rfl (R_assign rfl rfl) ?_
          refine WL_nil ?_
          refine WQ_code ?_
          refine WC_dec rfl (fun c5 => ?_) (fun c5 => ?_)
          · have hN : nxt l = .wait := by rw [h5, if_pos (by omega)]
            refine WC_seq ?_
            refine WC_region ?_
            refine WL_val rfl rfl rfl (R_loadA (vs := [_, _]) rfl ag84 rfl (mmD) rfl (atZ)) ?_
            refine WL_do0 rfl rfl (D_store (vs := [_, _]) rfl Tryz.sizeOf84 rfl rfl rfl rfl rfl (plD) (by exact Nat.le_of_ble_eq_true rfl)) ?_
            rintro _ _ rfl
            refine WL_val rfl rfl rfl (R_assign rfl rfl) ?_
            refine WL_val rfl rfl rfl (R_assign rfl rfl) ?_
            refine WL_nil ?_
            refine WQ_code ?_
            refine WC_ret ?_
            refine WQ_ret rfl rfl (.cons (.cell (vs := [_, _]) rfl ag84 (mmD) rfl (atZ)) (.cons (.tmp rfl) (.cons (.tmp rfl) .nil))) rfl (by
                rw [hN]
                first | exact ⟨rfl, rfl⟩ | exact ⟨o9, c9, tl9, rfl, rfl, own9⟩) (pqD)
          · rw [if_neg (show ¬ l.length < gg + 6 by omega)] at h5
            refine WC_seq ?_
            refine WC_draw _ [(0, true), (1, true), (2, true), (3, true), (6, true), (7, true), (8, true), (9, true), (10, true), (11, true), (4, false), (5, false), (12, false), (13, true), (14, true)] followsMixed rfl rfl (by kernel_rfl) .all ?_
            refine WM_val rfl rfl rfl rfl (R_move rfl rfl) ?_
            refine WM_val rfl rfl rfl rfl (R_move rfl rfl) ?_
            refine WM_val rfl rfl rfl rfl (R_addR (r := ((4 + gg : Nat) : Int)) rfl rfl rfl (by rw [wrap64_in (by omega) (by omega)]; omega)) ?_
            refine WM_val rfl rfl rfl rfl (R_sliceLH (m := 1) (h := 4 + gg) rfl Tryz.underlying23 Tryz.sizeOf5 rfl rfl rfl (by omega) (by omega)) ?_
            rw [if_neg (show ¬ c = 1 by omega), show 4 + gg - 1 = ((l.drop 1).take (3 + gg)).length from by simp; omega]
            refine WM_val rfl rfl rfl rfl (R_move rfl rfl) ?_
            refine WM_val rfl rfl rfl rfl (R_move rfl rfl) ?_
            refine WM_val rfl rfl rfl rfl (R_addR (r := ((4 + gg : Nat) : Int)) rfl rfl rfl (by rw [wrap64_in (by omega) (by omega)]; omega)) ?_
            refine WM_val rfl rfl rfl rfl (R_move rfl rfl) ?_
            refine WM_val rfl rfl rfl rfl (R_addR (r := ((6 + gg : Nat) : Int)) rfl rfl rfl (by rw [wrap64_in (by omega) (by omega)]; omega)) ?_
            refine WM_val rfl rfl rfl rfl (R_sliceLH (m := 4 + gg) (h := 6 + gg) rfl Tryz.underlying23 Tryz.sizeOf5 rfl rfl rfl (by omega) (by omega)) ?_
            rw [if_neg (show ¬ c = 4 + gg by omega), Nat.mul_one, show 6 + gg - (4 + gg) = ((l.drop (4 + gg)).take 2).length from by simp; omega]
            refine WM_do rfl rfl rfl rfl (D_call (sum_ok (rd_sub (i := 1) (n := 3 + gg) hat) (by simp; omega)) rfl rfl rfl rfl (pqD)) ?_
            rintro _ _ ⟨_, ⟨rfl, rfl⟩, rfl⟩
            refine ⟨⟨_, pqD⟩, ?_⟩
            refine WM_do rfl rfl rfl rfl (D_call (two_ok _ (by have := sumB_lt ((l.drop 1).take (3 + gg)); omega)) rfl rfl rfl rfl (pqD)) ?_
            rintro _ _ ⟨_, ⟨bt, rfl, rfl⟩, rfl⟩
            refine ⟨⟨_, pqD⟩, ?_⟩
            refine WM_do rfl rfl rfl rfl (D_call (equal_ok (RdB.blk bt (twoB (sumB ((l.drop 1).take (3 + gg))))) (rd_sub (i := 4 + gg) (n := 2) hat)) rfl rfl rfl rfl (pqD)) ?_
            rintro _ _ ⟨_, ⟨rfl, rfl⟩, rfl⟩
            refine ⟨⟨_, pqD⟩, ?_⟩
            refine WM_val rfl rfl rfl rfl (R_notD rfl rfl) ?_
            refine WM_val rfl rfl rfl rfl (R_assign rfl rfl) ?_
            refine WM_nil ?_
            refine WQ_code ?_
            refine WC_dec rfl (fun c6 => ?_) (fun c6 => ?_)
            · have hN : nxt l = .bad 10 := by rw [h5, if_pos c6]
              refine WC_seq ?_
              refine WC_region ?_
              refine WL_val rfl rfl rfl (R_loadA (vs := [_, _]) rfl ag84 rfl (mmD) rfl (atZ)) ?_
              refine WL_do0 rfl rfl (D_store (vs := [_, _]) rfl Tryz.sizeOf84 rfl rfl rfl rfl rfl (plD) (by exact Nat.le_of_ble_eq_true rfl)) ?_
              rintro _ _ rfl
              refine WL_val rfl rfl rfl (R_assign rfl rfl) ?_
              refine WL_val rfl rfl rfl (R_assign rfl rfl) ?_
              refine WL_nil ?_
              refine WQ_code ?_
              refine WC_ret ?_
              refine WQ_ret rfl rfl (.cons (.cell (vs := [_, _]) rfl ag84 (mmD) rfl (atZ)) (.cons (.tmp rfl) (.cons (.tmp rfl) .nil))) rfl (by
                  rw [hN]
                  first | exact ⟨rfl, rfl⟩ | exact ⟨o9, c9, tl9, rfl, rfl, own9⟩) (pqD)
            · have hN : nxt l = .got x1 ((l.drop 4).take gg) (gg + 6) := by rw [h5, if_neg c6, hx1]; rfl
              refine WC_skip ?_
              refine WQ_code ?_
              refine WC_seq ?_
              refine WC_drawR [⟨some b1, _⟩] [(0, true), (1, true), (2, true), (3, true), (4, true), (5, true), (6, true), (9, true), (10, true), (7, false), (8, true), (11, false), (12, true), (13, true)] followsMixed rfl rfl (by kernel_rfl) (pqD) ?_
              refine WM_val rfl rfl rfl rfl (R_move rfl rfl) ?_
              refine WM_val rfl rfl rfl rfl (R_indexAddr rfl Tryz.underlying23 Tryz.sizeOf5 rfl rfl (by omega)) ?_
              refine WM_val rfl rfl rfl rfl (R_loadG (v := .int .u8 (x1.toNat : Int)) rfl sc5 rfl mmD (by simpa using hat 1 _ (bvs_get hx1))) ?_
              refine WM_val rfl rfl rfl rfl (R_move rfl rfl) ?_
              refine WM_val rfl rfl rfl rfl (R_move rfl rfl) ?_
              refine WM_val rfl rfl rfl rfl (R_addR (r := ((4 + gg : Nat) : Int)) rfl rfl rfl (by rw [wrap64_in (by omega) (by omega)]; omega)) ?_
              refine WM_val rfl rfl rfl rfl (R_sliceLH (m := 4) (h := 4 + gg) rfl Tryz.underlying23 Tryz.sizeOf5 rfl rfl rfl (by omega) (by omega)) ?_
              rw [if_neg (show ¬ c = 4 by omega), show 4 + gg - 4 = ((l.drop 4).take gg).length from by simp; omega]
              refine WM_val rfl rfl rfl rfl (R_move rfl rfl) ?_
              refine WM_val rfl rfl rfl rfl (R_addR (r := ((gg + 6 : Nat) : Int)) rfl rfl rfl (by rw [wrap64_in (by omega) (by omega)]; omega)) ?_
              refine WM_do rfl rfl rfl rfl (D_call (clone_some (rd_sub (i := 4) (n := gg) hat) (by simp; omega)) rfl rfl rfl rfl (pqD)) ?_
              rintro _ _ ⟨_, ⟨o9, c9, tl9, rfl, own9, rfl⟩, rfl⟩
              refine ⟨⟨_, pqD⟩, ?_⟩
              refine WM_val rfl rfl rfl rfl (R_build rfl zv84 pl84 rfl rfl) ?_
              refine WM_do0 rfl rfl rfl (D_store (vs := [_, _]) rfl Tryz.sizeOf84 rfl rfl rfl rfl rfl (plD) (by exact Nat.le_of_ble_eq_true rfl)) ?_
              rintro _ _ rfl
              refine ⟨⟨_, pqD⟩, ?_⟩
              refine WM_val rfl rfl rfl rfl (R_assign rfl rfl) ?_
              refine WM_val rfl rfl rfl rfl (R_assign rfl rfl) ?_
              refine WM_nil ?_
              refine WQ_code ?_
              refine WC_ret ?_
              refine WQ_ret rfl rfl (.cons (.cell (vs := [_, _]) rfl ag84 (mmD) rfl (atZ)) (.cons (.tmp rfl) (.cons (.tmp rfl) .nil))) rfl (by
                  rw [hN]
                  first | exact ⟨rfl, rfl⟩ | exact ⟨o9, c9, tl9, rfl, rfl, own9⟩) (pqD)
end Go.Proofs.YtkcfgglmlogjbaaGreat
end
section
set_option linter.unusedVariables false
set_option maxRecDepth 20000
set_option maxHeartbeats 2000000
namespace Go.Proofs.YtkcfgglmlogjbaaGreat
theorem put_br (a b c v : Value) (Z : List Value) : putAt (a :: b :: c :: Z) (1 + 1) [v] = a :: b :: v :: Z := by cases Z <;> rfl
theorem next_wait {l : Bs} {oa : Option Addr} {ent : Ent} {c : Nat} (hr : RdB oa ent l) (hl : l.length ≤ 1000000) (hc : l.length ≤ c) (h : nxt l = .wait) : Spec Tryz.prog 71 [.slice oa l.length c] [ent] (fun r H' => r = .tuple #[.agg #[.int .u8 0, .slice none 0 0], .int .i64 0, .int .i64 0] ∧ H' = [ent]) := by
  have h9 := next_ok (c := c) hr hl hc
  rw [h] at h9
  exact h9
theorem next_bad {l : Bs} {oa : Option Addr} {ent : Ent} {c : Nat} (hr : RdB oa ent l) (hl : l.length ≤ 1000000) (hc : l.length ≤ c) {e : Int} (h : nxt l = .bad e) : Spec Tryz.prog 71 [.slice oa l.length c] [ent] (fun r H' => r = .tuple #[.agg #[.int .u8 0, .slice none 0 0], .int .i64 0, .int .i64 e] ∧ H' = [ent]) := by
  have h9 := next_ok (c := c) hr hl hc
  rw [h] at h9
  exact h9
theorem next_got {l : Bs} {oa : Option Addr} {ent : Ent} {c : Nat} (hr : RdB oa ent l) (hl : l.length ≤ 1000000) (hc : l.length ≤ c) {k : UInt8} {body : Bs} {n : Nat} (h : nxt l = .got k body n) : Spec Tryz.prog 71 [.slice oa l.length c] [ent] (fun r H' => ∃ o c2 tl, r = .tuple #[.agg #[.int .u8 (k.toNat : Int), slV o body.length c2], .int .i64 (n : Int), .int .i64 0] ∧ H' = [⟨o, cl (bvs body ++ tl) 5⟩, ent] ∧ Own o body.length c2 1 (bvs body) tl) := by
  have h9 := next_ok (c := c) hr hl hc
  rw [h] at h9
  exact h9
theorem feed_ok (p ty : Nat) (a0 : Value) (Z : List Value) {bs : Bs} {ob : Option Nat} {k c : Nat} {pre tl : List Value} (hO : OwnS ob k bs.length c 1 pre (bvs bs) tl) {l : Bs} {oa : Option Addr} {ent : Ent} {c2 : Nat} (hr : RdB oa ent l) (hfit : bs.length + l.length ≤ 65536) : Spec Tryz.prog 50 [.pointer (some ⟨p, 1, none⟩), .slice oa l.length c2] [⟨some p, cl (a0 :: sVal ob k bs.length c :: .int .i64 0 :: Z) ty⟩, ⟨ob, cl (pre ++ (bvs bs ++ tl)) 5⟩, ent]
    (fun r H' => ∃ ob' k' c' pre' tl', r = .int .i64 0 ∧ H' = [⟨some p, cl (a0 :: sVal ob' k' (bs ++ l).length c' :: .int .i64 0 :: Z) ty⟩, ⟨ob', cl (pre' ++ (bvs (bs ++ l) ++ tl')) 5⟩, ent] ∧ OwnS ob' k' (bs ++ l).length c' 1 pre' (bvs (bs ++ l)) tl') := by
  refine Spec.of (E := [(0, .pointer (some ⟨p, 1, none⟩)), (1, .slice oa l.length c2)]) Tryz.func50 rfl (by kernel_rfl) Tryz.ntmps50 rfl rfl (fun w => ?_)
  refine WC_seq ?_
  refine WC_region ?_
  refine WL_val rfl rfl rfl (R_assign rfl rfl) ?_
  refine WL_nil ?_
  refine WQ_code ?_
  refine WC_seq ?_
  refine WC_block ?_
  refine WC_seq ?_
  refine WC_region ?_
  refine WL_val rfl rfl rfl (R_move rfl rfl) ?_
  refine WL_val rfl rfl rfl (R_ptrEqNil rfl Tryz.underlying68 rfl) ?_
  refine WL_val rfl rfl rfl (R_assign rfl rfl) ?_
  refine WL_nil ?_
  refine WQ_code ?_
  refine WC_F rfl ?_
  refine WC_seq ?_
  refine WC_region ?_
  refine WL_val rfl rfl rfl (R_move rfl rfl) ?_
  refine WL_val rfl rfl rfl (R_nilCheck rfl rfl) ?_
  refine WL_val rfl rfl rfl (R_fieldAddr rfl fa32_1 rfl) ?_
  refine WL_val rfl rfl rfl (R_load rfl sc27 rfl (mmD) rfl) ?_
  refine WL_val rfl rfl rfl (R_neq rfl rfl rfl) ?_
  refine WL_val rfl rfl rfl (R_assign rfl rfl) ?_
  refine WL_nil ?_
  refine WQ_code ?_
  refine WC_dF rfl (by decide) ?_
  refine WC_seq ?_
  refine WC_region ?_
  refine WL_val rfl rfl rfl (R_move rfl rfl) ?_
  refine WL_val rfl rfl rfl (R_len rfl Tryz.underlying23 rfl) ?_
  refine WL_val rfl rfl rfl (R_move rfl rfl) ?_
  refine WL_val rfl rfl rfl (R_nilCheck rfl rfl) ?_
  refine WL_val rfl rfl rfl (R_fieldAddr rfl fa32_0 rfl) ?_
  refine WL_val rfl rfl rfl (R_load rfl sc23 rfl (mmD) rfl) ?_
  refine WL_val rfl rfl rfl (R_len rfl Tryz.underlying23 rfl) ?_
  refine WL_val rfl rfl rfl (R_subR (r := (65536 - (bs.length : Int))) rfl rfl rfl (by rw [wrap64_in (by omega) (by omega)])) ?_
  refine WL_val rfl rfl rfl (R_gtr rfl rfl rfl) ?_
  refine WL_val rfl rfl rfl (R_assign rfl rfl) ?_
  refine WL_nil ?_
  refine WQ_code ?_
  refine WC_dF rfl (by omega) ?_
  refine WC_skip ?_
  refine WQ_code ?_
  refine WC_seq ?_
  refine WC_region ?_
  refine WL_val rfl rfl rfl (R_move rfl rfl) ?_
  refine WL_val rfl rfl rfl (R_move rfl rfl) ?_
  refine WL_val rfl rfl rfl (R_nilCheck rfl rfl) ?_
  refine WL_val rfl rfl rfl (R_fieldAddr rfl fa32_0 rfl) ?_
  refine WL_val rfl rfl rfl (R_load rfl sc23 rfl (mmD) rfl) ?_
  refine WL_val rfl rfl rfl (R_move rfl rfl) ?_
  refine WL_do rfl rfl rfl (D_appendB rfl si23 rfl hO plD rfl hr mmD (by omega) (by omega)) ?_
  rintro _ _ ⟨ob2, k2, c3, pre2, tl2, rfl, own2, rfl, _⟩
  rw [← bvs_app, show bs.length + l.length = (bs ++ l).length from by simp] at own2 ⊢
  refine WL_val rfl rfl rfl (R_nilCheck rfl rfl) ?_
  refine WL_val rfl rfl rfl (R_fieldAddr rfl fa32_0 rfl) ?_
  refine WL_do0 rfl rfl (D_store (vs := [_]) rfl Tryz.sizeOf23 rfl rfl rfl rfl rfl (plD) (by exact Nat.le_of_ble_eq_true rfl)) ?_
  rintro _ _ rfl
  refine WL_nil ?_
  refine WQ_code ?_
  refine WC_seq ?_
  refine WC_region ?_
  refine WL_val rfl rfl rfl (R_assign rfl rfl) ?_
  refine WL_nil ?_
  refine WQ_code ?_
  refine WC_ret ?_
  refine WQ_ret rfl rfl (.cons (.tmp rfl) .nil) rfl (by
      exact ⟨ob2, k2, c3, pre2, tl2, rfl, rfl, own2⟩) (pqD)
theorem rnext_wait (p ty : Nat) (a0 : Value) (Z : List Value) {bs : Bs} {ob : Option Nat} {k c : Nat} {pre tl : List Value} (hO : OwnS ob k bs.length c 1 pre (bvs bs) tl) (hl : bs.length ≤ 65536) (hN : nxt bs = .wait) : Spec Tryz.prog 52 [.pointer (some ⟨p, 1, none⟩)] [⟨some p, cl (a0 :: sVal ob k bs.length c :: .int .i64 0 :: Z) ty⟩, ⟨ob, cl (pre ++ (bvs bs ++ tl)) 5⟩]
    (fun r H' => ∃ k' c', r = .tuple #[.agg #[.int .u8 0, .slice none 0 0], .bool false, .int .i64 0] ∧ H' = [⟨some p, cl (a0 :: sVal ob k' bs.length c' :: .int .i64 0 :: Z) ty⟩, ⟨ob, cl (pre ++ (bvs bs ++ tl)) 5⟩] ∧ OwnS ob k' bs.length c' 1 pre (bvs bs) tl) := by
  refine Spec.of (E := [(0, .pointer (some ⟨p, 1, none⟩))]) Tryz.func52 rfl (by kernel_rfl) Tryz.ntmps52 rfl rfl (fun w => ?_)
  refine WC_seq ?_
  refine WC_region ?_
  refine WL_do rfl rfl rfl (D_alloc rfl zv84) ?_
  rintro _ _ ⟨b1, rfl, rfl⟩
  refine WL_val rfl rfl rfl (R_assign rfl rfl) ?_
  refine WL_val rfl rfl rfl (R_assign rfl rfl) ?_
  refine WL_nil ?_
  refine WQ_code ?_
  refine WC_seq ?_
  refine WC_block ?_
  refine WC_seq ?_
  refine WC_region ?_
  refine WL_val rfl rfl rfl (R_move rfl rfl) ?_
  refine WL_val rfl rfl rfl (R_ptrEqNil rfl Tryz.underlying68 rfl) ?_
  refine WL_val rfl rfl rfl (R_assign rfl rfl) ?_
  refine WL_nil ?_
  refine WQ_code ?_
  refine WC_F rfl ?_
  refine WC_seq ?_
  refine WC_region ?_
  refine WL_val rfl rfl rfl (R_move rfl rfl) ?_
  refine WL_val rfl rfl rfl (R_nilCheck rfl rfl) ?_
  refine WL_val rfl rfl rfl (R_fieldAddr rfl fa32_1 rfl) ?_
  refine WL_val rfl rfl rfl (R_load rfl sc27 rfl (mmD) rfl) ?_
  refine WL_val rfl rfl rfl (R_neq rfl rfl rfl) ?_
  refine WL_val rfl rfl rfl (R_assign rfl rfl) ?_
  refine WL_nil ?_
  refine WQ_code ?_
  refine WC_dF rfl (by decide) ?_
  refine WC_skip ?_
  refine WQ_code ?_
  refine WC_seq ?_
  refine WC_region ?_
  refine WL_val rfl rfl rfl (R_move rfl rfl) ?_
  refine WL_val rfl rfl rfl (R_nilCheck rfl rfl) ?_
  refine WL_val rfl rfl rfl (R_fieldAddr rfl fa32_0 rfl) ?_
  refine WL_val rfl rfl rfl (R_load rfl sc23 rfl (mmD) rfl) ?_
  refine WL_do rfl rfl rfl (D_call (next_wait (RdB.ownS hO) (by omega) hO.le hN) rfl rfl rfl rfl (pqD)) ?_
  rintro _ _ ⟨_, ⟨rfl, rfl⟩, rfl⟩
  refine WL_val rfl rfl rfl (R_move rfl rfl) ?_
  refine WL_val rfl rfl rfl (R_extract rfl rfl rfl) ?_
  refine WL_val rfl rfl rfl (R_extract rfl rfl rfl) ?_
  refine WL_val rfl rfl rfl (R_extract rfl rfl rfl) ?_
  refine WL_do0 rfl rfl (D_store (vs := [_, _]) rfl Tryz.sizeOf84 rfl rfl rfl rfl rfl (plD) (by exact Nat.le_of_ble_eq_true rfl)) ?_
  rintro _ _ rfl
  refine WL_val rfl rfl rfl (R_assign rfl rfl) ?_
  refine WL_val rfl rfl rfl (R_assign rfl rfl) ?_
  refine WL_nil ?_
  refine WQ_code ?_
  refine WC_seq ?_
  refine WC_seq ?_
  refine WC_region ?_
  refine WL_val rfl rfl rfl (R_move rfl rfl) ?_
  refine WL_val rfl rfl rfl (R_neq rfl rfl rfl) ?_
  refine WL_nil ?_
  refine WQ_code ?_
  refine WC_dF rfl (by decide) ?_
  refine WC_skip ?_
  refine WQ_code ?_
  refine WC_seq ?_
  refine WC_region ?_
  refine WL_val rfl rfl rfl (R_move rfl rfl) ?_
  refine WL_val rfl rfl rfl (R_move rfl rfl) ?_
  refine WL_val rfl rfl rfl (R_nilCheck rfl rfl) ?_
  refine WL_val rfl rfl rfl (R_fieldAddr rfl fa32_0 rfl) ?_
  refine WL_val rfl rfl rfl (R_load rfl sc23 rfl (mmD) rfl) ?_
  refine WL_val rfl rfl rfl (R_move rfl rfl) ?_
  refine WL_val rfl rfl rfl (R_cutB (m := 0) hO rfl Tryz.underlying23 Tryz.sizeOf5 rfl rfl (Nat.zero_le _)) ?_
  have hcut := hO.cutB (m := 0) (Nat.zero_le _)
  rw [show bvs (bs.take 0) = [] from rfl, List.append_nil, List.drop_zero] at hcut
  rw [List.drop_zero]
  refine WL_val rfl rfl rfl (R_nilCheck rfl rfl) ?_
  refine WL_val rfl rfl rfl (R_fieldAddr rfl fa32_0 rfl) ?_
  refine WL_do0 rfl rfl (D_store (vs := [_]) rfl Tryz.sizeOf23 rfl rfl rfl rfl rfl (plD) (by exact Nat.le_of_ble_eq_true rfl)) ?_
  rintro _ _ rfl
  refine WL_nil ?_
  refine WQ_code ?_
  refine WC_seq ?_
  refine WC_region ?_
  refine WL_val rfl rfl rfl (R_loadA (vs := [_, _]) rfl ag84 rfl (mmD) rfl (atZ)) ?_
  refine WL_val rfl rfl rfl (R_move rfl rfl) ?_
  refine WL_val rfl rfl rfl (R_gtr rfl rfl rfl) ?_
  refine WL_do0 rfl rfl (D_store (vs := [_, _]) rfl Tryz.sizeOf84 rfl rfl rfl rfl rfl (plD) (by exact Nat.le_of_ble_eq_true rfl)) ?_
  rintro _ _ rfl
  refine WL_val rfl rfl rfl (R_assign rfl rfl) ?_
  refine WL_val rfl rfl rfl (R_assign rfl rfl) ?_
  refine WL_nil ?_
  refine WQ_code ?_
  refine WC_ret ?_
  refine WQ_ret rfl rfl (.cons (.cell (vs := [_, _]) rfl ag84 (mmD) rfl (atZ)) (.cons (.tmp rfl) (.cons (.tmp rfl) .nil))) rfl (by
      exact ⟨_, _, rfl, rfl, hcut⟩) (pqD)
theorem rnext_bad (p ty : Nat) (a0 : Value) (Z : List Value) {bs : Bs} {ob : Option Nat} {k c : Nat} {pre tl : List Value} (hO : OwnS ob k bs.length c 1 pre (bvs bs) tl) (hl : bs.length ≤ 65536) {e : Int} (he : e ≠ 0) (hN : nxt bs = .bad e) : Spec Tryz.prog 52 [.pointer (some ⟨p, 1, none⟩)] [⟨some p, cl (a0 :: sVal ob k bs.length c :: .int .i64 0 :: Z) ty⟩, ⟨ob, cl (pre ++ (bvs bs ++ tl)) 5⟩] (fun r H' => r = .tuple #[.agg #[.int .u8 0, .slice none 0 0], .bool false, .int .i64 e] ∧ H' = [⟨some p, cl (a0 :: sVal ob k bs.length c :: .int .i64 e :: Z) ty⟩, ⟨ob, cl (pre ++ (bvs bs ++ tl)) 5⟩]) := by
  refine Spec.of (E := [(0, .pointer (some ⟨p, 1, none⟩))]) Tryz.func52 rfl (by kernel_rfl) Tryz.ntmps52 rfl rfl (fun w => ?_)
  refine WC_seq ?_
  refine WC_region ?_
  refine WL_do rfl rfl rfl (D_alloc rfl zv84) ?_
  rintro _ _ ⟨b1, rfl, rfl⟩
  refine WL_val rfl rfl rfl (R_assign rfl rfl) ?_
  refine WL_val rfl rfl rfl (R_assign rfl rfl) ?_
  refine WL_nil ?_
  refine WQ_code ?_
  refine WC_seq ?_
  refine WC_block ?_
  refine WC_seq ?_
  refine WC_region ?_
  refine WL_val rfl rfl rfl (R_move rfl rfl) ?_
  refine WL_val rfl rfl rfl (R_ptrEqNil rfl Tryz.underlying68 rfl) ?_
  refine WL_val rfl rfl rfl (R_assign rfl rfl) ?_
  refine WL_nil ?_
  refine WQ_code ?_
  refine WC_F rfl ?_
  refine WC_seq ?_
  refine WC_region ?_
  refine WL_val rfl rfl rfl (R_move rfl rfl) ?_
  refine WL_val rfl rfl rfl (R_nilCheck rfl rfl) ?_
  refine WL_val rfl rfl rfl (R_fieldAddr rfl fa32_1 rfl) ?_
  refine WL_val rfl rfl rfl (R_load rfl sc27 rfl (mmD) rfl) ?_
  refine WL_val rfl rfl rfl (R_neq rfl rfl rfl) ?_
  refine WL_val rfl rfl rfl (R_assign rfl rfl) ?_
  refine WL_nil ?_
  refine WQ_code ?_
  refine WC_dF rfl (by decide) ?_
  refine WC_skip ?_
  refine WQ_code ?_
  refine WC_seq ?_
  refine WC_region ?_
  refine WL_val rfl rfl rfl (R_move rfl rfl) ?_
  refine WL_val rfl rfl rfl (R_nilCheck rfl rfl) ?_
  refine WL_val rfl rfl rfl (R_fieldAddr rfl fa32_0 rfl) ?_
  refine WL_val rfl rfl rfl (R_load rfl sc23 rfl (mmD) rfl) ?_
  refine WL_do rfl rfl rfl (D_call (next_bad (RdB.ownS hO) (by omega) hO.le hN) rfl rfl rfl rfl (pqD)) ?_
  rintro _ _ ⟨_, ⟨rfl, rfl⟩, rfl⟩
  refine WL_val rfl rfl rfl (R_move rfl rfl) ?_
  refine WL_val rfl rfl rfl (R_extract rfl rfl rfl) ?_
  refine WL_val rfl rfl rfl (R_extract rfl rfl rfl) ?_
  refine WL_val rfl rfl rfl (R_extract rfl rfl rfl) ?_
  refine WL_do0 rfl rfl (D_store (vs := [_, _]) rfl Tryz.sizeOf84 rfl rfl rfl rfl rfl (plD) (by exact Nat.le_of_ble_eq_true rfl)) ?_
  rintro _ _ rfl
  refine WL_val rfl rfl rfl (R_assign rfl rfl) ?_
  refine WL_val rfl rfl rfl (R_assign rfl rfl) ?_
  refine WL_nil ?_
  refine WQ_code ?_
  refine WC_seq ?_
  refine WC_seq ?_
  refine WC_region ?_
  refine WL_val rfl rfl rfl (R_move rfl rfl) ?_
  refine WL_val rfl rfl rfl (R_neq rfl rfl rfl) ?_
  refine WL_nil ?_
  refine WQ_code ?_
  refine WC_dT rfl (by exact he) ?_
  refine WC_seq ?_
  refine WC_region ?_
  refine WL_val rfl rfl rfl (R_move rfl rfl) ?_
  refine WL_val rfl rfl rfl (R_move rfl rfl) ?_
  refine WL_val rfl rfl rfl (R_nilCheck rfl rfl) ?_
  refine WL_val rfl rfl rfl (R_fieldAddr rfl fa32_1 rfl) ?_
  refine WL_do0 rfl rfl (D_store (vs := [_]) rfl Tryz.sizeOf27 rfl rfl rfl rfl rfl (plD) (by exact Nat.le_of_ble_eq_true rfl)) ?_
  rintro _ _ rfl
  rw [put_br]
  refine WL_nil ?_
  refine WQ_code ?_
  refine WC_seq ?_
  refine WC_region ?_
  refine WL_val rfl rfl rfl (R_build rfl zv84 pl84 rfl rfl) ?_
  refine WL_val rfl rfl rfl (R_move rfl rfl) ?_
  refine WL_do0 rfl rfl (D_store (vs := [_, _]) rfl Tryz.sizeOf84 rfl rfl rfl rfl rfl (plD) (by exact Nat.le_of_ble_eq_true rfl)) ?_
  rintro _ _ rfl
  refine WL_val rfl rfl rfl (R_assign rfl rfl) ?_
  refine WL_val rfl rfl rfl (R_assign rfl rfl) ?_
  refine WL_nil ?_
  refine WQ_code ?_
  refine WC_ret ?_
  refine WQ_ret rfl rfl (.cons (.cell (vs := [_, _]) rfl ag84 (mmD) rfl (atZ)) (.cons (.tmp rfl) (.cons (.tmp rfl) .nil))) rfl (by
      exact ⟨rfl, rfl⟩) (pqD)
theorem rnext_got (p ty : Nat) (a0 : Value) (Z : List Value) {bs : Bs} {ob : Option Nat} {k c : Nat} {pre tl : List Value} (hO : OwnS ob k bs.length c 1 pre (bvs bs) tl) (hl : bs.length ≤ 65536) {kk : UInt8} {body : Bs} {n : Nat} (hN : nxt bs = .got kk body n) : Spec Tryz.prog 52 [.pointer (some ⟨p, 1, none⟩)] [⟨some p, cl (a0 :: sVal ob k bs.length c :: .int .i64 0 :: Z) ty⟩, ⟨ob, cl (pre ++ (bvs bs ++ tl)) 5⟩]
    (fun r H' => ∃ o c2 tl2 k' c' pre', r = .tuple #[.agg #[.int .u8 (kk.toNat : Int), slV o body.length c2], .bool true, .int .i64 0] ∧ H' = [⟨some p, cl (a0 :: sVal ob k' (bs.drop n).length c' :: .int .i64 0 :: Z) ty⟩, ⟨ob, cl (pre' ++ (bvs (bs.drop n) ++ tl)) 5⟩, ⟨o, cl (bvs body ++ tl2) 5⟩] ∧ OwnS ob k' (bs.drop n).length c' 1 pre' (bvs (bs.drop n)) tl ∧ Own o body.length c2 1 (bvs body) tl2) := by
  obtain ⟨hn1, hn2, hn3⟩ := nxt_got hN
  refine Spec.of (E := [(0, .pointer (some ⟨p, 1, none⟩))]) Tryz.func52 rfl (by kernel_rfl) Tryz.ntmps52 rfl rfl (fun w => ?_)
  refine WC_seq ?_
  refine WC_region ?_
  refine WL_do rfl rfl rfl (D_alloc rfl zv84) ?_
  rintro _ _ ⟨b1, rfl, rfl⟩
  refine WL_val rfl rfl rfl (R_assign rfl rfl) ?_
  refine WL_val rfl rfl rfl (R_assign rfl rfl) ?_
  refine WL_nil ?_
  refine WQ_code ?_
  refine WC_seq ?_
  refine WC_block ?_
  refine WC_seq ?_
  refine WC_region ?_
  refine WL_val rfl rfl rfl (R_move rfl rfl) ?_
  refine WL_val rfl rfl rfl (R_ptrEqNil rfl Tryz.underlying68 rfl) ?_
  refine WL_val rfl rfl rfl (R_assign rfl rfl) ?_
  refine WL_nil ?_
  refine WQ_code ?_
  refine WC_F rfl ?_
  refine WC_seq ?_
  refine WC_region ?_
  refine WL_val rfl rfl rfl (R_move rfl rfl) ?_
  refine WL_val rfl rfl rfl (R_nilCheck rfl rfl) ?_
  refine WL_val rfl rfl rfl (R_fieldAddr rfl fa32_1 rfl) ?_
  refine WL_val rfl rfl rfl (R_load rfl sc27 rfl (mmD) rfl) ?_
  refine WL_val rfl rfl rfl (R_neq rfl rfl rfl) ?_
  refine WL_val rfl rfl rfl (R_assign rfl rfl) ?_
  refine WL_nil ?_
  refine WQ_code ?_
  refine WC_dF rfl (by decide) ?_
  refine WC_skip ?_
  refine WQ_code ?_
  refine WC_seq ?_
  refine WC_region ?_
  refine WL_val rfl rfl rfl (R_move rfl rfl) ?_
  refine WL_val rfl rfl rfl (R_nilCheck rfl rfl) ?_
  refine WL_val rfl rfl rfl (R_fieldAddr rfl fa32_0 rfl) ?_
  refine WL_val rfl rfl rfl (R_load rfl sc23 rfl (mmD) rfl) ?_
  refine WL_do rfl rfl rfl (D_call (next_got (RdB.ownS hO) (by omega) hO.le hN) rfl rfl rfl rfl (pqD)) ?_
  rintro _ _ ⟨_, ⟨o9, c9, tl9, rfl, rfl, own9⟩, rfl⟩
  refine WL_val rfl rfl rfl (R_move rfl rfl) ?_
  refine WL_val rfl rfl rfl (R_extract rfl rfl rfl) ?_
  refine WL_val rfl rfl rfl (R_extract rfl rfl rfl) ?_
  refine WL_val rfl rfl rfl (R_extract rfl rfl rfl) ?_
  refine WL_do0 rfl rfl (D_store (vs := [_, _]) rfl Tryz.sizeOf84 rfl rfl rfl rfl rfl (plD) (by exact Nat.le_of_ble_eq_true rfl)) ?_
  rintro _ _ rfl
  refine WL_val rfl rfl rfl (R_assign rfl rfl) ?_
  refine WL_val rfl rfl rfl (R_assign rfl rfl) ?_
  refine WL_nil ?_
  refine WQ_code ?_
  refine WC_seq ?_
  refine WC_seq ?_
  refine WC_region ?_
  refine WL_val rfl rfl rfl (R_move rfl rfl) ?_
  refine WL_val rfl rfl rfl (R_neq rfl rfl rfl) ?_
  refine WL_nil ?_
  refine WQ_code ?_
  refine WC_dF rfl (by decide) ?_
  refine WC_skip ?_
  refine WQ_code ?_
  refine WC_seq ?_
  refine WC_region ?_
  refine WL_val rfl rfl rfl (R_move rfl rfl) ?_
  refine WL_val rfl rfl rfl (R_move rfl rfl) ?_
  refine WL_val rfl rfl rfl (R_nilCheck rfl rfl) ?_
  refine WL_val rfl rfl rfl (R_fieldAddr rfl fa32_0 rfl) ?_
  refine WL_val rfl rfl rfl (R_load rfl sc23 rfl (mmD) rfl) ?_
  refine WL_val rfl rfl rfl (R_move rfl rfl) ?_
  refine WL_val rfl rfl rfl (R_cutB (m := n) hO rfl Tryz.underlying23 Tryz.sizeOf5 rfl rfl hn2) ?_
  have hcut := hO.cutB hn2
  rw [cutB_ent pre tl bs n]
  refine WL_val rfl rfl rfl (R_nilCheck rfl rfl) ?_
  refine WL_val rfl rfl rfl (R_fieldAddr rfl fa32_0 rfl) ?_
  refine WL_do0 rfl rfl (D_store (vs := [_]) rfl Tryz.sizeOf23 rfl rfl rfl rfl rfl (plD) (by exact Nat.le_of_ble_eq_true rfl)) ?_
  rintro _ _ rfl
  refine WL_nil ?_
  refine WQ_code ?_
  refine WC_seq ?_
  refine WC_region ?_
  refine WL_val rfl rfl rfl (R_loadA (vs := [_, _]) rfl ag84 rfl (mmD) rfl (atZ)) ?_
  refine WL_val rfl rfl rfl (R_move rfl rfl) ?_
  refine WL_val rfl rfl rfl (R_gtr rfl rfl rfl) ?_
  refine WL_set (s := 49) (v := .bool true) rfl (by exact congrArg Value.bool (decide_eq_true (by omega))) ?_
  refine WL_do0 rfl rfl (D_store (vs := [_, _]) rfl Tryz.sizeOf84 rfl rfl rfl rfl rfl (plD) (by exact Nat.le_of_ble_eq_true rfl)) ?_
  rintro _ _ rfl
  refine WL_val rfl rfl rfl (R_assign rfl rfl) ?_
  refine WL_val rfl rfl rfl (R_assign rfl rfl) ?_
  refine WL_nil ?_
  refine WQ_code ?_
  refine WC_ret ?_
  refine WQ_ret rfl rfl (.cons (.cell (vs := [_, _]) rfl ag84 (mmD) rfl (atZ)) (.cons (.tmp rfl) (.cons (.tmp rfl) .nil))) rfl (by
      exact ⟨o9, c9, tl9, _, _, _, rfl, rfl, hcut, own9⟩) (pqD)
end Go.Proofs.YtkcfgglmlogjbaaGreat
end
section
set_option linter.unusedVariables false
set_option linter.unusedSimpArgs false
namespace Go.Proofs.YtkcfgglmlogjbaaGreat
/-- A closure entered ars a deferred call, from a mode. -/
structure DSpec (P : Program) (f : FuncId) (args : List Value) (u : FrameMode) (H : Heap) (post : Heap → Prop) (u' : FrameMode) : Prop where
  enters : Enters P f
  calls : ∀ w, HOK H w → CallsDIn Fence.wide 0 P f args.toArray u w (fun e v w' => (∃ x, e = .returned x) ∧ v = u' ∧ ∃ H', post H' ∧ HW H w H' w')
abbrev endD (H : Heap) (w : World) (post : Value → Heap → Prop) (e : Ending) (w' : World) : Prop := ∃ v H', e = .returned v ∧ post v H' ∧ HW H w H' w'
def RetD (P : Program) (fn : Func) (H : Heap) (w : World) (post : Value → Heap → Prop) (a : Act) (w' : World) : Prop := LeavesIn Fence.wide 0 P fn a.tmps (endD H w post) a.defers .returning w'
def PanD (P : Program) (fn : Func) (H : Heap) (w : World) (post : Value → Heap → Prop) (ch : List PanicEntry) (a : Act) (w' : World) : Prop := LeavesIn Fence.wide 0 P fn a.tmps (endD H w post) a.defers (.panicking ch) w'
abbrev fnPostD (P : Program) (fn : Func) (H : Heap) (w : World) (post : Value → Heap → Prop) : Post :=
  { nrm := RetD P fn H w post, ret := RetD P fn H w post, ex := fun _ _ _ => False, pan := PanD P fn H w post }
theorem Spec.ofD {P : Program} {f : FuncId} {fn : Func} {c : Code} {N : Nat} {ars : List Value} {E : Env} {H : Heap} {post : Value → Heap → Prop}
    (hf : P.funcs[f]? = some fn) (hb : fn.body = some c) (hname : (fn.name == "runtime.NumGoroutine") = false) (hN : fn.ntmps = N) (hl : Nat.ble ars.length N = true) (hE : argEnv 0 ars = E)
    (h : ∀ w, WC ⟨P, none, N, [], H, w⟩ c (fnPostD P fn H w post) E H) : Spec P f ars H post := by
  refine ⟨Enters.mk hf hname hb, fun w hw => callsIn_of_wp_defers hf hb trivial ?_⟩
  have hl' : ars.length ≤ N := by simpa [Nat.ble_eq] using hl
  subst hE
  refine wpIn_mono (h w _ w ⟨?_, rfl, ?_⟩ (HW.start hw)) ?_
  · simp [hN]; omega
  · intro s v hs
    obtain ⟨-, h2⟩ := get_argEnv ars 0 s v hs
    have h3 : ars[s]? = some v := by simpa using h2
    have hlt : s < ars.length := (List.getElem?_eq_some_iff.1 h3).1
    rw [Array.getElem?_append_left (by simpa using hlt)]
    simpa using h3
  · intro e a w' hq
    cases e with
    | normal => exact hq
    | ret => exact hq
    | exit id => exact hq
    | goto l => exact hq
    | panic ch => exact hq
    | outgrown => exact hq.elim
section
variable {X : Ctx} {p : Post} {E : Env} {H F : Heap} {o : Oper} {rest : List Oper} {ops : Array Oper}
/-- defer of a closure without arguments. -/
theorem WL_defer {f : FuncId} {fi ca : List Value} {x : Operand} {tys : Array TypeId} (hro : X.ro = none) (hg : wantedE ops E o = some true) (hd : o.dst = none) (ho : o.op = .defer { callee := .value x, args := #[], argTypes := tys }) (hx : callee E x = some (f, fi, ca))
    (k : WL { X with D := { target := .fn (.func f) ca.toArray, args := fi.toArray } :: X.D } ops p rest E H) : WL X ops p (o :: rest) E H := by
  intro a w ha hw
  have hfe := callee_spec hx
  unfold wpListIn
  rw [if_pos (wantedE_spec ha hg)]
  refine ⟨about_true, ?_⟩
  have hs : o.semAt (fen X.ro).round a.eval = execOp a.eval o := by rw [hro]; exact Oper.semAt_none ..
  rw [hs]
  have hrun : (execOp a.eval o).run X.P w = .ok (.defer { target := .fn (.func f) ca.toArray, args := fi.toArray }) w := by
    simp [execOp, ho, resolve, ha.eval hfe, Deferred.ofValue]
  rw [hrun]
  refine k _ _ ?_ hw
  rw [hd]
  exact ⟨ha.size, by show _ :: a.defers = _ :: X.D; rw [ha.defers], ha.env⟩
/-- The end of a function with one deferred closure that changes nothing. -/
theorem WQ_retD {fn : Func} {f : FuncId} {fi ca : List Value} {rs : List ResultVar} {vs : List Value} {v : Value} {H' Hp F' : Heap} {post : Value → Heap → Prop} (hs : DSpec X.P f (fi ++ ca) .returning Hp (fun H' => H' = Hp) .returning) (hD : X.D = [{ target := .fn (.func f) ca.toArray, args := fi.toArray }])
    (hp : Pulls Hp H F) (hr : fn.results = rs.toArray) (h : RVs X E (Hp ++ F) rs vs) (hv : resV vs = v) (hpost : post v H') (hq : Pulls H' (Hp ++ F) F') : WQ X (RetD X.P fn X.H0 X.w0 post) E H := by
  intro a w ha hw
  show LeavesIn Fence.wide 0 X.P fn a.tmps _ a.defers .returning w
  rw [ha.defers, hD]
  have hw1 := hw.perm hp.perm
  refine leavesIn_cons (f := f) (args := (fi ++ ca).toArray) (by simp) (fun h => by simp [Fence.wide] at h) ?_ (fun _ _ => trivial) ?_
  · have hen := hs.enters (fi ++ ca).toArray w
    simp [invoke, hen]
  · refine (hs.calls w hw1.left.hok).mono ?_
    rintro e u' w' ⟨⟨x, rfl⟩, rfl, H1, rfl, hw2⟩
    have hw3 := hw.frame hp.perm hw2
    exact ⟨v, by rw [run_results hr h ha hw3, hv], v, H', rfl, hpost, (hw3.perm hq.perm).left⟩
end
end Go.Proofs.YtkcfgglmlogjbaaGreat
end

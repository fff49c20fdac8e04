/-
  Ranging over a function that yields in an order that nobody knows (the keys of a map).
-/
import Derived.Test.YteofigbgdbpjgaaZA
namespace Go.Proofs.Yteofigbgdbpjgaa
/-- **AN ITERATOR** that calls yield on what 'may' come next, till one says no more or all have come. -/
def IterAny (P : Program) (g : FuncId) (ca : List Value) (Hit : Heap) {α : Type} (enc : α → List Value) (may : List α → α → Prop) (all : List α → Prop) : Prop :=
  ∀ (l : Nat) (J Jx : List α → Heap → Prop),
    (∀ pre x hj, may pre x → J pre hj → YSpec P l (enc x) hj (fun v H' => (v = .bool true ∧ J (pre ++ [x]) H') ∨ (v = .bool false ∧ Jx (pre ++ [x]) H'))) →
    ∀ hj, J [] hj → Spec P g (yieldV l :: ca) (Hit ++ hj) (fun _ H' => ∃ h2, ((∃ xs, all xs ∧ J xs h2) ∨ ∃ pre, Jx pre h2) ∧ H' = Hit ++ h2)

/-- **'for .. := range f { body }'**, of an iterator whose order nobody knows, outside of any round. -/
theorem WC_rangeA {X : Ctx} {p : Post} {E : Env} {H : Heap} {α G GX : Type} {f : Operand} {ps : List Tmp} {assign body : Code} {g : FuncId} {ca : List Value} {Hit F1 F2 : Heap} {enc : α → List Value} {may : List α → α → Prop} {all : List α → Prop}
    (hit : IterAny X.P g ca Hit enc may all) (hro : X.ro = none) (hf : ev E f = some (.func (.func g) #[] ca.toArray)) (hlen : ∀ x, (enc x).length = ps.length) (hps : ps.all (fun q => Nat.blt q X.N) = true)
    (I : List α → G → Prop) (GI : G → Heap) (Ix : Code → List α → GX → Prop) (HX : GX → Heap) (g0 : G) (h0 : I [] g0) (hq : Pulls Hit H F1) (hq2 : Pulls (GI g0) F1 F2)
    (hround : ∀ l pre x gg, may pre x → I pre gg → ∀ w, WC ⟨X.P, some l, X.N, [], GI gg, w⟩ assign (begPost X.P l X.N body I GI Ix HX (pre ++ [x]) (GI gg) w) (pushE ps (enc x) E) (GI gg))
    (hdone : ∀ dl xs gg, all xs → I xs gg → WQ { X with D := markOf dl :: X.D } p.nrm E (dlE dl :: (GI gg ++ (Hit ++ F2))))
    (hstop : ∀ dl c pre gx, Ix c pre gx → WC { X with D := markOf dl :: X.D } c p E (dlE dl :: (HX gx ++ (Hit ++ F2)))) :
    WC X (.rangeFunc f ps.toArray assign body) p E H := by
  intro a w ha hw
  refine wpIn_rangeFunc ?_
  intro fn _
  have hF : (fen X.ro).round = none := by rw [hro]; rfl
  rw [hF]
  obtain ⟨r, er⟩ : ∃ r : Loop, r = { state := .ready, pending := none, fn, tmps := a.tmps, params := ps.toArray, assign, body, defers := w.heap.size } := ⟨_, rfl⟩
  have hwa := (hw.alloc (.deferred (some []))).alloc (.loop r)
  rw [World.size_alloc] at hwa
  -- the iterator's contract
  have hS := hit (w.heap.size + 1) (fun ys h => ∃ gg, I ys gg ∧ h = (⟨some (w.heap.size + 1), .loop r⟩ :: dlE w.heap.size :: GI gg : Heap))
    (fun ys h => ∃ c gx, Ix c ys gx ∧ h = (⟨some (w.heap.size + 1), .loop { r with state := .done, pending := some c }⟩ :: dlE w.heap.size :: HX gx : Heap))
    (fun pre x hj hx hJ => by
      obtain ⟨gg, hI, rfl⟩ := hJ
      have e1 : r.params.toList = ps := by rw [er]
      refine ySpec_of (E := E) (N := X.N) (assign := assign) (body := body) (by rw [er]) (by rw [er]) (by rw [er]) (by rw [er]) (by rw [er]; exact ha.size) (by rw [er]; exact ha.env) (by rw [← Array.length_toList, e1]; exact hlen x) (by rw [e1]; exact hps)
        (fun w' => ?_)
      rw [e1]
      exact hround _ pre x gg hx hI w')
    (⟨some (w.heap.size + 1), .loop r⟩ :: dlE w.heap.size :: GI g0) ⟨g0, h0, rfl⟩
  have hp : (⟨some (w.heap.size + 1), .loop r⟩ :: ⟨some w.heap.size, .deferred (some [])⟩ :: H : Heap).Perm ((Hit ++ (⟨some (w.heap.size + 1), .loop r⟩ :: dlE w.heap.size :: GI g0)) ++ F2) := by
    have h1 : H.Perm (Hit ++ (GI g0 ++ F2)) := hq.perm.trans (List.Perm.append_left _ hq2.perm)
    have h2 := (List.Perm.append_left [⟨some (w.heap.size + 1), .loop r⟩, dlE w.heap.size] h1)
    refine h2.trans ?_
    rw [List.append_assoc, ← List.append_assoc]
    exact List.Perm.append_right _ List.perm_append_comm |>.trans (by rw [List.append_assoc]; exact .refl _)
  have hwp := hwa.perm hp
  obtain ⟨W1, eW⟩ : ∃ W1, W1 = (w.alloc (.deferred (some []))).alloc (.loop r) := ⟨_, rfl⟩
  rw [← eW] at hwa hwp
  refine ⟨w.heap.size + 1, [markOf w.heap.size], W1, { target := .fn (.func g) ca.toArray, args := #[yieldV (w.heap.size + 1)] }, W1, g, #[yieldV (w.heap.size + 1)] ++ ca.toArray, W1, ?_, ?_, fun _ _ => trivial, ?_, ?_, ?_⟩
  · rw [eW, er]; exact run_enterLoop_outer _ _ _ _ _
  · simp only [resolve, ha.eval hf]
    simp [go_sem, yieldV]
  · have := hS.enters (#[yieldV (w.heap.size + 1)] ++ ca.toArray) W1
    simpa [invoke] using this
  · intro h; simp [fen, Fence.wide] at h
  · have hc := hS.calls _ hwp.left.hok
    have e2 : (yieldV (w.heap.size + 1) :: ca).toArray = #[yieldV (w.heap.size + 1)] ++ ca.toArray := by simp
    rw [e2] at hc
    rw [hro]
    refine CallsIn.mono hc ?_
    rintro e w3 ⟨v, H', rfl, ⟨h2, hJ, rfl⟩, hw3⟩
    have hw3' := hwa.frame hp hw3
    have ha' : ∀ (D : List Deferred), AE { X with D := D ++ X.D } E { a with defers := D ++ a.defers } := fun D => ⟨ha.size, by simp [ha.defers], ha.env⟩
    rcases hJ with ⟨xs, hall, gg, hI, rfl⟩ | ⟨pre, c, gx, hI, rfl⟩
    · have hp3 : (Hit ++ (⟨some (w.heap.size + 1), .loop r⟩ :: dlE w.heap.size :: GI gg) ++ F2 : Heap).Perm (⟨some (w.heap.size + 1), .loop r⟩ :: dlE w.heap.size :: (GI gg ++ (Hit ++ F2))) := by
        rw [List.append_assoc]
        refine (List.perm_append_comm_assoc _ _ _).trans ?_
        exact .refl _
      have h3 := hw3'.perm hp3
      refine ⟨none, w3.putObj (w.heap.size + 1) (.loop { r with state := .exhausted }), ?_, ?_⟩
      · rw [run_endLoop h3.at (by rw [er]; simp)]; rw [er]
      · exact hdone w.heap.size xs gg hall hI _ _ (ha' [markOf w.heap.size]) ((h3.turn1 (.loop { r with state := .exhausted })).drop .head)
    · have hp3 : (Hit ++ (⟨some (w.heap.size + 1), .loop { r with state := .done, pending := some c }⟩ :: dlE w.heap.size :: HX gx) ++ F2 : Heap).Perm (⟨some (w.heap.size + 1), .loop { r with state := .done, pending := some c }⟩ :: dlE w.heap.size :: (HX gx ++ (Hit ++ F2))) := by
        rw [List.append_assoc]
        refine (List.perm_append_comm_assoc _ _ _).trans ?_
        exact .refl _
      have h3 := hw3'.perm hp3
      refine ⟨some c, w3.putObj (w.heap.size + 1) (.loop { r with state := .exhausted, pending := some c }), ?_, ?_⟩
      · rw [run_endLoop h3.at (by simp)]
      · have := hstop w.heap.size c pre gx hI _ _ (ha' [markOf w.heap.size]) ((h3.turn1 (.loop { r with state := .exhausted, pending := some c })).drop .head)
        rw [hro] at this
        exact this
end Go.Proofs.Yteofigbgdbpjgaa

/-
  Loops in which a function is ranged over: each such range leaves a mark among the deferred calls; min and max of two numbers.
-/
import Derived.Test.YtiokpmgbabpikaaSLMore
import Derived.Lib.MinMax
namespace Go.Proofs.Ytiokpmgbabpikaa
section
variable {X : Ctx} {p : Post} {E : Env} {H : Heap} {o : Oper}
theorem R_max {x y : Operand} {tys : Array TypeId} {k k' : IntKind} {m n : Int} (ho : o.op = .call { callee := .builtin .max, args := #[x, y], argTypes := tys }) (hx : ev E x = some (.int k m)) (hy : ev E y = some (.int k' n)) : Runs X o E H (.int k (max m n)) :=
  ⟨(by rw [ho]; intro c e; cases e), fun a w ha _ => by
    simp [execOp, ho, resolve, ha.eval hx, ha.eval hy, invoke, builtin, Go.Lib.run_max_ints]⟩
theorem R_min {x y : Operand} {tys : Array TypeId} {k k' : IntKind} {m n : Int} (ho : o.op = .call { callee := .builtin .min, args := #[x, y], argTypes := tys }) (hx : ev E x = some (.int k m)) (hy : ev E y = some (.int k' n)) : Runs X o E H (.int k (min m n)) :=
  ⟨(by rw [ho]; intro c e; cases e), fun a w ha _ => by
    simp [execOp, ho, resolve, ha.eval hx, ha.eval hy, invoke, builtin, Go.Lib.run_min_ints]⟩

/-- What a round of a loop hands on, with the marks that it has left. -/
def NextD (X : Ctx) {G : Type} (I : G → Prop) (EI : G → Env) (HI : G → Heap) (DI : G → List Deferred) (μ : G → Nat) (m : Nat) (a : Act) (w : World) : Prop :=
  ∃ g, I g ∧ μ g < m ∧ AE { X with D := DI g } (EI g) a ∧ HW X.H0 X.w0 (HI g) w
theorem AE.toD {D : List Deferred} {a : Act} (h : AE X E a) (hD : D = X.D) : AE { X with D := D } E a := ⟨h.size, by rw [h.defers, hD], h.env⟩
theorem WC_loopHD {G : Type} {body : Code} (ds : List Nat) (I : G → Prop) (EI : G → Env) (HI : G → Heap) (DI : G → List Deferred) (μ : G → Nat) {F : Heap} (g0 : G) (h0 : I g0) (l : Lq (EI g0) E) (q : Pulls (HI g0) H F) (hD : DI g0 = X.D)
    (round : ∀ g, I g → WC { X with D := DI g } body (Post.to (NextD X I (fun g => EI g ++ dropE ds E) HI DI μ (μ g)) p) (EI g ++ dropE ds E) (HI g)) : WC X (.loop body) p E H := by
  intro a w ha hw
  refine wpIn_loop_ghost (fun m a w => ∃ g, μ g = m ∧ I g ∧ AE { X with D := DI g } (EI g ++ dropE ds E) a ∧ HW X.H0 X.w0 (HI g) w) (μ g0) ⟨g0, rfl, h0, (ha.toD hD).le ?_, (hw.perm q.perm).left⟩ ?_
  · intro s v hs
    rw [get_append] at hs
    cases h : gtE (EI g0) s with
    | some u => rw [h] at hs; simp at hs; subst hs; exact l s u h
    | none =>
      rw [h, get_dropE] at hs
      by_cases hm : s ∈ ds
      · simp [hm] at hs
      · simpa [hm] using hs
  · rintro m a w ⟨g, rfl, hg, ha, hw⟩
    refine wpIn_mono (round g hg a w ha hw) ?_
    intro e a' w' hq
    cases e with
    | normal => obtain ⟨g', h1, h2, h3, h4⟩ := hq; exact ⟨μ g', h2, g', rfl, h1, h3, h4⟩
    | _ => exact hq
theorem WQ_nextHD {D : List Deferred} {G : Type} {ds : List Nat} {E0 : Env} {I : G → Prop} {EI : G → Env} {HI : G → Heap} {DI : G → List Deferred} {μ : G → Nat} {m : Nat} {F : Heap} {gg : G} (g : G) (hI : I g) (hm : μ g < m) (l : Lq (EI g) E) (hp : Pushed ds (EI gg ++ dropE ds E0) E)
    (hs : subB (EI gg) ds = true) (q : Pulls (HI g) H F) (hD : DI g = D) : WQ { X with D := D } (NextD X I (fun g => EI g ++ dropE ds E0) HI DI μ m) E H :=
  fun _ _ ha hw => ⟨g, hI, hm, (AE.toD (X := { X with D := D }) ha hD).le (le_frame hp (subB_spec hs) l), (hw.perm q.perm).left⟩

theorem leavesM {fn : Func} {H0 : Heap} {w0 : World} {v : Value} {post : Value → Heap → Prop} {H' F F' : Heap} {tmps : Array Value} (hp : post v H') (hq : Pulls H' F F') (P : Program)
    (hr : ∀ w', HW H0 w0 F w' → (results fn tmps).run P w' = .ok v w') : ∀ (ds : List Nat) (w : World), HW H0 w0 (ds.map dlE ++ F) w →
      LeavesInM Fence.wide 0 P fn tmps (fun e w'' => ∃ v H', e = .returned v ∧ post v H' ∧ HW H0 w0 H' w'') (ds.map markOf) .returning w
  | [], w, hw => ⟨v, hr w hw, v, H', rfl, hp, (hw.perm hq.perm).left⟩
  | dl :: ds, w, hw => by
    have hw1 : HW H0 w0 (dlE dl :: (ds.map dlE ++ F)) w := hw
    have hw2 := (hw1.turn1 (.deferred none)).drop .head
    refine ⟨by simp, .inl ⟨dl, _, rfl, run_takeDeferred hw1.at, ?_⟩⟩
    exact leavesM hp hq P hr ds _ hw2
/-- The end of a function that has left several marks. -/
theorem WQ_retMs {fn : Func} {rs : List ResultVar} {vs : List Value} {v : Value} {post : Value → Heap → Prop} {F F' H' : Heap} (ds : List Nat) (hD : X.D = ds.map markOf) (hp1 : Pulls (ds.map dlE) H F) (hr : fn.results = rs.toArray)
    (h : RVs X E F rs vs) (hv : resV vs = v) (hp : post v H') (hq : Pulls H' F F') : WQ X (RetM X.P fn X.H0 X.w0 post) E H := by
  intro a w ha hw
  show LeavesInM Fence.wide 0 X.P fn a.tmps _ a.defers .returning w
  rw [ha.defers, hD]
  refine leavesM hp hq X.P (fun w' hw' => ?_) ds w (hw.perm hp1.perm)
  rw [run_results hr h ha hw', hv]
end
end Go.Proofs.Ytiokpmgbabpikaa

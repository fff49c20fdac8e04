/-
  Ranging over a function: the iterator's contract, the loop's law, and a function that leaves with a mark.
-/
import Derived.Test.YtiokpmgbabpikaaSLMem
import Derived.RangeFuncLeaves
namespace Go.Proofs.Ytiokpmgbabpikaa

/-- A contract of a call of yield, in a memory that holds H. -/
def YSpec (P : Program) (l : Nat) (args : List Value) (H : Heap) (post : Value → Heap → Prop) : Prop :=
  ∀ w, HOK H w → ∃ fn tmps assign body, (Instr.yield l args.toArray).run P w = .ok (.round l fn tmps assign body) w ∧
    RoundIn Fence.wide 0 P l fn tmps assign body w (fun e w' => ∃ v H', e = .returned v ∧ post v H' ∧ HW H w H' w')
def yieldV (l : Nat) : Value := .func (.yield l) #[] #[]

section
variable {X : Ctx} {E : Env} {H : Heap} {o : Oper}
/-- The iterator's call of yield. -/
theorem D_yield {l : Nat} {x : Operand} {args : List Operand} {tys : Array TypeId} {vs : List Value} {Hp F : Heap} {post : Value → Heap → Prop} (hs : YSpec X.P l vs Hp post) (hr0 : X.ro = none)
    (ho : o.op = .call { callee := .value x, args := args.toArray, argTypes := tys }) (hx : ev E x = some (yieldV l)) (ha : evs E args = some vs) (hp : H.Perm (F ++ Hp)) :
    Does X o E H (fun v H' => ∃ H1, post v H1 ∧ H' = F ++ H1) := by
  intro a w hA hw next Q k
  have hp' : H.Perm (Hp ++ F) := hp.trans List.perm_append_comm
  obtain ⟨fn, tmps, assign, body, hy, hR⟩ := hs w (hw.perm hp').left.hok
  refine ⟨about_true, ?_⟩
  rw [semAt_of (by rw [ho]; intro c e; cases e)]
  have hrun : (execOp a.eval o).run X.P w = .ok (.round l fn tmps assign body) w := by
    simp [execOp, ho, resolve, hA.evals ha, hA.eval hx, yieldV, Deferred.ofValue, invoke, hy]
  rw [hrun, hr0]
  refine ⟨fun h => by simp [fen, Fence.wide] at h, ?_⟩
  refine RoundIn.mono (R := fun e w' => ∃ v H', e = .returned v ∧ post v H' ∧ HW Hp w H' w') hR ?_
  rintro e w' ⟨v, H1, rfl, hpost, hw1⟩
  exact k v _ w' ⟨H1, hpost, rfl⟩ ((hw.frame hp' hw1).perm List.perm_append_comm)
end

/-- **AN ITERATOR OVER xs**: it calls yield on one after the other, till one says no more; it turns nothing of its own. -/
def IterSpec (P : Program) (g : FuncId) (ca : List Value) (Hit : Heap) {α : Type} (enc : α → List Value) (xs : List α) : Prop :=
  ∀ (l : Nat) (J Jx : List α → Heap → Prop),
    (∀ pre x suf hj, xs = pre ++ x :: suf → J pre hj → YSpec P l (enc x) hj (fun v H' => (v = .bool true ∧ J (pre ++ [x]) H') ∨ (v = .bool false ∧ Jx (pre ++ [x]) H'))) →
    ∀ hj, J [] hj → Spec P g (yieldV l :: ca) (Hit ++ hj) (fun _ H' => ∃ h2, (J xs h2 ∨ ∃ pre, Jx pre h2) ∧ H' = Hit ++ h2)

def pushE : List Nat → List Value → Env → Env
  | q :: ps, v :: vs, E => pushE ps vs ((q, v) :: E)
  | _, _, E => E
theorem AE.pushE {X : Ctx} : ∀ (ps : List Nat) (vs : List Value) (E : Env) (t : Array Value) (D : List Deferred), AE X E ⟨t, D⟩ → ps.all (fun q => Nat.blt q X.N) = true →
    AE X (Go.Proofs.Ytiokpmgbabpikaa.pushE ps vs E) ⟨(ps.zip vs).foldl (fun t x => t.setIfInBounds x.1 x.2) t, D⟩
  | [], _, E, t, D, h, _ => by simpa [Go.Proofs.Ytiokpmgbabpikaa.pushE] using h
  | q :: ps, [], E, t, D, h, _ => by simpa [Go.Proofs.Ytiokpmgbabpikaa.pushE] using h
  | q :: ps, v :: vs, E, t, D, h, hb => by
    simp only [List.all_cons, Bool.and_eq_true] at hb
    simp only [Go.Proofs.Ytiokpmgbabpikaa.pushE, List.zip_cons_cons, List.foldl_cons]
    exact AE.pushE ps vs _ _ D (h.put q v hb.1) hb.2

def markOf (dl : Nat) : Deferred := { target := .collected dl, args := #[] }
def dlE (dl : Nat) : Ent := ⟨some dl, .deferred (some [])⟩

/-- How a round's body may be left. -/
structure RndN {α G : Type} (I : List α → G → Prop) (GI : G → Heap) (ys : List α) (H1 : Heap) (w2 : World) (a : Act) (w3 : World) : Prop where
  out : ∃ gg, I ys gg ∧ HW H1 w2 (GI gg) w3
structure RndX {α GX : Type} (Ix : Code → List α → GX → Prop) (HX : GX → Heap) (ys : List α) (H1 : Heap) (w2 : World) (c : Code) (a : Act) (w3 : World) : Prop where
  out : ∃ gx, Ix c ys gx ∧ HW H1 w2 (HX gx) w3
abbrev rndPost {α G GX : Type} (I : List α → G → Prop) (GI : G → Heap) (Ix : Code → List α → GX → Prop) (HX : GX → Heap) (ys : List α) (H1 : Heap) (w2 : World) : Post :=
  { nrm := RndN I GI ys H1 w2, ret := RndX Ix HX ys H1 w2 .ret, ex := fun id => RndX Ix HX ys H1 w2 (.exit id) }
/-- Between the assignment to the loop's variables and its body. -/
def BegK {α G GX : Type} (P : Program) (l N : Nat) (body : Code) (I : List α → G → Prop) (GI : G → Heap) (Ix : Code → List α → GX → Prop) (HX : GX → Heap) (ys : List α) (H0 : Heap) (w0 : World) (a1 : Act) (w1 : World) : Prop :=
  ∃ E1 H1, a1.tmps.size = N ∧ a1.defers = [] ∧ (∀ s v, gtE E1 s = some v → a1.tmps[s]? = some v) ∧ HW H0 w0 H1 w1 ∧ ∀ w2, WC ⟨P, some l, N, [], H1, w2⟩ body (rndPost I GI Ix HX ys H1 w2) E1 H1
abbrev begPost {α G GX : Type} (P : Program) (l N : Nat) (body : Code) (I : List α → G → Prop) (GI : G → Heap) (Ix : Code → List α → GX → Prop) (HX : GX → Heap) (ys : List α) (H0 : Heap) (w0 : World) : Post :=
  { nrm := BegK P l N body I GI Ix HX ys H0 w0, ret := fun _ _ => False, ex := fun _ _ _ => False }
theorem WQ_begin {α G GX : Type} {P : Program} {l N : Nat} {body : Code} {I : List α → G → Prop} {GI : G → Heap} {Ix : Code → List α → GX → Prop} {HX : GX → Heap} {ys : List α} {H0 : Heap} {w0 : World} {E1 : Env} {H1 : Heap}
    (h : ∀ w2, WC ⟨P, some l, N, [], H1, w2⟩ body (rndPost I GI Ix HX ys H1 w2) E1 H1) : WQ ⟨P, some l, N, [], H0, w0⟩ (BegK P l N body I GI Ix HX ys H0 w0) E1 H1 :=
  fun _ _ ha hw => ⟨E1, H1, ha.size, ha.defers, ha.env, hw, h⟩
section
variable {α G GX : Type} {I : List α → G → Prop} {GI : G → Heap} {Ix : Code → List α → GX → Prop} {HX : GX → Heap} {ys : List α} {H1 : Heap} {w2 : World} {P : Program} {l N : Nat} {E : Env} {H F : Heap}
theorem WQ_rnd (gg : G) (hI : I ys gg) (q : Pulls (GI gg) H F) : WQ ⟨P, some l, N, [], H1, w2⟩ (RndN I GI ys H1 w2) E H :=
  fun _ _ _ hw => ⟨⟨gg, hI, (hw.perm q.perm).left⟩⟩
theorem WQ_rndR (gx : GX) (hI : Ix .ret ys gx) (q : Pulls (HX gx) H F) : WQ ⟨P, some l, N, [], H1, w2⟩ (RndX Ix HX ys H1 w2 .ret) E H :=
  fun _ _ _ hw => ⟨⟨gx, hI, (hw.perm q.perm).left⟩⟩
theorem WQ_rndX {id : Nat} (gx : GX) (hI : Ix (.exit id) ys gx) (q : Pulls (HX gx) H F) : WQ ⟨P, some l, N, [], H1, w2⟩ (RndX Ix HX ys H1 w2 (.exit id)) E H :=
  fun _ _ _ hw => ⟨⟨gx, hI, (hw.perm q.perm).left⟩⟩
end

theorem HW.turn1 {H0 F : Heap} {w0 w : World} {b : Nat} {ob : Obj} (ob' : Obj) (hw : HW H0 w0 (⟨some b, ob⟩ :: F) w) : HW H0 w0 (⟨some b, ob'⟩ :: F) (w.putObj b ob') := by
  have hlt : b < w.heap.size := hw.hok.lt (by simp [keys])
  exact hw.turn .head (by simp) (World.putObj_heap_same hlt) (fun k hk => World.putObj_heap_other hk) rfl rfl rfl
theorem HW.at {H0 F : Heap} {w0 w : World} {b : Nat} {ob : Obj} (hw : HW H0 w0 (⟨some b, ob⟩ :: F) w) : w.heap[b]? = some ob := by
  have := hw.hok.ok _ (List.mem_cons_self ..)
  simpa [Ent.ok] using this

/-- One round, out of the walk of the assignment and the body. -/
theorem ySpec_of {α G GX : Type} {P : Program} {l dl N : Nat} {assign body : Code} {I : List α → G → Prop} {GI : G → Heap} {Ix : Code → List α → GX → Prop} {HX : GX → Heap} {pre : List α} {x : α} {gg : G} {E : Env} {vs : List Value}
    {r : Loop} (hrp : r.pending = none) (hrs : r.state = .ready) (hra : r.assign = assign) (hrb : r.body = body) (hrd : r.tmps.size = N) (hre : ∀ s v, gtE E s = some v → r.tmps[s]? = some v) (hvs : vs.length = r.params.size)
    (hps : r.params.toList.all (fun q => Nat.blt q N) = true)
    (h : ∀ w, WC ⟨P, some l, N, [], GI gg, w⟩ assign (begPost P l N body I GI Ix HX (pre ++ [x]) (GI gg) w) (pushE r.params.toList vs E) (GI gg)) :
    YSpec P l vs (⟨some l, .loop r⟩ :: dlE dl :: GI gg) (fun v H' => (v = .bool true ∧ ∃ g', I (pre ++ [x]) g' ∧ H' = ⟨some l, .loop r⟩ :: dlE dl :: GI g') ∨
      (v = .bool false ∧ ∃ c gx, Ix c (pre ++ [x]) gx ∧ H' = ⟨some l, .loop { r with state := .done, pending := some c }⟩ :: dlE dl :: HX gx)) := by
  subst hra
  subst hrb
  intro w hok
  obtain ⟨hj, ehj⟩ : ∃ hj, hj = (⟨some l, .loop r⟩ :: dlE dl :: GI gg : Heap) := ⟨_, rfl⟩
  rw [← ehj] at hok ⊢
  have hw0 : HW hj w hj w := HW.start hok
  have hwL : HW hj w (⟨some l, .loop r⟩ :: dlE dl :: GI gg) w := ehj ▸ hw0
  have hL := hwL.at
  refine ⟨_, _, _, _, run_yield hL (by simpa using hvs), roundIn_of_wpIn trivial ?_⟩
  have hperm1 : (⟨some l, .loop r⟩ :: dlE dl :: GI gg : Heap).Perm (GI gg ++ [⟨some l, .loop r⟩, dlE dl]) := List.perm_append_comm (l₁ := [⟨some l, .loop r⟩, dlE dl])
  have hst : HW (GI gg) w (GI gg) w := HW.start (hwL.perm hperm1).left.hok
  have hae : AE ⟨P, some l, N, [], GI gg, w⟩ (pushE r.params.toList vs E) ⟨(r.params.zip vs.toArray).foldl (fun tmps (t, a) => tmps.setIfInBounds t a) r.tmps, []⟩ := by
    have := AE.pushE (X := ⟨P, some l, N, [], GI gg, w⟩) r.params.toList vs E r.tmps [] ⟨hrd, rfl, hre⟩ hps
    have e : (r.params.zip vs.toArray).foldl (fun tmps (t, a) => tmps.setIfInBounds t a) r.tmps = (r.params.toList.zip vs).foldl (fun t x => t.setIfInBounds x.1 x.2) r.tmps := by
      rw [← Array.foldl_toList]; simp
    rw [e]; exact this
  refine wpIn_mono (h w _ w hae hst) ?_
  intro e a1 w1 hq
  cases e with
  | normal =>
    obtain ⟨E1, H1, hs1, hd1, he1, hwB, hbody⟩ := hq
    have hw1 := (hwL.frame hperm1 hwB).perm List.perm_append_comm
    have hw1' : HW hj w (⟨some l, .loop r⟩ :: ([dlE dl] ++ H1)) w1 := hw1
    have hw2 := hw1'.turn1 (.loop { r with state := .busy })
    refine ⟨_, run_beginRound hw1'.at hrs, ?_⟩
    have hp2 : (⟨some l, .loop { r with state := .busy }⟩ :: ([dlE dl] ++ H1) : Heap).Perm (H1 ++ [⟨some l, .loop { r with state := .busy }⟩, dlE dl]) :=
      List.perm_append_comm (l₁ := [⟨some l, .loop { r with state := .busy }⟩, dlE dl])
    have hok2 : HOK H1 (w1.putObj l (.loop { r with state := .busy })) := (hw2.perm hp2).left.hok
    refine wpIn_mono (hbody _ a1 _ ⟨hs1, hd1, he1⟩ (HW.start hok2)) ?_
    intro e a3 w3 hq
    have fin : ∀ (H3 : Heap) (jump : Option Code), HW H1 (w1.putObj l (.loop { r with state := .busy })) H3 w3 →
        ∃ w4, (Instr.endRound l jump).run P w3 = .ok (.bool jump.isNone) w4 ∧ HW hj w (⟨some l, .loop { r with state := if jump.isNone then .ready else .done, pending := jump }⟩ :: dlE dl :: H3) w4 := by
      intro H3 jump hw3
      have h1 : HW hj w (⟨some l, .loop { r with state := .busy }⟩ :: dlE dl :: H3) w3 := (hw2.frame hp2 hw3).perm List.perm_append_comm
      refine ⟨_, run_endRound jump h1.at, ?_⟩
      exact h1.turn1 _
    cases e with
    | normal =>
      obtain ⟨g', hI, hw3⟩ := hq.out
      obtain ⟨w4, hr, hw4⟩ := fin _ none hw3
      refine ⟨_, w4, hr, _, _, rfl, .inl ⟨rfl, g', hI, rfl⟩, ?_⟩
      have e1 : ({ r with state := .ready, pending := none } : Loop) = r := by cases r; simp_all
      simpa [e1] using hw4
    | ret =>
      obtain ⟨gx, hI, hw3⟩ := hq.out
      obtain ⟨w4, hr, hw4⟩ := fin _ (some .ret) hw3
      simp only [Option.isNone_some, Bool.false_eq_true, if_false] at hw4
      refine ⟨_, w4, hr, _, _, rfl, .inr ⟨rfl, .ret, gx, hI, rfl⟩, ?_⟩
      exact hw4
    | exit id =>
      obtain ⟨gx, hI, hw3⟩ := hq.out
      obtain ⟨w4, hr, hw4⟩ := fin _ (some (.exit id)) hw3
      simp only [Option.isNone_some, Bool.false_eq_true, if_false] at hw4
      refine ⟨_, w4, hr, _, _, rfl, .inr ⟨rfl, .exit id, gx, hI, rfl⟩, ?_⟩
      exact hw4
    | goto t => exact hq.elim
    | panic ch => exact hq.elim
    | outgrown => exact hq.elim
  | ret => exact hq.elim
  | exit id => exact hq.elim
  | goto t => exact hq.elim
  | panic ch => exact hq.elim
  | outgrown => exact hq.elim

/-- **'for .. := range f { body }'**, outside of any round. -/
theorem WC_range {X : Ctx} {p : Post} {E : Env} {H : Heap} {α G GX : Type} {f : Operand} {ps : List Tmp} {assign body : Code} {g : FuncId} {ca : List Value} {Hit F1 F2 : Heap} {enc : α → List Value} {xs : List α}
    (hit : IterSpec X.P g ca Hit enc xs) (hro : X.ro = none) (hf : ev E f = some (.func (.func g) #[] ca.toArray)) (hlen : ∀ x, (enc x).length = ps.length) (hps : ps.all (fun q => Nat.blt q X.N) = true)
    (I : List α → G → Prop) (GI : G → Heap) (Ix : Code → List α → GX → Prop) (HX : GX → Heap) (g0 : G) (h0 : I [] g0) (hq : Pulls Hit H F1) (hq2 : Pulls (GI g0) F1 F2)
    (hround : ∀ l pre x suf gg, xs = pre ++ x :: suf → I pre gg → ∀ w, WC ⟨X.P, some l, X.N, [], GI gg, w⟩ assign (begPost X.P l X.N body I GI Ix HX (pre ++ [x]) (GI gg) w) (pushE ps (enc x) E) (GI gg))
    (hdone : ∀ dl gg, I xs gg → WQ { X with D := markOf dl :: X.D } p.nrm E (dlE dl :: (GI gg ++ (Hit ++ F2))))
    (hstop : ∀ dl c pre gx, Ix c pre gx → WC { X with D := markOf dl :: X.D } c p E (dlE dl :: (HX gx ++ (Hit ++ F2)))) :
    WC X (.rangeFunc f ps.toArray assign body) p E H := by
  intro a w ha hw
  refine wpIn_rangeFunc ?_
  intro fn _
  have hF : (fen X.ro).round = none := by rw [hro]; rfl
  rw [hF]
  obtain ⟨r, er⟩ : ∃ r : Loop, r = { state := .ready, pending := none, fn, tmps := a.tmps, params := ps.toArray, assign, body, defers := w.heap.size } := ⟨_, rfl⟩
  have hwa := (hw.alloc (.deferred (some []))).alloc (.loop r)
  rw [World.size_alloc] at hwa
  -- the iterator's contract
  have hS := hit (w.heap.size + 1) (fun ys h => ∃ gg, I ys gg ∧ h = (⟨some (w.heap.size + 1), .loop r⟩ :: dlE w.heap.size :: GI gg : Heap))
    (fun ys h => ∃ c gx, Ix c ys gx ∧ h = (⟨some (w.heap.size + 1), .loop { r with state := .done, pending := some c }⟩ :: dlE w.heap.size :: HX gx : Heap))
    (fun pre x suf hj hx hJ => by
      obtain ⟨gg, hI, rfl⟩ := hJ
      have e1 : r.params.toList = ps := by rw [er]
      refine ySpec_of (E := E) (N := X.N) (assign := assign) (body := body) (by rw [er]) (by rw [er]) (by rw [er]) (by rw [er]) (by rw [er]; exact ha.size) (by rw [er]; exact ha.env) (by rw [← Array.length_toList, e1]; exact hlen x) (by rw [e1]; exact hps)
        (fun w' => ?_)
      rw [e1]
      exact hround _ pre x suf gg hx hI w')
    (⟨some (w.heap.size + 1), .loop r⟩ :: dlE w.heap.size :: GI g0) ⟨g0, h0, rfl⟩
  have hp : (⟨some (w.heap.size + 1), .loop r⟩ :: ⟨some w.heap.size, .deferred (some [])⟩ :: H : Heap).Perm ((Hit ++ (⟨some (w.heap.size + 1), .loop r⟩ :: dlE w.heap.size :: GI g0)) ++ F2) := by
    have h1 : H.Perm (Hit ++ (GI g0 ++ F2)) := hq.perm.trans (List.Perm.append_left _ hq2.perm)
    have h2 := (List.Perm.append_left [⟨some (w.heap.size + 1), .loop r⟩, dlE w.heap.size] h1)
    refine h2.trans ?_
    rw [List.append_assoc, ← List.append_assoc]
    exact List.Perm.append_right _ List.perm_append_comm |>.trans (by rw [List.append_assoc]; exact .refl _)
  have hwp := hwa.perm hp
  obtain ⟨W1, eW⟩ : ∃ W1, W1 = (w.alloc (.deferred (some []))).alloc (.loop r) := ⟨_, rfl⟩
  rw [← eW] at hwa hwp
  refine ⟨w.heap.size + 1, [markOf w.heap.size], W1, { target := .fn (.func g) ca.toArray, args := #[yieldV (w.heap.size + 1)] }, W1, g, #[yieldV (w.heap.size + 1)] ++ ca.toArray, W1, ?_, ?_, fun _ _ => trivial, ?_, ?_, ?_⟩
  · rw [eW, er]; exact run_enterLoop_outer _ _ _ _ _
  · simp only [resolve, ha.eval hf]
    simp [go_sem, yieldV]
  · have := hS.enters (#[yieldV (w.heap.size + 1)] ++ ca.toArray) W1
    simpa [invoke] using this
  · intro h; simp [fen, Fence.wide] at h
  · have hc := hS.calls _ hwp.left.hok
    have e2 : (yieldV (w.heap.size + 1) :: ca).toArray = #[yieldV (w.heap.size + 1)] ++ ca.toArray := by simp
    rw [e2] at hc
    rw [hro]
    refine CallsIn.mono hc ?_
    rintro e w3 ⟨v, H', rfl, ⟨h2, hJ, rfl⟩, hw3⟩
    have hw3' := hwa.frame hp hw3
    have ha' : ∀ (D : List Deferred), AE { X with D := D ++ X.D } E { a with defers := D ++ a.defers } := fun D => ⟨ha.size, by simp [ha.defers], ha.env⟩
    rcases hJ with ⟨gg, hI, rfl⟩ | ⟨pre, c, gx, hI, rfl⟩
    · have hp3 : (Hit ++ (⟨some (w.heap.size + 1), .loop r⟩ :: dlE w.heap.size :: GI gg) ++ F2 : Heap).Perm (⟨some (w.heap.size + 1), .loop r⟩ :: dlE w.heap.size :: (GI gg ++ (Hit ++ F2))) := by
        rw [List.append_assoc]
        refine (List.perm_append_comm_assoc _ _ _).trans ?_
        exact .refl _
      have h3 := hw3'.perm hp3
      refine ⟨none, w3.putObj (w.heap.size + 1) (.loop { r with state := .exhausted }), ?_, ?_⟩
      · rw [run_endLoop h3.at (by rw [er]; simp)]; rw [er]
      · exact hdone w.heap.size gg hI _ _ (ha' [markOf w.heap.size]) ((h3.turn1 (.loop { r with state := .exhausted })).drop .head)
    · have hp3 : (Hit ++ (⟨some (w.heap.size + 1), .loop { r with state := .done, pending := some c }⟩ :: dlE w.heap.size :: HX gx) ++ F2 : Heap).Perm (⟨some (w.heap.size + 1), .loop { r with state := .done, pending := some c }⟩ :: dlE w.heap.size :: (HX gx ++ (Hit ++ F2))) := by
        rw [List.append_assoc]
        refine (List.perm_append_comm_assoc _ _ _).trans ?_
        exact .refl _
      have h3 := hw3'.perm hp3
      refine ⟨some c, w3.putObj (w.heap.size + 1) (.loop { r with state := .exhausted, pending := some c }), ?_, ?_⟩
      · rw [run_endLoop h3.at (by simp)]
      · have := hstop w.heap.size c pre gx hI _ _ (ha' [markOf w.heap.size]) ((h3.turn1 (.loop { r with state := .exhausted, pending := some c })).drop .head)
        rw [hro] at this
        exact this

/-! ### A function that leaves with marks -/
def RetM (P : Program) (fn : Func) (H : Heap) (w : World) (post : Value → Heap → Prop) (a : Act) (w' : World) : Prop :=
  bodyPostM Fence.wide 0 P fn (fun e w'' => ∃ v H', e = .returned v ∧ post v H' ∧ HW H w H' w'') .ret a w'
abbrev fnPostM (P : Program) (fn : Func) (H : Heap) (w : World) (post : Value → Heap → Prop) : Post :=
  { nrm := RetM P fn H w post, ret := RetM P fn H w post, ex := fun _ _ _ => False }
theorem Spec.ofM {P : Program} {f : FuncId} {fn : Func} {c : Code} {N : Nat} {as : List Value} {E : Env} {H : Heap} {post : Value → Heap → Prop}
    (hf : P.funcs[f]? = some fn) (hb : fn.body = some c) (hname : (fn.name == "runtime.NumGoroutine") = false) (hN : fn.ntmps = N) (hl : Nat.ble as.length N = true) (hE : argEnv 0 as = E)
    (h : ∀ w, WC ⟨P, none, N, [], H, w⟩ c (fnPostM P fn H w post) E H) : Spec P f as H post := by
  refine ⟨Enters.mk hf hname hb, fun w hw => callsIn_of_wp_marks hf hb trivial ?_⟩
  have hl' : as.length ≤ N := by simpa [Nat.ble_eq] using hl
  subst hE
  refine wpIn_mono (h w _ w ⟨?_, rfl, ?_⟩ (HW.start hw)) ?_
  · simp [hN]; omega
  · intro s v hs
    obtain ⟨-, h2⟩ := get_argEnv as 0 s v hs
    have h3 : as[s]? = some v := by simpa using h2
    have hlt : s < as.length := (List.getElem?_eq_some_iff.1 h3).1
    rw [Array.getElem?_append_left (by simpa using hlt)]
    simpa using h3
  · intro e a w' hq
    cases e with
    | normal => exact hq
    | ret => exact hq
    | exit id => exact hq.elim
    | goto l => exact hq.elim
    | panic ch => exact hq.elim
    | outgrown => exact hq.elim
/-- The end of a function that holds one range over a function. -/
theorem WQ_retM {X : Ctx} {E : Env} {H F H' F' : Heap} {fn : Func} {rs : List ResultVar} {vs : List Value} {v : Value} {post : Value → Heap → Prop} {dl : Nat} (hD : X.D = [markOf dl]) (hp1 : Pull (dlE dl) H F) (hr : fn.results = rs.toArray)
    (h : RVs X E F rs vs) (hv : resV vs = v) (hp : post v H') (hq : Pulls H' F F') : WQ X (RetM X.P fn X.H0 X.w0 post) E H := by
  intro a w ha hw
  have hw1 := hw.perm hp1.perm
  have hw2 := (hw1.turn1 (.deferred none)).drop .head
  show LeavesInM Fence.wide 0 X.P fn a.tmps _ a.defers .returning w
  rw [ha.defers, hD]
  refine ⟨by simp, .inl ⟨dl, _, rfl, run_takeDeferred hw1.at, ?_⟩⟩
  refine ⟨v, ?_, v, H', rfl, hp, (hw2.perm hq.perm).left⟩
  rw [run_results hr h ha hw2, hv]
theorem WQ_retM0 {X : Ctx} {E : Env} {H H' F' : Heap} {fn : Func} {rs : List ResultVar} {vs : List Value} {v : Value} {post : Value → Heap → Prop} (hD : X.D = []) (hr : fn.results = rs.toArray)
    (h : RVs X E H rs vs) (hv : resV vs = v) (hp : post v H') (hq : Pulls H' H F') : WQ X (RetM X.P fn X.H0 X.w0 post) E H := by
  intro a w ha hw
  show LeavesInM Fence.wide 0 X.P fn a.tmps _ a.defers .returning w
  rw [ha.defers, hD]
  refine ⟨v, ?_, v, H', rfl, hp, (hw.perm hq.perm).left⟩
  rw [run_results hr h ha hw, hv]
end Go.Proofs.Ytiokpmgbabpikaa
